import PyProof.Rows.All
import Wide.All
import OpenK.AllK
import Wide.FinOn
import HandS.Base
import HandS.Call
import HandS.List
import HandS.Comp
import HandS.Ends
import HandS.Exc
import HandS.TryOnly
import HandS.ExcOwn
import HandS.Words
import HandS.Strs
import KE.KeyNested
import PyProof.DictRoadsH
import PyProof.DictStraight
import HandS.TupAny
import HandS.Wide
import HandS.More
import HandS.WordsExc
import HandS.Dict
import KE.KDictDisplayH
import HandS.Iter
import KE.KDictWalk
import KE.GoesMore
import PyProof.EnumMake
import HandS.SetFor
import HandS.SortInts
import HandS.IsInst
import HandS.ForMost
import HandS.Style
import HandS.Rev
import HandS.Conv
import KE.SortData
import PyProof.ReprRoads
import PyProof.ReprBulk
import PyProof.CallFns
import HandS.RaiseMore
import HandS.Zip
import KE.KDictPairs
import KE.KDictKeyed
import KE.KDictSum
import KE.KDictCopyH
import HandS.ExcInit
import KE.DataMinMax
import HandS.Text
import HandS.StrMore
import HandS.FStr
import PyProof.NeKinds
import PySem.Challenge.RW_ropewarren_k01_houses_taken_or_not
set_option Elab.async false
set_option linter.all false
set_option maxRecDepth 100000
/-! SEa: values as data (tuples are values), an own memory of cells, and how both stand in HandS's abstract heap. -/
namespace RW
open PySem L2

inductive D where
  | non | bl (b : Bool) | int (i : Int) | str (s : Str) | tup (l : List D) | frl (l : List D) | ref (n : Nat) | fn (x : Str)
instance : Inhabited D := ⟨.non⟩
inductive Cell where
  | lst (l : List D) | dic (l : List (D × D)) | tdic (l : List (D × D)) | iset (l : List Int) | lck (t : Bool) (l : List (D × D)) | ins (c : Str) (fs : List (Str × D))
abbrev Mem := List Cell
abbrev Rho := List (Option D)
inductive Res (α : Type) where
  | ok (a : α) (m : Mem) | exc (c : Str) (fs : List D) (m : Mem) | stuck
@[simp] def Res.bind {α β : Type} (r : Res α) (k : α → Mem → Res β) : Res β := match r with
  | .ok a m => k a m
  | .exc c fs m => .exc c fs m
  | .stuck => .stuck
theorem Res.bind_assoc {α β γ : Type} (r : Res α) (k : α → Mem → Res β) (k' : β → Mem → Res γ) : (r.bind k).bind k' = r.bind fun a m => (k a m).bind k' := by
  cases r <;> rfl

/-! ### how data stand in the heap -/
/-- what stays through the whole law -/
structure Gd where
  P : Program
  w : World
  K : PySem.W.Frag
  mg : Str → Option Value
section
variable (G : Gd) (ι : List Addr) (H : Hp)
/-- at a stands a list that nobody changes -/
def FrL (a : Addr) (vs : List V) : Prop := (∃ o, H a = some (.frz o (.lst vs))) ∨
  ∃ (o : Obj) (its : Array Value) (n : Nat), G.K.lookup a = some o ∧ o.cls = .type "list" ∧ o.dict = none ∧ o.data = .seq its n ∧ its.size ≤ sizeLine ∧ Vals vs its.toList
theorem FrL.sq {a : Addr} {vs : List V} (h : FrL G H a vs) : SqL G.K H a vs := by
  rcases h with ⟨o, h⟩ | h
  · exact .inl (.inr ⟨o, h⟩)
  · exact .inr h
mutual
def Rep : D → V → Prop
  | .non, v => v = .non
  | .bl b, v => v = .bl b
  | .int i, v => v = .int i
  | .str s, v => v = .str s
  | .ref n, v => ∃ a, ι[n]? = some a ∧ v = .ref a
  | .fn x, v => ∃ a, G.mg x = some (.ref a) ∧ v = .ref a
  | .tup l, v => ∃ a vs, v = .ref a ∧ SqT G.K H a vs ∧ Reps l vs
  | .frl l, v => ∃ a vs, v = .ref a ∧ FrL G H a vs ∧ Reps l vs
def Reps : List D → List V → Prop
  | [], vs => vs = []
  | d :: l, vs => ∃ v r, vs = v :: r ∧ Rep d v ∧ Reps l r
end
end
section
variable {G : Gd} {ι : List Addr} {H : Hp}
theorem Reps.nil : Reps G ι H [] [] := by unfold Reps; rfl
theorem Reps.cons {d : D} {v : V} {l : List D} {r : List V} (h : Rep G ι H d v) (t : Reps G ι H l r) : Reps G ι H (d :: l) (v :: r) := by
  unfold Reps; exact ⟨v, r, rfl, h, t⟩
theorem Reps.nil_inv {vs : List V} (h : Reps G ι H [] vs) : vs = [] := by unfold Reps at h; exact h
theorem Reps.cons_inv {d : D} {l : List D} {vs : List V} (h : Reps G ι H (d :: l) vs) : ∃ v r, vs = v :: r ∧ Rep G ι H d v ∧ Reps G ι H l r := by
  unfold Reps at h; exact h
theorem Reps.length : ∀ {l : List D} {vs : List V}, Reps G ι H l vs → vs.length = l.length
  | [], _, h => by rw [h.nil_inv]; rfl
  | d :: l, _, h => by
    obtain ⟨v, r, rfl, _, t⟩ := h.cons_inv
    simp [Reps.length t]
theorem Reps.get : ∀ {l : List D} {vs : List V} {i : Nat} {d : D}, Reps G ι H l vs → l[i]? = some d → ∃ v, vs[i]? = some v ∧ Rep G ι H d v
  | [], _, _, _, _, e => by simp at e
  | d :: l, _, i, x, h, e => by
    obtain ⟨v, r, rfl, h1, t⟩ := h.cons_inv
    cases i with
    | zero => simp at e; subst e; exact ⟨v, rfl, h1⟩
    | succ i => simpa using Reps.get t (by simpa using e)
theorem Reps.get' {l : List D} {vs : List V} {i : Nat} {v : V} (h : Reps G ι H l vs) (e : vs[i]? = some v) : ∃ d, l[i]? = some d ∧ Rep G ι H d v := by
  have hl := h.length
  have hi : i < vs.length := (List.getElem?_eq_some_iff.mp e).1
  have e2 : l[i]? = some l[i] := List.getElem?_eq_getElem (by omega)
  obtain ⟨v', e3, r⟩ := h.get e2
  rw [e] at e3; cases e3
  exact ⟨_, e2, r⟩
theorem Reps.append : ∀ {l l' : List D} {vs vs' : List V}, Reps G ι H l vs → Reps G ι H l' vs' → Reps G ι H (l ++ l') (vs ++ vs')
  | [], _, _, _, h, h' => by rw [h.nil_inv]; exact h'
  | d :: l, _, _, _, h, h' => by
    obtain ⟨v, r, rfl, h1, t⟩ := h.cons_inv
    exact .cons h1 (Reps.append t h')
theorem Reps.set : ∀ {l : List D} {vs : List V} (i : Nat) {d : D} {v : V}, Reps G ι H l vs → Rep G ι H d v → Reps G ι H (l.set i d) (vs.set i v)
  | [], _, _, _, _, h, _ => by rw [h.nil_inv]; exact .nil
  | x :: l, _, 0, _, _, h, h' => by
    obtain ⟨v, r, rfl, h1, t⟩ := h.cons_inv
    exact .cons h' t
  | x :: l, _, i + 1, _, _, h, h' => by
    obtain ⟨v, r, rfl, h1, t⟩ := h.cons_inv
    exact .cons h1 (Reps.set i t h')
theorem Reps.take : ∀ {l : List D} {vs : List V} (n : Nat), Reps G ι H l vs → Reps G ι H (l.take n) (vs.take n)
  | _, _, 0, _ => by simp; exact .nil
  | [], _, n + 1, h => by rw [h.nil_inv]; simp; exact .nil
  | d :: l, _, n + 1, h => by
    obtain ⟨v, r, rfl, h1, t⟩ := h.cons_inv
    simp; exact .cons h1 (Reps.take n t)
theorem Reps.drop : ∀ {l : List D} {vs : List V} (n : Nat), Reps G ι H l vs → Reps G ι H (l.drop n) (vs.drop n)
  | _, _, 0, h => by simpa using h
  | [], _, n + 1, h => by rw [h.nil_inv]; simp; exact .nil
  | d :: l, _, n + 1, h => by
    obtain ⟨v, r, rfl, h1, t⟩ := h.cons_inv
    simp; exact Reps.drop n t
theorem Reps.reverse : ∀ {l : List D} {vs : List V}, Reps G ι H l vs → Reps G ι H l.reverse vs.reverse
  | [], _, h => by rw [h.nil_inv]; exact .nil
  | d :: l, _, h => by
    obtain ⟨v, r, rfl, h1, t⟩ := h.cons_inv
    rw [List.reverse_cons, List.reverse_cons]
    exact (Reps.reverse t).append (.cons h1 .nil)
theorem Reps.ints : ∀ {ns : List Int} {vs : List V}, Reps G ι H (ns.map D.int) vs → vs = ns.map V.int
  | [], _, h => h.nil_inv
  | n :: ns, _, h => by
    obtain ⟨v, r, rfl, h1, t⟩ := h.cons_inv
    unfold Rep at h1
    rw [h1, Reps.ints t]; rfl
theorem Reps.of_ints : ∀ (ns : List Int), Reps G ι H (ns.map D.int) (ns.map V.int)
  | [] => .nil
  | n :: ns => .cons (by unfold Rep; rfl) (Reps.of_ints ns)
theorem Reps.strs : ∀ {ns : List Str} {vs : List V}, Reps G ι H (ns.map D.str) vs → vs = ns.map V.str
  | [], _, h => h.nil_inv
  | n :: ns, _, h => by
    obtain ⟨v, r, rfl, h1, t⟩ := h.cons_inv
    unfold Rep at h1
    rw [h1, Reps.strs t]; rfl
theorem Reps.of_strs : ∀ (ns : List Str), Reps G ι H (ns.map D.str) (ns.map V.str)
  | [] => .nil
  | n :: ns => .cons (by unfold Rep; rfl) (Reps.of_strs ns)
theorem Reps.bls : ∀ {ns : List Bool} {vs : List V}, Reps G ι H (ns.map D.bl) vs → vs = ns.map V.bl
  | [], _, h => h.nil_inv
  | n :: ns, _, h => by
    obtain ⟨v, r, rfl, h1, t⟩ := h.cons_inv
    unfold Rep at h1
    rw [h1, Reps.bls t]; rfl
end

/-- what stays: the tuples, the locked lists; places of cells -/
structure Ext (ι : List Addr) (H : Hp) (ι' : List Addr) (H' : Hp) : Prop where
  pre : ι <+: ι'
  tup : ∀ a xs, H a = some (.tup xs) → H' a = some (.tup xs)
  frz : ∀ a o u, H a = some (.frz o u) → (∃ xs, u = .lst xs ∨ u = .tup xs) → H' a = some (.frz o u)
section
variable {G : Gd} {ι ι' : List Addr} {H H' : Hp}
theorem prefix_get {ι ι' : List Addr} (p : ι <+: ι') {n : Nat} {a : Addr} (h : ι[n]? = some a) : ι'[n]? = some a := by
  obtain ⟨t, rfl⟩ := p
  rw [List.getElem?_append_left (List.getElem?_eq_some_iff.mp h).1]; exact h
mutual
theorem Rep.ext (x : Ext ι H ι' H') : ∀ {d : D} {v : V}, Rep G ι H d v → Rep G ι' H' d v
  | .non, _, h => by unfold Rep at h ⊢; exact h
  | .bl _, _, h => by unfold Rep at h ⊢; exact h
  | .int _, _, h => by unfold Rep at h ⊢; exact h
  | .str _, _, h => by unfold Rep at h ⊢; exact h
  | .fn _, _, h => by unfold Rep at h ⊢; exact h
  | .ref n, _, h => by
    unfold Rep at h ⊢
    obtain ⟨a, h1, h2⟩ := h
    exact ⟨a, prefix_get x.pre h1, h2⟩
  | .tup l, _, h => by
    unfold Rep at h ⊢
    obtain ⟨a, vs, h1, h2, h3⟩ := h
    refine ⟨a, vs, h1, ?_, Reps.ext x h3⟩
    rcases h2 with (h2 | ⟨o, h2⟩) | h2
    · exact .inl (.inl (x.tup _ _ h2))
    · exact .inl (.inr ⟨o, x.frz _ _ _ h2 ⟨_, .inr rfl⟩⟩)
    · exact .inr h2
  | .frl l, _, h => by
    unfold Rep at h ⊢
    obtain ⟨a, vs, h1, h2, h3⟩ := h
    refine ⟨a, vs, h1, ?_, Reps.ext x h3⟩
    rcases h2 with ⟨o, h2⟩ | h2
    · exact .inl ⟨o, x.frz _ _ _ h2 ⟨_, .inl rfl⟩⟩
    · exact .inr h2
theorem Reps.ext (x : Ext ι H ι' H') : ∀ {l : List D} {vs : List V}, Reps G ι H l vs → Reps G ι' H' l vs
  | [], _, h => by rw [h.nil_inv]; exact .nil
  | d :: l, _, h => by
    obtain ⟨v, r, rfl, h1, t⟩ := h.cons_inv
    exact .cons (Rep.ext x h1) (Reps.ext x t)
end
end

/-! ### cells -/
/-- keys of a plain dict: ints and texts -/
def D.key? : D → Option Key
  | .int i => some (.inl i)
  | .str s => some (.inr s)
  | _ => none
section
variable (G : Gd) (ι : List Addr) (H : Hp)
abbrev RepP : (D × D) → (Key × V) → Prop := fun p q => p.1.key? = some q.1 ∧ Rep G ι H p.2 q.2
abbrev RepF : (Str × D) → (Str × V) → Prop := fun p q => p.1 = q.1 ∧ Rep G ι H p.2 q.2
/-- the dict object at a, its keys nested tuples -/
def tdPhi (a : Addr) (xs : List (NestedKey × Addr × Value)) : Heap → Prop := fun h => ∃ o es ep, h.get? a = some o ∧ o.ExactDict ∧ o.data = .dict es ep ∧ es.toList = xs.map (entryOfKey (nestedKind G.P G.w))
mutual
def D.nk? : D → Option NestedKey
  | .non => some .none
  | .bl b => some (.num (if b = true then 1 else 0))
  | .int i => some (.num i)
  | .str s => some (.text s)
  | .tup l => (D.nks? l).map NestedKey.tup
  | _ => none
def D.nks? : List D → Option (List NestedKey)
  | [] => some []
  | d :: l => match D.nk? d, D.nks? l with
    | some k, some r => some (k :: r)
    | _, _ => none
end
abbrev RepT : (D × D) → (NestedKey × Addr × Value) → Prop := fun p x => p.1.nk? = some x.1 ∧ x.1.depth ≤ 8 ∧ Rep G ι H p.1 (.ref x.2.1) ∧ ∃ v, Rep G ι H p.2 v ∧ RelV v x.2.2
def CellOk (a : Addr) : Cell → Prop
  | .lst l => ∃ vs, H a = some (.lst vs) ∧ Reps G ι H l vs
  | .dic l => ∃ kvs, H a = some (.dK kvs) ∧ Paired (RepP G ι H) l kvs
  | .tdic l => ∃ xs, H a = some (.ext (tdPhi G a xs)) ∧ Paired (RepT G ι H) l xs ∧ (xs.map (·.1)).Nodup ∧ xs.length ≤ sizeLine ∧ (a == sysModules) = false
  | .iset l => H a = some (SetO G.w a (fun i => decide (i ∈ l)) l.length) ∧ l.Pairwise (· < ·)
  | .lck false l => ∃ od kvs, H a = some (.frz od (.dK kvs)) ∧ Paired (RepP G ι H) l kvs
  | .lck true l => ∃ od xs, H a = some (.frz od (.ext (tdPhi G a xs))) ∧ Paired (RepT G ι H) l xs ∧ (xs.map (·.1)).Nodup ∧ xs.length ≤ sizeLine ∧ (a == sysModules) = false
  | .ins c fs => ∃ C dx gs, G.mg c = some (.ref C) ∧ H a = some (.ins C dx gs) ∧ Paired (RepF G ι H) fs gs
structure Rel (μ : Mem) : Prop where
  len : ι.length = μ.length
  nd : ι.Nodup
  cell : ∀ (i : Nat) (c : Cell) (a : Addr), μ[i]? = some c → ι[i]? = some a → CellOk G ι H a c
/-- the environment -/
structure EnvOk (ρ : Rho) (σ : St) : Prop where
  len : ρ.length = σ.length
  at_ : ∀ (i : Nat) (d : D), ρ[i]? = some (some d) → ∃ v, σ[i]? = some (some v) ∧ Rep G ι H d v
end
end RW

/-! SEb: what grows; mirrors of expressions and statements; the judgements. -/
namespace RW
open PySem L2
def gOf (X : Cx) : Gd := ⟨X.prog, X.w, X.K, X.mg⟩

structure Grow (ι : List Addr) (H : Hp) (ι' : List Addr) (H' : Hp) : Prop where
  pre : ι <+: ι'
  keep : ∀ a o, H a = some o → a ∉ ι → H' a = some o
  new : ∀ a ∈ ι', a ∈ ι ∨ H a = none
  lock : ∀ a o u, H a = some (.frz o u) → H' a = some (.frz o u)
section
variable {G : Gd} {ι ι' ι2 : List Addr} {H H' H2 : Hp} {μ μ' : Mem} {ρ : Rho} {σ : St}
theorem Grow.refl : Grow ι H ι H := ⟨List.prefix_refl _, fun _ _ h _ => h, fun _ h => .inl h, fun _ _ _ h => h⟩
theorem Grow.trans (a : Grow ι H ι' H') (b : Grow ι' H' ι2 H2) : Grow ι H ι2 H2 := by
  refine ⟨a.pre.trans b.pre, fun x o h n => ?_, fun x h => ?_, fun x o u h => b.lock x o u (a.lock x o u h)⟩
  · refine b.keep x o (a.keep x o h n) fun z => ?_
    rcases a.new x z with z | z
    · exact n z
    · rw [h] at z; cases z
  · rcases b.new x h with z | z
    · exact a.new x z
    · by_cases n : x ∈ ι
      · exact .inl n
      · refine .inr ?_
        cases q : H x with
        | none => rfl
        | some o => rw [a.keep x o q n] at z; cases z
theorem mem_at {x : Addr} (h : x ∈ ι) : ∃ i : Nat, ι[i]? = some x := List.mem_iff_getElem?.mp h
theorem Rel.at_mem (r : Rel G ι H μ) {x : Addr} (h : x ∈ ι) : ∃ (i : Nat) (c : Cell), ι[i]? = some x ∧ μ[i]? = some c ∧ CellOk G ι H x c := by
  obtain ⟨i, e⟩ := mem_at h
  have hi : i < μ.length := by rw [← r.len]; exact (List.getElem?_eq_some_iff.mp e).1
  exact ⟨i, μ[i], e, List.getElem?_eq_getElem hi, r.cell i _ x (List.getElem?_eq_getElem hi) e⟩
/-- no tuple, no locked thing among the cells -/
theorem CellOk.some {x : Addr} {c : Cell} (h : CellOk G ι H x c) : ∃ o, H x = some o ∧ (∀ xs, o ≠ .tup xs) ∧ (∀ a xs, o ≠ .frz a (.lst xs)) ∧ (∀ a xs, o ≠ .frz a (.tup xs)) ∧ (∀ y, o ≠ .own y) := by
  cases c with
  | lst l => obtain ⟨vs, h, _⟩ := h; exact ⟨_, h, fun _ e => (nomatch e), fun _ _ e => (nomatch e), fun _ _ e => (nomatch e), fun _ e => (nomatch e)⟩
  | dic l => obtain ⟨vs, h, _⟩ := h; exact ⟨_, h, fun _ e => (nomatch e), fun _ _ e => (nomatch e), fun _ _ e => (nomatch e), fun _ e => (nomatch e)⟩
  | tdic l => obtain ⟨vs, h, _⟩ := h; exact ⟨_, h, fun _ e => (nomatch e), fun _ _ e => (nomatch e), fun _ _ e => (nomatch e), fun _ e => (nomatch e)⟩
  | iset l => obtain ⟨h, _⟩ := h; exact ⟨_, h, fun _ e => (nomatch e), fun _ _ e => (nomatch e), fun _ _ e => (nomatch e), fun _ e => (nomatch e)⟩
  | lck t l =>
    cases t with
    | false => obtain ⟨_, vs, h, _⟩ := h; exact ⟨_, h, fun _ e => (nomatch e), fun _ _ e => (nomatch e), fun _ _ e => (nomatch e), fun _ e => (nomatch e)⟩
    | true => obtain ⟨_, vs, h, _⟩ := h; exact ⟨_, h, fun _ e => (nomatch e), fun _ _ e => (nomatch e), fun _ _ e => (nomatch e), fun _ e => (nomatch e)⟩
  | ins c fs => obtain ⟨_, _, _, _, h, _⟩ := h; exact ⟨_, h, fun _ e => (nomatch e), fun _ _ e => (nomatch e), fun _ _ e => (nomatch e), fun _ e => (nomatch e)⟩
theorem Rel.notTup (r : Rel G ι H μ) {x : Addr} {xs : List V} (h : H x = some (.tup xs)) : x ∉ ι := fun hm => by
  obtain ⟨i, c, _, _, z⟩ := r.at_mem hm
  obtain ⟨o, e, n, _⟩ := z.some
  rw [h] at e; cases e; exact n _ rfl
theorem Rel.notFrz (r : Rel G ι H μ) {x : Addr} {o : Obj} {u : HO} (h : H x = some (.frz o u)) (hu : ∃ xs, u = .lst xs ∨ u = .tup xs) : x ∉ ι := fun hm => by
  obtain ⟨i, c, _, _, z⟩ := r.at_mem hm
  obtain ⟨o, e, _, n, n2, _⟩ := z.some
  obtain ⟨xs, rfl | rfl⟩ := hu
  · rw [h] at e; cases e; exact n _ _ rfl
  · rw [h] at e; cases e; exact n2 _ _ rfl
theorem Rel.notOwn (r : Rel G ι H μ) {x y : Addr} (h : H x = some (.own y)) : x ∉ ι := fun hm => by
  obtain ⟨i, c, _, _, z⟩ := r.at_mem hm
  obtain ⟨o, e, _, _, _, n⟩ := z.some
  rw [h] at e; cases e; exact n _ rfl
theorem Rel.notNone (r : Rel G ι H μ) {x : Addr} (h : H x = none) : x ∉ ι := fun hm => by
  obtain ⟨i, c, _, _, z⟩ := r.at_mem hm
  obtain ⟨o, e, _⟩ := z.some
  rw [h] at e; cases e
theorem Grow.ext (g : Grow ι H ι' H') (r : Rel G ι H μ) : Ext ι H ι' H' :=
  ⟨g.pre, fun _ _ h => g.keep _ _ h (r.notTup h), fun _ _ _ h q => g.keep _ _ h (r.notFrz h q)⟩
theorem EnvOk.ext (e : EnvOk G ι H ρ σ) (x : Ext ι H ι' H') : EnvOk G ι' H' ρ σ :=
  ⟨e.len, fun i d h => let ⟨v, h1, h2⟩ := e.at_ i d h; ⟨v, h1, h2.ext x⟩⟩
theorem EnvOk.set (e : EnvOk G ι H ρ σ) (i : Nat) {d : D} {v : V} (r : Rep G ι H d v) : EnvOk G ι H (ρ.set i (some d)) (σ.set i (some v)) := by
  refine ⟨by simp [e.len], fun j x h => ?_⟩
  by_cases hj : i = j
  · subst hj
    by_cases hi : i < ρ.length
    · rw [List.getElem?_set_self hi] at h
      cases h
      exact ⟨v, List.getElem?_set_self (by rw [← e.len]; exact hi), r⟩
    · rw [List.getElem?_eq_none (by simpa using hi)] at h; cases h
  · rw [List.getElem?_set_ne hj] at h
    rw [List.getElem?_set_ne hj]
    exact e.at_ j x h

/-! ### new things, things changed -/
theorem Paired.imp' {α β : Type} {F F' : α → β → Prop} : ∀ {l₁ : List α} {l₂ : List β}, Paired F l₁ l₂ → (∀ a b, F a b → F' a b) → Paired F' l₁ l₂
  | _, _, .nil, _ => .nil
  | _, _, .cons r t, f => .cons (f _ _ r) (Paired.imp' t f)
/-- a cell not touched stays a cell -/
theorem CellOk.ext {x : Addr} {c : Cell} (h : CellOk G ι H x c) (e : Ext ι H ι' H') (s : H' x = H x) : CellOk G ι' H' x c := by
  cases c with
  | lst l => obtain ⟨vs, h, r⟩ := h; exact ⟨vs, s.trans h, r.ext e⟩
  | dic l => obtain ⟨vs, h, r⟩ := h; exact ⟨vs, s.trans h, Paired.imp' r fun _ _ z => ⟨z.1, z.2.ext e⟩⟩
  | tdic l =>
    obtain ⟨vs, h, r, q⟩ := h
    exact ⟨vs, s.trans h, Paired.imp' r fun _ _ z => ⟨z.1, z.2.1, z.2.2.1.ext e, let ⟨v, z1, z2⟩ := z.2.2.2; ⟨v, z1.ext e, z2⟩⟩, q⟩
  | iset l => exact ⟨s.trans h.1, h.2⟩
  | lck t l =>
    cases t with
    | false => obtain ⟨od, vs, h, r⟩ := h; exact ⟨od, vs, s.trans h, Paired.imp' r fun _ _ z => ⟨z.1, z.2.ext e⟩⟩
    | true =>
      obtain ⟨od, vs, h, r, q⟩ := h
      exact ⟨od, vs, s.trans h, Paired.imp' r fun _ _ z => ⟨z.1, z.2.1, z.2.2.1.ext e, let ⟨v, z1, z2⟩ := z.2.2.2; ⟨v, z1.ext e, z2⟩⟩, q⟩
  | ins c fs => obtain ⟨C, dx, gs, h1, h2, h3⟩ := h; exact ⟨C, dx, gs, h1, s.trans h2, Paired.imp' h3 fun _ _ z => ⟨z.1, z.2.ext e⟩⟩
/-- a thing laid that is no cell -/
theorem grow_laid {p : Addr} {o : HO} (r : Rel G ι H μ) (h : H p = none) : Grow ι H ι (upd H p o) ∧ Rel G ι (upd H p o) μ := by
  have g : Grow ι H ι (upd H p o) := ⟨List.prefix_refl _, fun a u e _ => by rw [upd_ne (ne_of_none e h)]; exact e, fun _ z => .inl z, fun a o u e => by rw [upd_ne (ne_of_none e h)]; exact e⟩
  refine ⟨g, r.len, r.nd, fun i c a h1 h2 => ?_⟩
  have z := r.cell i c a h1 h2
  obtain ⟨u, e, _⟩ := z.some
  exact z.ext (g.ext r) (upd_ne (ne_of_none e h))
theorem nodup_snoc {p : Addr} (nd : ι.Nodup) (h : p ∉ ι) : (ι ++ [p]).Nodup := by
  rw [List.nodup_append]
  exact ⟨nd, by simp, fun a ha b hb e => by simp at hb; subst hb; subst e; exact h ha⟩
/-- what is tracked already becomes a cell -/
theorem grow_adopt {p : Addr} {c : Cell} (r : Rel G ι H μ) (hn : p ∉ ι) (new : CellOk G (ι ++ [p]) H p c) : Rel G (ι ++ [p]) H (μ ++ [c]) := by
  have x : Ext ι H (ι ++ [p]) H := ⟨List.prefix_append _ _, fun _ _ h => h, fun _ _ _ h _ => h⟩
  refine ⟨by simp [r.len], nodup_snoc r.nd hn, fun i d a h1 h2 => ?_⟩
  by_cases hi : i < μ.length
  · rw [List.getElem?_append_left hi] at h1
    rw [List.getElem?_append_left (by rw [r.len]; exact hi)] at h2
    exact (r.cell i d a h1 h2).ext x rfl
  · by_cases he : i = μ.length
    · subst he
      have e1 : (μ ++ [c])[μ.length]? = some c := by simp
      have e2 : (ι ++ [p])[μ.length]? = some p := by rw [← r.len]; simp
      rw [e1] at h1; rw [e2] at h2
      cases h1; cases h2
      exact new
    · rw [List.getElem?_eq_none (by simp; omega)] at h1; cases h1
theorem grow_cell {p : Addr} {o : HO} {c : Cell} (r : Rel G ι H μ) (h : H p = none) (new : Ext ι H (ι ++ [p]) (upd H p o) → CellOk G (ι ++ [p]) (upd H p o) p c) : Grow ι H (ι ++ [p]) (upd H p o) ∧ Rel G (ι ++ [p]) (upd H p o) (μ ++ [c]) := by
  obtain ⟨g, r'⟩ := grow_laid (o := o) r h
  have x : Ext ι H (ι ++ [p]) (upd H p o) := ⟨List.prefix_append _ _, (g.ext r).tup, (g.ext r).frz⟩
  have hn := r.notNone h
  refine ⟨⟨List.prefix_append _ _, g.keep, fun a ha => ?_, g.lock⟩, grow_adopt r' hn (new x)⟩
  rcases List.mem_append.mp ha with z | z
  · exact .inl z
  · simp at z; subst z; exact .inr h
/-- a cell changed -/
theorem grow_set {n : Nat} {p : Addr} {o : HO} {c : Cell} (r : Rel G ι H μ) (hp : ι[n]? = some p) (nf : ∀ a u, H p ≠ some (.frz a u)) (new : Ext ι H ι (upd H p o) → CellOk G ι (upd H p o) p c) : Grow ι H ι (upd H p o) ∧ Rel G ι (upd H p o) (μ.set n c) := by
  have hm : p ∈ ι := List.mem_of_getElem? hp
  have g : Grow ι H ι (upd H p o) := ⟨List.prefix_refl _, fun a u e na => by rw [upd_ne (fun z => na (by rw [z]; exact hm))]; exact e, fun _ z => .inl z, fun a o u e => by rw [upd_ne (fun z => nf o u (by rw [← z]; exact e))]; exact e⟩
  refine ⟨g, by simp [r.len], r.nd, fun i d a h1 h2 => ?_⟩
  have hn : n < μ.length := by rw [← r.len]; exact (List.getElem?_eq_some_iff.mp hp).1
  by_cases hi : n = i
  · subst hi
    rw [List.getElem?_set_self hn] at h1
    rw [hp] at h2
    cases h1; cases h2
    exact new (g.ext r)
  · rw [List.getElem?_set_ne hi] at h1
    have ne : a ≠ p := by
      rintro rfl
      have hn' : n < ι.length := (List.getElem?_eq_some_iff.mp hp).1
      have hi' : i < ι.length := (List.getElem?_eq_some_iff.mp h2).1
      have e1 : ι[n] = a := (List.getElem?_eq_some_iff.mp hp).2
      have e2 : ι[i] = a := (List.getElem?_eq_some_iff.mp h2).2
      exact hi ((List.getElem_inj r.nd).mp (e1.trans e2.symm))
    exact (r.cell i d a h1 h2).ext (g.ext r) (upd_ne ne)
theorem rep_new {p : Addr} {r : Rel G ι H μ} : Rep G (ι ++ [p]) H' (.ref μ.length) (.ref p) := by
  unfold Rep
  exact ⟨p, by rw [← r.len]; simp, rfl⟩
end

/-! ### mirrors -/
abbrev MD := Rho → Mem → Res D
abbrev MB := Rho → Mem → Res Bool
abbrev ML := Rho → Mem → Res (List D)
inductive Fl where
  | nx (ρ : Rho) | brk (ρ : Rho) | cnt (ρ : Rho) | ret (d : D) | exc (c : Str) (fs : List D) (ρ : Rho)
abbrev MS := Rho → Mem → Res Fl

section
variable (G : Gd) (ι : List Addr) (H : Hp)
/-- an exception as it lies -/
def ExcIs (c : Str) (fs : List D) (cls : Value) (dx : Option Addr) : Prop :=
  ∃ C, G.mg c = some (.ref C) ∧ cls = .ref C ∧ fs = []
def XPost (W : WX) (σ : St) (c : Str) (fs : List D) (μ' : Mem) : Prop :=
  ∀ ι' H' cls dx, Grow ι H ι' H' → Rel G ι' H' μ' → ExcIs G c fs cls dx → W cls dx σ H'
def Post {α : Type} (W : WX) (σ : St) (r : Res α) (k : List Addr → Hp → Mem → α → Prop) : Prop := match r with
  | .ok a μ' => ∀ ι' H', Grow ι H ι' H' → Rel G ι' H' μ' → k ι' H' μ' a
  | .exc c fs μ' => XPost G ι H W σ c fs μ'
  | .stuck => False
end
section
variable {G : Gd} {ι ι' : List Addr} {H H' : Hp} {W : WX} {σ : St} {μ : Mem} {α β : Type}
theorem Post.imp {r : Res α} {k k' : List Addr → Hp → Mem → α → Prop} (h : Post G ι H W σ r k) (f : ∀ ι' H' μ' a, Grow ι H ι' H' → Rel G ι' H' μ' → k ι' H' μ' a → k' ι' H' μ' a) : Post G ι H W σ r k' := by
  cases r with
  | ok a m => exact fun ι' H' g r => f _ _ _ _ g r (h ι' H' g r)
  | exc c fs m => exact h
  | stuck => exact h
theorem Post.grow {r : Res α} {k : List Addr → Hp → Mem → α → Prop} (h : Post G ι H W σ r k) (g : Grow ι H ι' H') : Post G ι' H' W σ r k := by
  cases r with
  | ok a m => exact fun ι2 H2 g2 r => h ι2 H2 (g.trans g2) r
  | exc c fs m => exact fun ι2 H2 cls dx g2 r e => h ι2 H2 cls dx (g.trans g2) r e
  | stuck => exact h
theorem Post.bind {r : Res α} {f : α → Mem → Res β} {k : List Addr → Hp → Mem → β → Prop} (h : Post G ι H W σ (r.bind f) k) :
    Post G ι H W σ r fun ι' H' μ' a => Grow ι H ι' H' ∧ Rel G ι' H' μ' ∧ Post G ι' H' W σ (f a μ') k := by
  cases r with
  | ok a m => exact fun ι' H' g r => ⟨g, r, Post.grow h g⟩
  | exc c fs m => exact h
  | stuck => exact h
end

section
variable (G : Gd) (W : WX)
def tE (m : MD) : TE := fun σ H Q => ∃ ρ μ ι, EnvOk G ι H ρ σ ∧ Rel G ι H μ ∧ Post G ι H W σ (m ρ μ) fun ι' H' _ d => ∀ v, Rep G ι' H' d v → Q v H'
def tB (m : MB) : TT := fun σ H Q => ∃ ρ μ ι, EnvOk G ι H ρ σ ∧ Rel G ι H μ ∧ Post G ι H W σ (m ρ μ) fun ι' H' _ b => Q b H'
def tL (m : ML) : TA := fun σ H Q => ∃ ρ μ ι, EnvOk G ι H ρ σ ∧ Rel G ι H μ ∧ Post G ι H W σ (m ρ μ) fun ι' H' _ ds => ∀ vs, Reps G ι' H' ds vs → Q vs H'
/-- a statement's end -/
def FlK (D : Ends) : List Addr → Hp → Mem → Fl → Prop := fun ι' H' _ f => match f with
  | .nx ρ' => ∀ σ', EnvOk G ι' H' ρ' σ' → D.nx σ' H'
  | .brk ρ' => ∀ σ', EnvOk G ι' H' ρ' σ' → D.bk σ' H'
  | .cnt ρ' => ∀ σ', EnvOk G ι' H' ρ' σ' → D.ct σ' H'
  | .ret d => ∀ v, Rep G ι' H' d v → D.rt v H'
  | .exc c fs ρ' => ∀ σ' cls dx, EnvOk G ι' H' ρ' σ' → ExcIs G c fs cls dx → W cls dx σ' H'
end
section
variable (G : Gd) (ι : List Addr) (H : Hp)
def PostS (r : Res Fl) (k : List Addr → Hp → Mem → Fl → Prop) : Prop := match r with
  | .ok f μ' => ∀ ι' H', Grow ι H ι' H' → Rel G ι' H' μ' → k ι' H' μ' f
  | _ => False
def tS (W : WX) (m : MS) : TS := fun D σ H => ∃ ρ μ ι, EnvOk G ι H ρ σ ∧ Rel G ι H μ ∧ PostS G ι H (m ρ μ) (FlK G W D)
end
section
variable {G : Gd} {ι ι' : List Addr} {H H' : Hp} {W : WX} {σ : St} {ρ : Rho} {α : Type}
theorem PostS.grow {r : Res Fl} {k : List Addr → Hp → Mem → Fl → Prop} (h : PostS G ι H r k) (g : Grow ι H ι' H') : PostS G ι' H' r k := by
  cases r with
  | ok a m => exact fun ι2 H2 g2 r => h ι2 H2 (g.trans g2) r
  | exc c fs m => exact h
  | stuck => exact h
/-- an expression within a statement -/
@[simp] def onE (r : Res α) (ρ : Rho) (k : α → Mem → Res Fl) : Res Fl := match r with
  | .ok a m => k a m
  | .exc c fs m => .ok (.exc c fs ρ) m
  | .stuck => .stuck
theorem PostS.onE {D : Ends} {r : Res α} {k : α → Mem → Res Fl} (h : PostS G ι H (onE r ρ k) (FlK G W D)) (e : EnvOk G ι H ρ σ) (rel : ∃ μ, Rel G ι H μ) :
    Post G ι H W σ r fun ι' H' μ' a => Grow ι H ι' H' ∧ Rel G ι' H' μ' ∧ EnvOk G ι' H' ρ σ ∧ PostS G ι' H' (k a μ') (FlK G W D) := by
  obtain ⟨μ, rel⟩ := rel
  cases r with
  | ok a m => exact fun ι' H' g r => ⟨g, r, e.ext (g.ext rel), PostS.grow h g⟩
  | exc c fs m => exact fun ι' H' cls dx g r x => h ι' H' g r σ cls dx (e.ext (g.ext rel)) x
  | stuck => exact h
end
end RW

/-! SEc: expressions. -/
namespace RW
open PySem L2
abbrev SE (X : Cx) (W : WX) (e : Expr) (m : MD) : Prop := PE X e (tE (gOf X) W m)
abbrev ST (X : Cx) (W : WX) (e : Expr) (m : MB) : Prop := PT X e (tB (gOf X) W m)
abbrev SW (X : Cx) (W : WX) (e : Expr) (m : MB) : Prop := PW X e (tB (gOf X) W m)
abbrev SA (X : Cx) (W : WX) (es : List Expr) (m : ML) : Prop := PA X es (tL (gOf X) W m)
theorem PE.mono {X : Cx} {e : Expr} {t t' : TE} (h : PE X e t) (f : ∀ σ H Q, t' σ H Q → t σ H Q) : PE X e t' := ⟨fun pins s σ H Q I w => h.run pins s σ H Q I (f σ H Q w)⟩
theorem PT.mono {X : Cx} {e : Expr} {t t' : TT} (h : PT X e t) (f : ∀ σ H Q, t' σ H Q → t σ H Q) : PT X e t' := ⟨fun pins s σ H Q I w => h.run pins s σ H Q I (f σ H Q w)⟩
theorem PW.mono {X : Cx} {e : Expr} {t t' : TT} (h : PW X e t) (f : ∀ σ H Q, t' σ H Q → t σ H Q) : PW X e t' := ⟨fun wh pins s σ H Q I w => h.run wh pins s σ H Q I (f σ H Q w)⟩
theorem PA.mono {X : Cx} {e : List Expr} {t t' : TA} (h : PA X e t) (f : ∀ σ H Q, t' σ H Q → t σ H Q) : PA X e t' := ⟨fun ps pins s σ H Q I w => h.run ps pins s σ H Q I (f σ H Q w)⟩
theorem PS.mono {X : Cx} {e : Stmt} {t t' : TS} (h : PS X e t) (f : ∀ D σ H, t' D σ H → t D σ H) : PS X e t' := ⟨fun pins s σ H D I w => h.run pins s σ H D I (f D σ H w)⟩
theorem PSs.mono {X : Cx} {e : List Stmt} {t t' : TS} (h : PSs X e t) (f : ∀ D σ H, t' D σ H → t D σ H) : PSs X e t' := ⟨fun pins s σ H D I w => h.run pins s σ H D I (f D σ H w)⟩

/-! ### mirrors -/
@[simp] def mVar (i : Nat) : MD := fun ρ μ => match ρ[i]? with
  | some (some d) => .ok d μ
  | _ => .stuck
@[simp] def mC (d : D) : MD := fun _ μ => .ok d μ
@[simp] def mBin (f : D → D → Mem → Res D) (a b : MD) : MD := fun ρ μ => (a ρ μ).bind fun x μ1 => (b ρ μ1).bind fun y μ2 => f x y μ2
@[simp] def mUn (f : D → Mem → Res D) (a : MD) : MD := fun ρ μ => (a ρ μ).bind fun x μ1 => f x μ1
@[simp] def mTest (a : MD) : MB := fun ρ μ => (a ρ μ).bind fun x μ1 => match x with
  | .bl b => .ok b μ1
  | _ => .stuck
@[simp] def mAnd (a b : MB) : MB := fun ρ μ => (a ρ μ).bind fun x μ1 => if x = true then b ρ μ1 else .ok false μ1
@[simp] def mOr (a b : MB) : MB := fun ρ μ => (a ρ μ).bind fun x μ1 => if x = true then .ok true μ1 else b ρ μ1
@[simp] def mNot (a : MB) : MB := fun ρ μ => (a ρ μ).bind fun x μ1 => .ok (!x) μ1
@[simp] def mAndV (a b : MD) : MD := fun ρ μ => (a ρ μ).bind fun x μ1 => match x with
  | .bl c => if c = true then b ρ μ1 else .ok (.bl false) μ1
  | _ => .stuck
@[simp] def mOrV (a b : MD) : MD := fun ρ μ => (a ρ μ).bind fun x μ1 => match x with
  | .bl c => if c = true then .ok (.bl true) μ1 else b ρ μ1
  | _ => .stuck
@[simp] def mNotV (a : MD) : MD := fun ρ μ => (a ρ μ).bind fun x μ1 => match x with
  | .bl c => .ok (.bl (!c)) μ1
  | _ => .stuck
@[simp] def mIfE (c : MB) (a b : MD) : MD := fun ρ μ => (c ρ μ).bind fun x μ1 => if x = true then a ρ μ1 else b ρ μ1
@[simp] def mNil : ML := fun _ μ => .ok [] μ
@[simp] def mCons (a : MD) (r : ML) : ML := fun ρ μ => (a ρ μ).bind fun x μ1 => (r ρ μ1).bind fun xs μ2 => .ok (x :: xs) μ2
@[simp] def mTup (a : ML) : MD := fun ρ μ => (a ρ μ).bind fun xs μ1 => if xs.length ≤ 1000 then .ok (.tup xs) μ1 else .stuck
@[simp] def mLst (a : ML) : MD := fun ρ μ => (a ρ μ).bind fun xs μ1 => if xs.length ≤ 1000 then .ok (.ref μ1.length) (μ1 ++ [.lst xs]) else .stuck

section
variable {X : Cx} {W : WX} {a b c e : Expr} {ma mb mc : MD} {pos : Pos}
theorem se_var (i : Nat) {x : Str} (hN : X.N[i]? = some x) (hv : Vis X.env.scope x) (hd : (x == ("__debug__" : Str)) = false := by decide) (hcd : (x == ("__classdict__" : Str)) = false := by decide) : SE X W (.Name x pos) (mVar i) :=
  PE.mono (pe_var hN hv hd hcd) fun σ H Q ⟨ρ, μ, ι, env, rel, h⟩ => by
    simp only [mVar] at h
    cases e : ρ[i]? with
    | none => rw [e] at h; exact h.elim
    | some o =>
      rw [e] at h
      cases o with
      | none => exact h.elim
      | some d =>
        obtain ⟨v, h1, h2⟩ := env.at_ i d e
        exact ⟨v, h1, h ι H .refl rel v h2⟩
theorem se_c {d : D} {v : V} (h : PE X e (tC v)) (hr : ∀ ι H, Rep (gOf X) ι H d v) : SE X W e (mC d) :=
  PE.mono h fun σ H Q ⟨ρ, μ, ι, env, rel, h⟩ => h ι H .refl rel v (hr ι H)
theorem se_int {i : Int} {j} : SE X W (.Constant (.int i) j pos) (mC (.int i)) := se_c pe_int fun _ _ => by unfold Rep; rfl
theorem se_bl {b : Bool} {j} : SE X W (.Constant (.bool b) j pos) (mC (.bl b)) := se_c pe_bl fun _ _ => by unfold Rep; rfl
theorem se_non {j} : SE X W (.Constant .none j pos) (mC .non) := se_c pe_non fun _ _ => by unfold Rep; rfl
theorem se_str {x : Str} {j} : SE X W (.Constant (.str x) j pos) (mC (.str x)) := se_c pe_str fun _ _ => by unfold Rep; rfl
/-- a module's whole number -/
theorem se_globI {x : Str} {i : Int} {t : Tok} (hg : Gl X x) (hm : X.mg x = some (.int i t)) (hd : (x == ("__debug__" : Str)) = false := by decide) : SE X W (.Name x pos) (mC (.int i)) :=
  se_c (v := .int i) (pe_glob hg hm ⟨t, rfl⟩ hd) fun _ _ => by unfold Rep; rfl
theorem se_globS {x : Str} {i : Str} {t : Tok} (hg : Gl X x) (hm : X.mg x = some (.str i t)) (hd : (x == ("__debug__" : Str)) = false := by decide) : SE X W (.Name x pos) (mC (.str i)) :=
  se_c (v := .str i) (pe_glob hg hm ⟨t, rfl⟩ hd) fun _ _ => by unfold Rep; rfl
/-- a def as a value -/
theorem se_globF {x : Str} {f : Addr} (hg : Gl X x) (hm : X.mg x = some (.ref f)) (hd : (x == ("__debug__" : Str)) = false := by decide) : SE X W (.Name x pos) (mC (.fn x)) :=
  se_c (v := .ref f) (pe_glob hg hm rfl hd) fun _ _ => by unfold Rep; exact ⟨f, hm, rfl⟩

/-- what a rule by values asks, from its mirror -/
def Snd2 (G : Gd) (r : R2) (f : D → D → Mem → Res D) : Prop := ∀ (ι : List Addr) (H : Hp) (μ : Mem) (x y : D) (v u : V) (W : WX) (σ : St) (Q : VK), Rel G ι H μ → Rep G ι H x v → Rep G ι H y u →
  Post G ι H W σ (f x y μ) (fun ι' H' _ d => ∀ v, Rep G ι' H' d v → Q v H') → r v u H Q
def Snd1 (G : Gd) (r : V → Hp → VK → Prop) (f : D → Mem → Res D) : Prop := ∀ (ι : List Addr) (H : Hp) (μ : Mem) (x : D) (v : V) (W : WX) (σ : St) (Q : VK), Rel G ι H μ → Rep G ι H x v →
  Post G ι H W σ (f x μ) (fun ι' H' _ d => ∀ v, Rep G ι' H' d v → Q v H') → r v H Q
theorem bin_red {r : R2} {f : D → D → Mem → Res D} (hf : Snd2 (gOf X) r f) {σ : St} {H : Hp} {Q : VK} (h : tE (gOf X) W (mBin f ma mb) σ H Q) : tOp r (tE (gOf X) W ma) (tE (gOf X) W mb) σ H Q := by
  obtain ⟨ρ, μ, ι, env, rel, h⟩ := h
  refine ⟨ρ, μ, ι, env, rel, (Post.bind h).imp fun ι1 H1 μ1 x _ _ ⟨g1, r1, h1⟩ v rv => ?_⟩
  refine ⟨ρ, μ1, ι1, env.ext (g1.ext rel), r1, (Post.bind h1).imp fun ι2 H2 μ2 y _ _ ⟨g2, r2, h2⟩ u ru => ?_⟩
  exact hf ι2 H2 μ2 x y v u W σ Q r2 (rv.ext (g2.ext r1)) ru h2
theorem se_op {op : Operator} {r : R2} {f : D → D → Mem → Res D} (ho : OpR X (binaryOp op) r) (hf : Snd2 (gOf X) r f) (ha : SE X W a ma) (hb : SE X W b mb) : SE X W (.BinOp a op b pos) (mBin f ma mb) :=
  PE.mono (pe_op ho ha hb) fun σ H Q h => bin_red hf h
theorem se_cmp {op : CmpOp} {r : R2} {f : D → D → Mem → Res D} (ho : OpR X (compareOp op) r) (hf : Snd2 (gOf X) r f) (ha : SE X W a ma) (hb : SE X W b mb) (hm : behindInMarks op b = false) : SE X W (.Compare a [op] [b] pos) (mBin f ma mb) :=
  PE.mono (pe_cmpR ho ha hb hm) fun σ H Q h => bin_red hf h
theorem se_un {op : UnaryOp} {r : V → Hp → VK → Prop} {f : D → Mem → Res D} (ho : UnR X (unaryOp op) r) (hf : Snd1 (gOf X) r f) (ha : SE X W a ma) : SE X W (.UnaryOp op a pos) (mUn f ma) :=
  PE.mono (pe_un ho ha) fun σ H Q ⟨ρ, μ, ι, env, rel, h⟩ =>
    ⟨ρ, μ, ι, env, rel, (Post.bind h).imp fun ι1 H1 μ1 x _ _ ⟨g1, r1, h1⟩ v rv => hf ι1 H1 μ1 x v W σ Q r1 rv h1⟩
theorem test_red {t : TE} (m : MD) (ht : ∀ σ H Q, tE (gOf X) W m σ H Q → t σ H Q) {σ : St} {H : Hp} {Q : Bool → Hp → Prop} (h : tB (gOf X) W (mTest m) σ H Q) : t σ H fun x H' => ∃ k, x = .bl k ∧ Q k H' := by
  obtain ⟨ρ, μ, ι, env, rel, h⟩ := h
  refine ht _ _ _ ⟨ρ, μ, ι, env, rel, (Post.bind h).imp fun ι1 H1 μ1 x _ _ ⟨g1, r1, h1⟩ v rv => ?_⟩
  cases x with
  | bl k => unfold Rep at rv; exact ⟨k, rv, h1 ι1 H1 .refl r1⟩
  | _ => exact h1.elim
/-- a comparison as a test -/
theorem st_cmp {op : CmpOp} {r : R2} {f : D → D → Mem → Res D} (ho : OpR X (compareOp op) r) (hf : Snd2 (gOf X) r f) (ha : SE X W a ma) (hb : SE X W b mb) (hm : behindInMarks op b = false) : ST X W (.Compare a [op] [b] pos) (mTest (mBin f ma mb)) :=
  PT.mono (pt_cmpR ho ha hb hm) fun σ H Q h => test_red (mBin f ma mb) (fun σ H Q h => bin_red hf h) h
/-- an expression whose value is a truth, as a test -/
theorem st_val (h : SE X W e ma) (he : ∀ whole, isTrue e X.env whole = (do let v ← whole; standAt e.pos; holding [v] (truthy v)) := by intro _; rfl) : ST X W e (mTest ma) :=
  PT.mono (pt_val h he) fun σ H Q h => test_red ma (fun _ _ _ h => h) h
variable {ta tb : MB} {rest : List Expr}
theorem sw_and1 (ha : ST X W a ta) : SW X W (.BoolOp .And [a] pos) ta := pw_and1 ha
theorem sw_or1 (ha : ST X W a ta) : SW X W (.BoolOp .Or [a] pos) ta := pw_or1 ha
theorem sw_and (ha : ST X W a ta) (hb : SW X W (.BoolOp .And (b :: rest) pos) tb) : SW X W (.BoolOp .And (a :: b :: rest) pos) (mAnd ta tb) :=
  PW.mono (pw_and ha hb) fun σ H Q ⟨ρ, μ, ι, env, rel, h⟩ =>
    ⟨ρ, μ, ι, env, rel, (Post.bind h).imp fun ι1 H1 μ1 x _ _ ⟨g1, r1, h1⟩ => by
      cases x with
      | true => exact iteT ⟨ρ, μ1, ι1, env.ext (g1.ext rel), r1, h1⟩
      | false => exact iteF (h1 ι1 H1 .refl r1)⟩
theorem sw_or (ha : ST X W a ta) (hb : SW X W (.BoolOp .Or (b :: rest) pos) tb) : SW X W (.BoolOp .Or (a :: b :: rest) pos) (mOr ta tb) :=
  PW.mono (pw_or ha hb) fun σ H Q ⟨ρ, μ, ι, env, rel, h⟩ =>
    ⟨ρ, μ, ι, env, rel, (Post.bind h).imp fun ι1 H1 μ1 x _ _ ⟨g1, r1, h1⟩ => by
      cases x with
      | true => exact iteT (h1 ι1 H1 .refl r1)
      | false => exact iteF ⟨ρ, μ1, ι1, env.ext (g1.ext rel), r1, h1⟩⟩
theorem st_not (ha : ST X W a ta) : ST X W (.UnaryOp .Not a pos) (mNot ta) :=
  PT.mono (pt_not ha) fun σ H Q ⟨ρ, μ, ι, env, rel, h⟩ =>
    ⟨ρ, μ, ι, env, rel, (Post.bind h).imp fun ι1 H1 μ1 x _ _ ⟨g1, r1, h1⟩ => h1 ι1 H1 .refl r1⟩
/-- .. as values -/
theorem se_one {op} (h : SE X W a ma) : SE X W (.BoolOp op [a] pos) ma := pe_one h
theorem se_and (ha : SE X W a ma) (hb : SE X W (.BoolOp .And (b :: rest) pos) mb) : SE X W (.BoolOp .And (a :: b :: rest) pos) (mAndV ma mb) :=
  PE.mono (pe_and ha hb) fun σ H Q ⟨ρ, μ, ι, env, rel, h⟩ =>
    ⟨ρ, μ, ι, env, rel, (Post.bind h).imp fun ι1 H1 μ1 x _ _ ⟨g1, r1, h1⟩ v rv => by
      cases x with
      | bl c =>
        unfold Rep at rv
        refine ⟨c, rv, ?_⟩
        cases c with
        | true => exact iteT ⟨ρ, μ1, ι1, env.ext (g1.ext rel), r1, h1⟩
        | false => exact iteF (h1 ι1 H1 .refl r1 _ (by unfold Rep; rfl))
      | _ => exact h1.elim⟩
theorem se_or (ha : SE X W a ma) (hb : SE X W (.BoolOp .Or (b :: rest) pos) mb) : SE X W (.BoolOp .Or (a :: b :: rest) pos) (mOrV ma mb) :=
  PE.mono (pe_or ha hb) fun σ H Q ⟨ρ, μ, ι, env, rel, h⟩ =>
    ⟨ρ, μ, ι, env, rel, (Post.bind h).imp fun ι1 H1 μ1 x _ _ ⟨g1, r1, h1⟩ v rv => by
      cases x with
      | bl c =>
        unfold Rep at rv
        refine ⟨c, rv, ?_⟩
        cases c with
        | true => exact iteT (h1 ι1 H1 .refl r1 _ (by unfold Rep; rfl))
        | false => exact iteF ⟨ρ, μ1, ι1, env.ext (g1.ext rel), r1, h1⟩
      | _ => exact h1.elim⟩
theorem se_not (ha : SE X W a ma) : SE X W (.UnaryOp .Not a pos) (mNotV ma) :=
  PE.mono (pe_not ha) fun σ H Q ⟨ρ, μ, ι, env, rel, h⟩ =>
    ⟨ρ, μ, ι, env, rel, (Post.bind h).imp fun ι1 H1 μ1 x _ _ ⟨g1, r1, h1⟩ v rv => by
      cases x with
      | bl c => unfold Rep at rv; exact ⟨c, rv, h1 ι1 H1 .refl r1 _ (by unfold Rep; rfl)⟩
      | _ => exact h1.elim⟩
theorem se_ifE {tc : MB} (hc : ST X W c tc) (ha : SE X W a ma) (hb : SE X W b mb) : SE X W (.IfExp c a b pos) (mIfE tc ma mb) :=
  PE.mono (pe_ifExp hc ha hb) fun σ H Q ⟨ρ, μ, ι, env, rel, h⟩ =>
    ⟨ρ, μ, ι, env, rel, (Post.bind h).imp fun ι1 H1 μ1 x _ _ ⟨g1, r1, h1⟩ => by
      cases x with
      | true => exact iteT ⟨ρ, μ1, ι1, env.ext (g1.ext rel), r1, h1⟩
      | false => exact iteF ⟨ρ, μ1, ι1, env.ext (g1.ext rel), r1, h1⟩⟩
/-! argument lists, displays -/
variable {es : List Expr} {me : MD} {ms : ML}
theorem sa_nil : SA X W [] mNil := PA.mono pa_nil fun σ H Q ⟨ρ, μ, ι, env, rel, h⟩ => h ι H .refl rel [] .nil
theorem sa_cons (ha : SE X W e me) (hr : SA X W es ms) (hs : starEach (e :: es) X.env = (false, eval e X.env) :: starEach es X.env := by rfl) : SA X W (e :: es) (mCons me ms) :=
  PA.mono (pa_cons ha hr hs) fun σ H Q ⟨ρ, μ, ι, env, rel, h⟩ => by
    refine ⟨ρ, μ, ι, env, rel, (Post.bind h).imp fun ι1 H1 μ1 x _ _ ⟨g1, r1, h1⟩ v rv => ?_⟩
    refine ⟨ρ, μ1, ι1, env.ext (g1.ext rel), r1, (Post.bind h1).imp fun ι2 H2 μ2 xs _ _ ⟨g2, r2, h2⟩ vs rvs => ?_⟩
    exact h2 ι2 H2 .refl r2 (v :: vs) (.cons (rv.ext (g2.ext r1)) rvs)
theorem le_line {n : Nat} (h : n ≤ 1000) : n ≤ sizeLine := Nat.le_of_lt (small1000 h)
theorem se_tup {k} (h : SA X W es ms) : SE X W (.Tuple es k pos) (mTup ms) :=
  PE.mono (pe_tup h) fun σ H Q ⟨ρ, μ, ι, env, rel, h⟩ => by
    refine ⟨ρ, μ, ι, env, rel, (Post.bind h).imp fun ι1 H1 μ1 xs _ _ ⟨g1, r1, h1⟩ vs rv => ?_⟩
    split at h1
    · rename_i hl
      refine ⟨by rw [rv.length]; exact le_line hl, fun p hp => ?_⟩
      obtain ⟨g2, r2⟩ := grow_laid (o := .tup vs) r1 hp
      refine h1 ι1 _ g2 r2 (.ref p) ?_
      unfold Rep
      exact ⟨p, vs, rfl, .of upd_same, rv.ext (g2.ext r1)⟩
    · exact h1.elim
theorem se_lst (h : SA X W es ms) : SE X W (.List es pos) (mLst ms) :=
  PE.mono (pe_lst h) fun σ H Q ⟨ρ, μ, ι, env, rel, h⟩ => by
    refine ⟨ρ, μ, ι, env, rel, (Post.bind h).imp fun ι1 H1 μ1 xs _ _ ⟨g1, r1, h1⟩ vs rv => ?_⟩
    split at h1
    · rename_i hl
      refine ⟨by rw [rv.length]; exact le_line hl, fun p hp => ?_⟩
      obtain ⟨g2, r2⟩ := grow_cell (o := .lst vs) (c := .lst xs) r1 hp fun x => ⟨vs, upd_same, rv.ext x⟩
      exact h1 _ _ g2 r2 (.ref p) (rep_new (r := r1))
    · exact h1.elim
end
end RW

/-! SEd: operators. -/
namespace RW
open PySem L2
open Classical in
section
noncomputable def addD : D → D → Mem → Res D
  | .int i, .int j, μ => .ok (.int (i + j)) μ
  | .str x, .str y, μ => if x.length + y.length ≤ sizeLine then .ok (.str (x ++ y)) μ else .stuck
  | .tup a, .tup b, μ => if a.length + b.length ≤ sizeLine then .ok (.tup (a ++ b)) μ else .stuck
  | .ref n, .ref m, μ => match μ[n]?, μ[m]? with
    | some (.lst a), some (.lst b) => if a.length + b.length ≤ sizeLine then .ok (.ref μ.length) (μ ++ [.lst (a ++ b)]) else .stuck
    | _, _ => .stuck
  | _, _, _ => .stuck
end
def subD : D → D → Mem → Res D
  | .int i, .int j, μ => .ok (.int (i - j)) μ
  | _, _, _ => .stuck
def mulD : D → D → Mem → Res D
  | .int i, .int j, μ => if i.natAbs < 18446744073709551616 ∨ j.natAbs < 18446744073709551616 then .ok (.int (i * j)) μ else .stuck
  | .ref n, .int k, μ => match μ[n]? with
    | some (.lst a) => if -(2 ^ 63) ≤ k ∧ k < 2 ^ 63 ∧ a.length * k.toNat ≤ sizeLine then .ok (.ref μ.length) (μ ++ [.lst (List.replicate k.toNat a).flatten]) else .stuck
    | _ => .stuck
  | _, _, _ => .stuck
def fdivD : D → D → Mem → Res D
  | .int i, .int j, μ => if 0 < j ∧ j < 18446744073709551616 then .ok (.int (i / j)) μ else .stuck
  | _, _, _ => .stuck
def modD : D → D → Mem → Res D
  | .int i, .int j, μ => if 0 < j then .ok (.int (i % j)) μ else .stuck
  | _, _, _ => .stuck
def powD : D → D → Mem → Res D
  | .int i, .int j, μ => if 0 ≤ j ∧ j ≤ 1000 ∧ i.natAbs < 18446744073709551616 then .ok (.int (i ^ j.toNat)) μ else .stuck
  | _, _, _ => .stuck
def negD : D → Mem → Res D
  | .int i, μ => .ok (.int (-i)) μ
  | _, _ => .stuck
def cmpI (p : Int → Int → Bool) : D → D → Mem → Res D
  | .int i, .int j, μ => .ok (.bl (p i j)) μ
  | _, _, _ => .stuck
def isNonD : D → Bool
  | .non => true
  | _ => false
def isD : D → D → Mem → Res D
  | x, .non, μ => .ok (.bl (isNonD x)) μ
  | _, _, _ => .stuck
def isNotD : D → D → Mem → Res D
  | x, .non, μ => .ok (.bl (!isNonD x)) μ
  | _, _, _ => .stuck

section
variable {G : Gd} {ι : List Addr} {H : Hp}
theorem Rep.int {i : Int} {v : V} (h : Rep G ι H (.int i) v) : v = .int i := by unfold Rep at h; exact h
theorem Rep.str {i : Str} {v : V} (h : Rep G ι H (.str i) v) : v = .str i := by unfold Rep at h; exact h
theorem Rep.bl {i : Bool} {v : V} (h : Rep G ι H (.bl i) v) : v = .bl i := by unfold Rep at h; exact h
theorem Rep.non {v : V} (h : Rep G ι H .non v) : v = .non := by unfold Rep at h; exact h
theorem Rep.tup {l : List D} {v : V} (h : Rep G ι H (.tup l) v) : ∃ a vs, v = .ref a ∧ SqT G.K H a vs ∧ Reps G ι H l vs := by unfold Rep at h; exact h
theorem Rep.frl {l : List D} {v : V} (h : Rep G ι H (.frl l) v) : ∃ a vs, v = .ref a ∧ FrL G H a vs ∧ Reps G ι H l vs := by unfold Rep at h; exact h
theorem Rep.ref {n : Nat} {v : V} (h : Rep G ι H (.ref n) v) : ∃ a, ι[n]? = some a ∧ v = .ref a := by unfold Rep at h; exact h
theorem rep_int (i : Int) : Rep G ι H (.int i) (.int i) := by unfold Rep; rfl
theorem rep_str (i : Str) : Rep G ι H (.str i) (.str i) := by unfold Rep; rfl
theorem rep_bl (i : Bool) : Rep G ι H (.bl i) (.bl i) := by unfold Rep; rfl
theorem rep_non : Rep G ι H .non .non := by unfold Rep; rfl
theorem rep_tup {l : List D} {a : Addr} {vs : List V} (h : SqT G.K H a vs) (r : Reps G ι H l vs) : Rep G ι H (.tup l) (.ref a) := by unfold Rep; exact ⟨a, vs, rfl, h, r⟩
theorem rep_ref {n : Nat} {a : Addr} (h : ι[n]? = some a) : Rep G ι H (.ref n) (.ref a) := by unfold Rep; exact ⟨a, h, rfl⟩
/-- a list cell at an address -/
theorem Rel.lst {μ : Mem} (r : Rel G ι H μ) {n : Nat} {l : List D} {v : V} (h : μ[n]? = some (.lst l)) (hv : Rep G ι H (.ref n) v) : ∃ a vs, v = .ref a ∧ ι[n]? = some a ∧ H a = some (.lst vs) ∧ Reps G ι H l vs := by
  obtain ⟨a, h1, rfl⟩ := hv.ref
  obtain ⟨vs, h2, h3⟩ := r.cell n _ a h h1
  exact ⟨a, vs, rfl, h1, h2, h3⟩
/-- a new list -/
theorem new_lst {μ : Mem} {W : WX} {σ : St} {l : List D} {vs : List V} {Q : VK} (r : Rel G ι H μ) (h : Reps G ι H l vs)
    (k : Post G ι H W σ (.ok (D.ref μ.length) (μ ++ [.lst l])) fun ι' H' _ d => ∀ v, Rep G ι' H' d v → Q v H') : ∀ p, H p = none → Q (.ref p) (upd H p (.lst vs)) := fun p hp => by
  obtain ⟨g2, r2⟩ := grow_cell (o := .lst vs) (c := .lst l) r hp fun x => ⟨vs, upd_same, h.ext x⟩
  exact k _ _ g2 r2 (.ref p) (rep_new (r := r))
theorem new_tup {μ : Mem} {W : WX} {σ : St} {l : List D} {vs : List V} {Q : VK} (r : Rel G ι H μ) (h : Reps G ι H l vs)
    (k : Post G ι H W σ (.ok (D.tup l) μ) fun ι' H' _ d => ∀ v, Rep G ι' H' d v → Q v H') : ∀ p, H p = none → Q (.ref p) (upd H p (.tup vs)) := fun p hp => by
  obtain ⟨g2, r2⟩ := grow_laid (o := .tup vs) r hp
  exact k _ _ g2 r2 (.ref p) (rep_tup (.of upd_same) (h.ext (g2.ext r)))
end

theorem snd_int {G : Gd} {g : Int → Int → Int} {f : D → D → Mem → Res D} (hf : ∀ x y μ, f x y μ = match x, y with
  | .int i, .int j => .ok (.int (g i j)) μ
  | _, _ => .stuck) : Snd2 G (rI0 fun i j => .int (g i j)) f := fun ι H μ x y v u W σ Q r rx ry h => by
  rw [hf] at h
  cases x <;> cases y <;> first | exact h.elim | skip
  exact ⟨_, _, rx.int, ry.int, h ι H .refl r _ (rep_int _)⟩
theorem snd_sub {G : Gd} : Snd2 G (rI0 fun i j => .int (i - j)) subD := snd_int fun x y μ => by cases x <;> cases y <;> rfl
theorem snd_cmpI {G : Gd} {p : Int → Int → Bool} : Snd2 G (rI0 fun i j => .bl (p i j)) (cmpI p) := fun ι H μ x y v u W σ Q r rx ry h => by
  cases x <;> cases y <;> first | exact h.elim | skip
  exact ⟨_, _, rx.int, ry.int, h ι H .refl r _ (rep_bl _)⟩
theorem snd_mod {G : Gd} : Snd2 G (rI (fun _ j => 0 < j) fun i j => .int (i % j)) modD := fun ι H μ x y v u W σ Q r rx ry h => by
  cases x <;> cases y <;> first | exact h.elim | skip
  rename_i i j
  simp only [modD] at h
  split at h
  · rename_i hc
    exact ⟨_, _, rx.int, ry.int, hc, h ι H .refl r _ (rep_int _)⟩
  · exact h.elim
theorem snd_fdiv {G : Gd} : Snd2 G (rI CDivW fun i j => .int (i / j)) fdivD := fun ι H μ x y v u W σ Q r rx ry h => by
  cases x <;> cases y <;> first | exact h.elim | skip
  rename_i i j
  simp only [fdivD] at h
  split at h
  · rename_i hc
    exact ⟨_, _, rx.int, ry.int, wide_div (b := 64) hc.1 (by omega) (by decide) (by decide), h ι H .refl r _ (rep_int _)⟩
  · exact h.elim
theorem snd_pow {G : Gd} : Snd2 G (rI CPow fun i j => .int (i ^ j.toNat)) powD := fun ι H μ x y v u W σ Q r rx ry h => by
  cases x <;> cases y <;> first | exact h.elim | skip
  rename_i i j
  simp only [powD] at h
  split at h
  · rename_i hc
    exact ⟨_, _, rx.int, ry.int, ⟨hc.1, by omega, by omega⟩, h ι H .refl r _ (rep_int _)⟩
  · exact h.elim
def rMulA : R2 := fun x y H Q => rI CMul (fun i j => .int (i * j)) x y H Q ∨ rRep x y H Q
theorem op_mulA {X : Cx} : OpR X (binaryOp .Mult) rMulA := op_mul.or op_rep
theorem Reps.rep {G : Gd} {ι : List Addr} {H : Hp} {l : List D} {vs : List V} (h : Reps G ι H l vs) : ∀ k : Nat, Reps G ι H (List.replicate k l).flatten (List.replicate k vs).flatten
  | 0 => .nil
  | k + 1 => by rw [List.replicate_succ, List.replicate_succ, List.flatten_cons, List.flatten_cons]; exact h.append (Reps.rep h k)
theorem snd_mul {G : Gd} : Snd2 G rMulA mulD := fun ι H μ x y v u W σ Q r rx ry h => by
  cases x <;> cases y <;> first | exact h.elim | skip
  · rename_i i j
    simp only [mulD] at h
    split at h
    · rename_i hc
      refine .inl ⟨_, _, rx.int, ry.int, ?_, h ι H .refl r _ (rep_int _)⟩
      rcases hc with hc | hc
      · exact .inl (by omega)
      · exact .inr (by omega)
    · exact h.elim
  · rename_i n k
    simp only [mulD] at h
    split at h
    · rename_i a e
      split at h
      · rename_i hc
        obtain ⟨p, vs, rfl, h1, h2, h3⟩ := r.lst e rx
        refine .inr ⟨p, k, vs, rfl, ry.int, h2, hc.1, hc.2.1, by rw [h3.length]; exact hc.2.2, ?_⟩
        exact new_lst r (h3.rep k.toNat) h
      · exact h.elim
    · exact h.elim
def rAddA (K : PySem.W.Frag) : R2 := fun x y H Q => rI0 (fun i j => .int (i + j)) x y H Q ∨ (∃ i j, x = .str i ∧ y = .str j ∧ i.length + j.length ≤ sizeLine ∧ Q (.str (i ++ j)) H) ∨ rCatA K x y H Q ∨ rCat x y H Q
theorem op_addA {X : Cx} : OpR X (binaryOp .Add) (rAddA X.K) := op_add.or (op_add_str.or (op_catA.or op_cat))
theorem snd_add {G : Gd} : Snd2 G (rAddA G.K) addD := fun ι H μ x y v u W σ Q r rx ry h => by
  cases x <;> cases y <;> first | exact h.elim | skip
  · exact .inl ⟨_, _, rx.int, ry.int, h ι H .refl r _ (rep_int _)⟩
  · simp only [addD] at h
    split at h
    · rename_i hc
      exact .inr (.inl ⟨_, _, rx.str, ry.str, hc, h ι H .refl r _ (rep_str _)⟩)
    · exact h.elim
  · simp only [addD] at h
    split at h
    · rename_i l l' hc
      obtain ⟨a, vs, rfl, h1, h2⟩ := rx.tup
      obtain ⟨b, ws, rfl, h3, h4⟩ := ry.tup
      refine .inr (.inr (.inl ⟨a, b, vs, ws, rfl, rfl, h1, h3, by rw [h2.length, h4.length]; exact hc, fun e => ?_, fun e1 e2 => ?_, fun _ _ => new_tup r (h2.append h4) h⟩))
      · subst e
        have e := h2.length
        cases l with
        | nil => exact h ι H .refl r _ ry
        | cons _ _ => simp at e
      · subst e2
        have e := h4.length
        cases l' with
        | nil => exact h ι H .refl r _ (by rw [List.append_nil]; exact rx)
        | cons _ _ => simp at e
    · exact h.elim
  · simp only [addD] at h
    split at h
    · rename_i a b e1 e2
      split at h
      · rename_i hc
        obtain ⟨p, vs, rfl, h1, h2, h3⟩ := r.lst e1 rx
        obtain ⟨q, ws, rfl, h4, h5, h6⟩ := r.lst e2 ry
        exact .inr (.inr (.inr ⟨p, q, vs, ws, rfl, rfl, h2, h5, by rw [h3.length, h6.length]; exact hc, new_lst r (h3.append h6) h⟩))
      · exact h.elim
    · exact h.elim
theorem snd_neg {G : Gd} : Snd1 G (rU fun i => .int (-i)) negD := fun ι H μ x v W σ Q r rx h => by
  cases x <;> first | exact h.elim | skip
  exact ⟨_, rx.int, h ι H .refl r _ (rep_int _)⟩
theorem isNon_of {G : Gd} {ι : List Addr} {H : Hp} {x : D} {v : V} (h : Rep G ι H x v) : decide (v = .non) = isNonD x := by
  cases x with
  | non => rw [h.non]; rfl
  | bl b => rw [h.bl]; rfl
  | int b => rw [h.int]; rfl
  | str b => rw [h.str]; rfl
  | tup l => obtain ⟨a, _, rfl, _⟩ := h.tup; rfl
  | frl l => obtain ⟨a, _, rfl, _⟩ := h.frl; rfl
  | ref l => obtain ⟨a, _, rfl⟩ := h.ref; rfl
  | fn l => unfold Rep at h; obtain ⟨a, _, rfl⟩ := h; rfl
theorem snd_is {G : Gd} : Snd2 G (fun x y H Q => y = .non ∧ Q (.bl (decide (x = .non))) H) isD := fun ι H μ x y v u W σ Q r rx ry h => by
  cases y <;> first | (simp only [isD] at h; exact h.elim) | (exact h.elim) | skip
  exact ⟨ry.non, by rw [isNon_of rx]; exact h ι H .refl r _ (rep_bl _)⟩
theorem snd_isNot {G : Gd} : Snd2 G (fun x y H Q => y = .non ∧ Q (.bl (!decide (x = .non))) H) isNotD := fun ι H μ x y v u W σ Q r rx ry h => by
  cases y <;> first | (simp only [isNotD] at h; exact h.elim) | (exact h.elim) | skip
  exact ⟨ry.non, by rw [isNon_of rx]; exact h ι H .refl r _ (rep_bl _)⟩

/-! ### == -/
mutual
/-- data, no deeper than so many, lists within read -/
def D.py? : Nat → Mem → D → Option PyData
  | _, _, .non => some .none
  | _, _, .bl b => some (.bool b)
  | _, _, .int i => some (.int i)
  | _, _, .str s => some (.str s)
  | n + 1, μ, .tup l => (D.pys? n μ l).map PyData.tuple
  | n + 1, μ, .frl l => (D.pys? n μ l).map PyData.list
  | n + 1, μ, .ref m => match μ[m]? with
    | some (.lst l) => (D.pys? n μ l).map PyData.list
    | _ => none
  | _, _, _ => none
def D.pys? : Nat → Mem → List D → Option (List PyData)
  | _, _, [] => some []
  | n, μ, d :: l => match D.py? n μ d, D.pys? n μ l with
    | some k, some r => some (k :: r)
    | _, _ => none
end
end RW

/-! SEe: ==, subscripts, slices. -/
namespace RW
open PySem L2
def eqD (x y : D) (μ : Mem) : Res D := match D.py? 8 μ x, D.py? 8 μ y with
  | some p, some q => if (SeqAt.shaped p && SeqAt.shaped q) = true then .ok (.bl (PyData.eqv p q)) μ else .stuck
  | _, _ => .stuck
def neD (x y : D) (μ : Mem) : Res D := match D.py? 8 μ x, D.py? 8 μ y with
  | some p, some q => if (SeqAt.shaped p && SeqAt.shaped q) = true then .ok (.bl (!PyData.eqv p q)) μ else .stuck
  | _, _ => .stuck
section
variable {G : Gd} {ι : List Addr} {H : Hp} {μ : Mem}
mutual
theorem dp_of (r : Rel G ι H μ) : ∀ (n : Nat) (d : D) (v : V) (p : PyData), Rep G ι H d v → D.py? n μ d = some p → Dp G.K H v p
  | n, .non, v, p, h, e => by unfold D.py? at e; cases e; rw [h.non]; exact .non
  | n, .bl b, v, p, h, e => by unfold D.py? at e; cases e; rw [h.bl]; exact .bl b
  | n, .int b, v, p, h, e => by unfold D.py? at e; cases e; rw [h.int]; exact .int b
  | n, .str b, v, p, h, e => by unfold D.py? at e; cases e; rw [h.str]; exact .str b
  | n + 1, .tup l, v, p, h, e => by
    unfold D.py? at e
    obtain ⟨q, e1, rfl⟩ := Option.map_eq_some_iff.mp e
    obtain ⟨a, vs, rfl, h1, h2⟩ := h.tup
    exact .tup h1 (dps_of r n l vs q h2 e1)
  | n + 1, .frl l, v, p, h, e => by
    unfold D.py? at e
    obtain ⟨q, e1, rfl⟩ := Option.map_eq_some_iff.mp e
    obtain ⟨a, vs, rfl, h1, h2⟩ := h.frl
    exact .lst (FrL.sq _ _ h1) (dps_of r n l vs q h2 e1)
  | n + 1, .ref m, v, p, h, e => by
    unfold D.py? at e
    split at e
    · rename_i l em
      obtain ⟨q, e1, rfl⟩ := Option.map_eq_some_iff.mp e
      obtain ⟨a, vs, rfl, h1, h2, h3⟩ := r.lst em h
      exact .lst (.of h2) (dps_of r n l vs q h3 e1)
    · cases e
  | _, .fn _, _, _, _, e => by unfold D.py? at e; cases e
  | 0, .tup _, _, _, _, e => by unfold D.py? at e; cases e
  | 0, .frl _, _, _, _, e => by unfold D.py? at e; cases e
  | 0, .ref _, _, _, _, e => by unfold D.py? at e; cases e
theorem dps_of (r : Rel G ι H μ) : ∀ (n : Nat) (l : List D) (vs : List V) (p : List PyData), Reps G ι H l vs → D.pys? n μ l = some p → DpAll G.K H vs p
  | n, [], vs, p, h, e => by unfold D.pys? at e; cases e; rw [h.nil_inv]; exact .nil
  | n, d :: l, vs, p, h, e => by
    unfold D.pys? at e
    obtain ⟨v, w, rfl, h1, h2⟩ := h.cons_inv
    split at e
    · rename_i k q e1 e2
      cases e
      exact .cons (dp_of r n d v k h1 e1) (dps_of r n l w q h2 e2)
    · cases e
end
end
theorem snd_eq {G : Gd} : Snd2 G (rEqD G.K) eqD := fun ι H μ x y v u W σ Q r rx ry h => by
  unfold eqD at h
  split at h
  · rename_i p q e1 e2
    split at h
    · rename_i hs
      rw [Bool.and_eq_true] at hs
      exact ⟨p, q, dp_of r _ _ _ _ rx e1, dp_of r _ _ _ _ ry e2, hs.1, hs.2, h ι H .refl r _ (rep_bl _)⟩
    · exact h.elim
  · exact h.elim
theorem snd_ne {G : Gd} : Snd2 G (rNeD G.K) neD := fun ι H μ x y v u W σ Q r rx ry h => by
  unfold neD at h
  split at h
  · rename_i p q e1 e2
    split at h
    · rename_i hs
      rw [Bool.and_eq_true] at hs
      exact ⟨p, q, dp_of r _ _ _ _ rx e1, dp_of r _ _ _ _ ry e2, hs.1, hs.2, h ι H .refl r _ (rep_bl _)⟩
    · exact h.elim
  · exact h.elim

/-! ### a[b] of lists, tuples, texts -/
def idxD : D → D → Mem → Res D
  | .tup l, .int i, μ => match atI l i with
    | some d => .ok d μ
    | none => .stuck
  | .frl l, .int i, μ => match atI l i with
    | some d => .ok d μ
    | none => .stuck
  | .ref n, .int i, μ => match μ[n]? with
    | some (.lst l) => (match atI l i with
      | some d => .ok d μ
      | none => .stuck)
    | _ => .stuck
  | .str z, .int i, μ => if z.length ≤ sizeLine then (match atI z.cps.toList i with
      | some c => .ok (.str ⟨#[c]⟩) μ
      | none => .stuck) else .stuck
  | _, _, _ => .stuck
theorem Reps.atI {G : Gd} {ι : List Addr} {H : Hp} {l : List D} {vs : List V} {i : Int} {d : D} (h : Reps G ι H l vs) (e : L2.atI l i = some d) : ∃ v, L2.atI vs i = some v ∧ Rep G ι H d v := by
  unfold L2.atI at e ⊢
  rw [h.length]
  obtain ⟨j, e1, e2⟩ := Option.bind_eq_some_iff.mp e
  obtain ⟨v, e3, r⟩ := h.get e2
  exact ⟨v, Option.bind_eq_some_iff.mpr ⟨j, e1, e3⟩, r⟩
theorem snd_idx {G : Gd} : Snd2 G (rIx G.K) idxD := fun ι H μ x y v u W σ Q r rx ry h => by
  cases x <;> cases y <;> first | exact h.elim | skip
  · rename_i z i
    simp only [idxD] at h
    split at h
    · rename_i hl
      split at h
      · rename_i c e
        exact .inr (.inr ⟨z, i, c, rx.str, ry.int, hl, e, h ι H .refl r _ (rep_str _)⟩)
      · exact h.elim
    · exact h.elim
  · rename_i l i
    simp only [idxD] at h
    split at h
    · rename_i d e
      obtain ⟨a, vs, rfl, h1, h2⟩ := rx.tup
      obtain ⟨w, e1, r1⟩ := h2.atI e
      exact .inr (.inl ⟨a, vs, i, w, rfl, ry.int, h1, e1, h ι H .refl r _ r1⟩)
    · exact h.elim
  · rename_i l i
    simp only [idxD] at h
    split at h
    · rename_i d e
      obtain ⟨a, vs, rfl, h1, h2⟩ := rx.frl
      obtain ⟨w, e1, r1⟩ := h2.atI e
      exact .inl ⟨a, vs, i, w, rfl, ry.int, FrL.sq _ _ h1, e1, h ι H .refl r _ r1⟩
    · exact h.elim
  · rename_i n i
    simp only [idxD] at h
    split at h
    · rename_i l em
      split at h
      · rename_i d e
        obtain ⟨a, vs, rfl, h1, h2, h3⟩ := r.lst em rx
        obtain ⟨w, e1, r1⟩ := h3.atI e
        exact .inl ⟨a, vs, i, w, rfl, ry.int, .of h2, e1, h ι H .refl r _ r1⟩
      · exact h.elim
    · exact h.elim
section
variable {X : Cx} {W : WX} {a b : Expr} {ma mb : MD} {pos p2 : Pos}
theorem se_idx (ha : SE X W a ma) (hb : SE X W b mb) (hs : PlainIx b := by exact fun _ _ => rfl) : SE X W (.Subscript a b pos) (mBin idxD ma mb) :=
  PE.mono (pe_ix ix_seq ha hb hs) fun σ H Q h => bin_red snd_idx h

/-! ### slices -/
abbrev MO := Rho → Mem → Res (Option Int)
@[simp] def oNone : MO := fun _ μ => .ok none μ
@[simp] def oSome (m : MD) : MO := fun ρ μ => (m ρ μ).bind fun x μ1 => match x with
  | .int i => .ok (some i) μ1
  | _ => .stuck
def tO (G : Gd) (W : WX) (m : MO) : TO := fun σ H Q => ∃ ρ μ ι, EnvOk G ι H ρ σ ∧ Rel G ι H μ ∧ Post G ι H W σ (m ρ μ) fun ι' H' _ o => Q o H'
theorem PO.mono {X : Cx} {e : Option Expr} {t t' : TO} (h : PO X e t) (f : ∀ σ H Q, t' σ H Q → t σ H Q) : PO X e t' := ⟨fun pins s σ H Q I w => h.run pins s σ H Q I (f σ H Q w)⟩
theorem so_none : PO X none (tO (gOf X) W oNone) := PO.mono po_none fun σ H Q ⟨ρ, μ, ι, env, rel, h⟩ => h ι H .refl rel
theorem so_some (h : SE X W a ma) : PO X (some a) (tO (gOf X) W (oSome ma)) := PO.mono (po_some h) fun σ H Q ⟨ρ, μ, ι, env, rel, h⟩ =>
  ⟨ρ, μ, ι, env, rel, (Post.bind h).imp fun ι1 H1 μ1 x _ _ ⟨g1, r1, h1⟩ v rv => by
    cases x with
    | int i => exact ⟨i, rv.int, h1 ι1 H1 .refl r1⟩
    | _ => exact h1.elim⟩
def cutD (l : List D) (lo hi : Option Int) : List D := (l.drop (HT.sIx l.length 0 lo)).take (HT.sIx l.length l.length hi - HT.sIx l.length 0 lo)
def slcD (x : D) (lo hi : Option Int) (μ : Mem) : Res D := match x with
  | .tup l => .ok (.tup (cutD l lo hi)) μ
  | .frl l => .ok (.ref μ.length) (μ ++ [.lst (cutD l lo hi)])
  | .ref n => (match μ[n]? with
    | some (.lst l) => .ok (.ref μ.length) (μ ++ [.lst (cutD l lo hi)])
    | _ => .stuck)
  | _ => .stuck
@[simp] def mSlc (a : MD) (lo hi : MO) : MD := fun ρ μ => (a ρ μ).bind fun x μ1 => (lo ρ μ1).bind fun l μ2 => (hi ρ μ2).bind fun u μ3 => slcD x l u μ3
def rSlAll (K : PySem.W.Frag) : V → Option Int → Option Int → Hp → VK → Prop := fun x lo hi H Q => rSlA K x lo hi H Q ∨ rSlL K x lo hi H Q
theorem Reps.cut {G : Gd} {ι : List Addr} {H : Hp} {l : List D} {vs : List V} (h : Reps G ι H l vs) (lo hi : Option Int) : Reps G ι H (cutD l lo hi) (cutV vs lo hi) := by
  unfold cutD cutV
  rw [h.length]
  exact (h.drop _).take _
theorem cutD_whole {l : List D} {lo hi : Option Int} (h : HT.sIx l.length 0 lo = 0 ∧ HT.sIx l.length l.length hi = l.length) : cutD l lo hi = l := by
  unfold cutD
  rw [h.1, h.2]; simp
theorem se_slc {lo hi : Option Expr} {ml mh : MO} (ha : SE X W a ma) (hl : PO X lo (tO (gOf X) W ml)) (hh : PO X hi (tO (gOf X) W mh)) : SE X W (.Subscript a (.Slice lo hi none p2) pos) (mSlc ma ml mh) :=
  PE.mono (pe_slice (SlR.or sl_tupA sl_list) ha hl hh) fun σ H Q ⟨ρ, μ, ι, env, rel, h⟩ => by
    refine ⟨ρ, μ, ι, env, rel, (Post.bind h).imp fun ι1 H1 μ1 x _ _ ⟨g1, r1, h1⟩ v rv => ?_⟩
    refine ⟨ρ, μ1, ι1, env.ext (g1.ext rel), r1, (Post.bind h1).imp fun ι2 H2 μ2 l _ _ ⟨g2, r2, h2⟩ => ?_⟩
    refine ⟨ρ, μ2, ι2, (env.ext (g1.ext rel)).ext (g2.ext r1), r2, (Post.bind h2).imp fun ι3 H3 μ3 u _ _ ⟨g3, r3, h3⟩ => ?_⟩
    have rv := (rv.ext (g2.ext r1)).ext (g3.ext r2)
    cases x with
    | tup t =>
      obtain ⟨a, vs, rfl, q1, q2⟩ := rv.tup
      refine .inl ⟨a, vs, rfl, q1, fun hw => ?_, fun _ => new_tup r3 (q2.cut l u) h3⟩
      rw [q2.length] at hw
      exact h3 ι3 H3 .refl r3 _ (by rw [cutD_whole hw]; exact rv)
    | frl t =>
      obtain ⟨a, vs, rfl, q1, q2⟩ := rv.frl
      exact .inr ⟨a, vs, rfl, FrL.sq _ _ q1, new_lst r3 (q2.cut l u) h3⟩
    | ref n =>
      simp only [slcD] at h3
      split at h3
      · rename_i t em
        obtain ⟨a, vs, rfl, q0, q1, q2⟩ := r3.lst em rv
        exact .inr ⟨a, vs, rfl, .of q1, new_lst r3 (q2.cut l u) h3⟩
      · exact h3.elim
    | _ => exact h3.elim
end

/-! ### built-in functions -/
section
variable {X : Cx} {W : WX} {x : Str} {p pos : Pos} {e : Expr} {es : List Expr} {ms : ML} {id T : String}
@[simp] def mB (f : List D → Mem → Res D) (a : ML) : MD := fun ρ μ => (a ρ μ).bind fun xs μ1 => f xs μ1
def SndL (G : Gd) (r : List V → Hp → VK → Prop) (f : List D → Mem → Res D) : Prop := ∀ (ι : List Addr) (H : Hp) (μ : Mem) (xs : List D) (vs : List V) (W : WX) (σ : St) (Q : VK), Rel G ι H μ → Reps G ι H xs vs →
  Post G ι H W σ (f xs μ) (fun ι' H' _ d => ∀ v, Rep G ι' H' d v → Q v H') → r vs H Q
theorem cb_red {r : List V → Hp → VK → Prop} {f : List D → Mem → Res D} (hf : SndL (gOf X) r f) {σ : St} {H : Hp} {Q : VK} (h : tE (gOf X) W (mB f ms) σ H Q) : tCB r (tL (gOf X) W ms) σ H Q := by
  obtain ⟨ρ, μ, ι, env, rel, h⟩ := h
  exact ⟨ρ, μ, ι, env, rel, (Post.bind h).imp fun ι1 H1 μ1 xs _ _ ⟨g1, r1, h1⟩ vs rvs => hf ι1 H1 μ1 xs vs W σ Q r1 rvs h1⟩
theorem se_B {r : List V → Hp → VK → Prop} {f : List D → Mem → Res D} (hc : CallR X (.builtin id) r) (hf : SndL (gOf X) r f) (hg : Gl X x) (hm : X.mg x = none) (hv : bootBuiltins x = some (.builtin id)) (ha : SA X W (e :: es) ms) (hn : x ≠ "__name__" := by decide) (hdb : (x == ("__debug__" : Str)) = false := by decide)
    (he : starEach (e :: es) X.env = (false, eval e X.env) :: starEach es X.env := by rfl) (hpl : (backTo pos (starEach es X.env)).any (·.1) = false := by rfl) : SE X W (.Call (.Name x p) (e :: es) [] pos) (mB f ms) :=
  PE.mono (pe_callB hc hg hm hv ha hn hdb he hpl) fun σ H Q h => cb_red hf h
theorem se_T {r : List V → Hp → VK → Prop} {f : List D → Mem → Res D} (hc : CallR X (.type T) r) (hf : SndL (gOf X) r f) (hg : Gl X x) (hm : X.mg x = none) (hv : bootBuiltins x = some (.type T)) (ha : SA X W (e :: es) ms) (hn : x ≠ "__name__" := by decide) (hdb : (x == ("__debug__" : Str)) = false := by decide)
    (he : starEach (e :: es) X.env = (false, eval e X.env) :: starEach es X.env := by rfl) (hpl : (backTo pos (starEach es X.env)).any (·.1) = false := by rfl) : SE X W (.Call (.Name x p) (e :: es) [] pos) (mB f ms) :=
  PE.mono (pe_callTy hc hg hm hv ha hn hdb he hpl) fun σ H Q h => cb_red hf h
end
theorem Reps.one {G : Gd} {ι : List Addr} {H : Hp} {x : D} {vs : List V} (h : Reps G ι H [x] vs) : ∃ v, vs = [v] ∧ Rep G ι H x v := by
  obtain ⟨v, r, rfl, h1, h2⟩ := h.cons_inv
  rw [h2.nil_inv]; exact ⟨v, rfl, h1⟩
theorem Reps.two {G : Gd} {ι : List Addr} {H : Hp} {x y : D} {vs : List V} (h : Reps G ι H [x, y] vs) : ∃ v w, vs = [v, w] ∧ Rep G ι H x v ∧ Rep G ι H y w := by
  obtain ⟨v, r, rfl, h1, h2⟩ := h.cons_inv
  obtain ⟨w, rfl, h3⟩ := h2.one
  exact ⟨v, w, rfl, h1, h3⟩
def absL : List D → Mem → Res D
  | [.int i], μ => .ok (.int (if i < 0 then -i else i)) μ
  | _, _ => .stuck
def lenL : List D → Mem → Res D
  | [.tup l], μ => .ok (.int l.length) μ
  | [.frl l], μ => .ok (.int l.length) μ
  | [.ref n], μ => (match μ[n]? with
    | some (.lst l) => .ok (.int l.length) μ
    | _ => .stuck)
  | [.str z], μ => if z.length ≤ sizeLine then .ok (.int z.length) μ else .stuck
  | _, _ => .stuck
def min2L : List D → Mem → Res D
  | [.int i, .int j], μ => .ok (.int (if j < i then j else i)) μ
  | _, _ => .stuck
def max2L : List D → Mem → Res D
  | [.int i, .int j], μ => .ok (.int (if j > i then j else i)) μ
  | _, _ => .stuck
def intL : List D → Mem → Res D
  | [.int i], μ => .ok (.int i) μ
  | [.bl k], μ => .ok (.int (if k then 1 else 0)) μ
  | _, _ => .stuck
def tupleL : List D → Mem → Res D
  | [.tup l], μ => .ok (.tup l) μ
  | [.frl l], μ => .ok (.tup l) μ
  | [.ref n], μ => (match μ[n]? with
    | some (.lst l) => .ok (.tup l) μ
    | _ => .stuck)
  | _, _ => .stuck
def listL : List D → Mem → Res D
  | [.tup l], μ => .ok (.ref μ.length) (μ ++ [.lst l])
  | [.frl l], μ => .ok (.ref μ.length) (μ ++ [.lst l])
  | [.ref n], μ => (match μ[n]? with
    | some (.lst l) => .ok (.ref μ.length) (μ ++ [.lst l])
    | _ => .stuck)
  | _, _ => .stuck
theorem snd_abs {G : Gd} : SndL G (fun xs H Q => ∃ i, xs = [.int i] ∧ Q (.int (if i < 0 then -i else i)) H) absL := fun ι H μ xs vs W σ Q r rxs h => by
  unfold absL at h
  split at h
  · obtain ⟨v, rfl, rv⟩ := rxs.one
    exact ⟨_, by rw [rv.int], h ι H .refl r _ (rep_int _)⟩
  · exact h.elim
theorem snd_min2 {G : Gd} : SndL G (fun xs H Q => ∃ i j, xs = [.int i, .int j] ∧ Q (.int (if j < i then j else i)) H) min2L := fun ι H μ xs vs W σ Q r rxs h => by
  unfold min2L at h
  split at h
  · obtain ⟨v, w, rfl, rv, rw'⟩ := rxs.two
    exact ⟨_, _, by rw [rv.int, rw'.int], h ι H .refl r _ (rep_int _)⟩
  · exact h.elim
theorem snd_max2 {G : Gd} : SndL G (fun xs H Q => ∃ i j, xs = [.int i, .int j] ∧ Q (.int (if j > i then j else i)) H) max2L := fun ι H μ xs vs W σ Q r rxs h => by
  unfold max2L at h
  split at h
  · obtain ⟨v, w, rfl, rv, rw'⟩ := rxs.two
    exact ⟨_, _, by rw [rv.int, rw'.int], h ι H .refl r _ (rep_int _)⟩
  · exact h.elim
theorem snd_intL {G : Gd} : SndL G (fun xs H Q => (∃ i, xs = [.int i] ∧ Q (.int i) H) ∨ ∃ k, xs = [.bl k] ∧ Q (.int (if k then 1 else 0)) H) intL := fun ι H μ xs vs W σ Q r rxs h => by
  unfold intL at h
  split at h
  · obtain ⟨v, rfl, rv⟩ := rxs.one
    exact .inl ⟨_, by rw [rv.int], h ι H .refl r _ (rep_int _)⟩
  · obtain ⟨v, rfl, rv⟩ := rxs.one
    exact .inr ⟨_, by rw [rv.bl], h ι H .refl r _ (rep_int _)⟩
  · exact h.elim
def rLenA (K : PySem.W.Frag) : List V → Hp → VK → Prop := fun xs H Q => (∃ p ys, xs = [.ref p] ∧ (SqL K H p ys ∨ SqT K H p ys) ∧ Q (.int ys.length) H) ∨ (∃ z, xs = [.str z] ∧ z.length ≤ sizeLine ∧ Q (.int z.length) H)
theorem call_lenA {X : Cx} : CallR X (.builtin "len") (rLenA X.K) := call_len_seq.or call_len_str
theorem snd_len {G : Gd} : SndL G (rLenA G.K) lenL := fun ι H μ xs vs W σ Q r rxs h => by
  unfold lenL at h
  split at h
  · obtain ⟨v, rfl, rv⟩ := rxs.one
    obtain ⟨a, vs, rfl, h1, h2⟩ := rv.tup
    exact .inl ⟨a, vs, rfl, .inr h1, by rw [h2.length]; exact h ι H .refl r _ (rep_int _)⟩
  · obtain ⟨v, rfl, rv⟩ := rxs.one
    obtain ⟨a, vs, rfl, h1, h2⟩ := rv.frl
    exact .inl ⟨a, vs, rfl, .inl (FrL.sq _ _ h1), by rw [h2.length]; exact h ι H .refl r _ (rep_int _)⟩
  · obtain ⟨v, rfl, rv⟩ := rxs.one
    split at h
    · rename_i l em
      obtain ⟨a, vs, rfl, h0, h1, h2⟩ := r.lst em rv
      exact .inl ⟨a, vs, rfl, .inl (.of h1), by rw [h2.length]; exact h ι H .refl r _ (rep_int _)⟩
    · exact h.elim
  · obtain ⟨v, rfl, rv⟩ := rxs.one
    split at h
    · rename_i hl
      exact .inr ⟨_, by rw [rv.str], hl, h ι H .refl r _ (rep_int _)⟩
    · exact h.elim
  · exact h.elim
theorem snd_tupleL {G : Gd} : SndL G (fun xs H Q => ∃ p ys, xs = [.ref p] ∧ ((SqL G.K H p ys ∧ ∀ l, H l = none → Q (.ref l) (upd H l (.tup ys))) ∨ (SqT G.K H p ys ∧ Q (.ref p) H))) tupleL := fun ι H μ xs vs W σ Q r rxs h => by
  unfold tupleL at h
  split at h
  · obtain ⟨v, rfl, rv⟩ := rxs.one
    obtain ⟨a, vs, rfl, h1, h2⟩ := id rv.tup
    exact ⟨a, vs, rfl, .inr ⟨h1, h ι H .refl r _ rv⟩⟩
  · obtain ⟨v, rfl, rv⟩ := rxs.one
    obtain ⟨a, vs, rfl, h1, h2⟩ := rv.frl
    exact ⟨a, vs, rfl, .inl ⟨FrL.sq _ _ h1, new_tup r h2 h⟩⟩
  · obtain ⟨v, rfl, rv⟩ := rxs.one
    split at h
    · rename_i l em
      obtain ⟨a, vs, rfl, h0, h1, h2⟩ := r.lst em rv
      exact ⟨a, vs, rfl, .inl ⟨.of h1, new_tup r h2 h⟩⟩
    · exact h.elim
  · exact h.elim
theorem snd_listL {G : Gd} : SndL G (fun xs H Q => ∃ p ys, xs = [.ref p] ∧ (SqL G.K H p ys ∨ SqT G.K H p ys) ∧ ∀ l, H l = none → Q (.ref l) (upd H l (.lst ys))) listL := fun ι H μ xs vs W σ Q r rxs h => by
  unfold listL at h
  split at h
  · obtain ⟨v, rfl, rv⟩ := rxs.one
    obtain ⟨a, vs, rfl, h1, h2⟩ := id rv.tup
    exact ⟨a, vs, rfl, .inr h1, new_lst r h2 h⟩
  · obtain ⟨v, rfl, rv⟩ := rxs.one
    obtain ⟨a, vs, rfl, h1, h2⟩ := rv.frl
    exact ⟨a, vs, rfl, .inl (FrL.sq _ _ h1), new_lst r h2 h⟩
  · obtain ⟨v, rfl, rv⟩ := rxs.one
    split at h
    · rename_i l em
      obtain ⟨a, vs, rfl, h0, h1, h2⟩ := r.lst em rv
      exact ⟨a, vs, rfl, .inl (.of h1), new_lst r h2 h⟩
    · exact h.elim
  · exact h.elim
end RW

/-! SEf: statements, loops. -/
namespace RW
open PySem L2
abbrev SS (X : Cx) (W : WX) (st : Stmt) (m : MS) : Prop := PS X st (tS (gOf X) W m)
abbrev SSs (X : Cx) (W : WX) (st : List Stmt) (m : MS) : Prop := PSs X st (tS (gOf X) W m)
abbrev MG := D → Rho → Mem → Res Rho
abbrev MIt := Rho → Mem → Res (List D × (Mem → Prop))
@[simp] def sNil : MS := fun ρ μ => .ok (.nx ρ) μ
@[simp] def sNever : MS := fun ρ μ => .stuck
@[simp] def sBrk : MS := fun ρ μ => .ok (.brk ρ) μ
@[simp] def sCnt : MS := fun ρ μ => .ok (.cnt ρ) μ
@[simp] def thenS (b : MS) : Fl → Mem → Res Fl
  | .nx ρ', μ => b ρ' μ
  | f, μ => .ok f μ
@[simp] def sSeq (a b : MS) : MS := fun ρ μ => (a ρ μ).bind (thenS b)
@[simp] def sIf (c : MB) (a b : MS) : MS := fun ρ μ => onE (c ρ μ) ρ fun t μ1 => if t = true then a ρ μ1 else b ρ μ1
@[simp] def sExpr (e : MD) : MS := fun ρ μ => onE (e ρ μ) ρ fun _ μ1 => .ok (.nx ρ) μ1
@[simp] def sRet (e : MD) : MS := fun ρ μ => onE (e ρ μ) ρ fun d μ1 => .ok (.ret d) μ1
@[simp] def sRetN : MS := fun ρ μ => .ok (.ret .non) μ
@[simp] def sSet (i : Nat) (e : MD) : MS := fun ρ μ => onE (e ρ μ) ρ fun d μ1 => .ok (.nx (ρ.set i (some d))) μ1
/-- no exception here -/
@[simp] def pureE {α β : Type} (r : Res α) (k : α → Mem → Res β) : Res β := match r with
  | .ok a m => k a m
  | _ => .stuck
@[simp] def sAsg (e : MD) (g : MG) : MS := fun ρ μ => onE (e ρ μ) ρ fun d μ1 => pureE (g d ρ μ1) fun ρ' μ2 => .ok (.nx ρ') μ2
@[simp] def sAug (i : Nat) (f : D → D → Mem → Res D) (e : MD) : MS := fun ρ μ => onE (mVar i ρ μ) ρ fun x μ1 => onE (e ρ μ1) ρ fun y μ2 => pureE (f x y μ2) fun z μ3 => .ok (.nx (ρ.set i (some z))) μ3
@[simp] def endL (k : MS) : Fl → Mem → Res Fl
  | .nx ρ, μ => k ρ μ
  | .cnt ρ, μ => k ρ μ
  | .brk ρ, μ => .ok (.nx ρ) μ
  | f, μ => .ok f μ
open Classical in
noncomputable def forL (chk : Mem → Prop) (g : MG) (body : MS) : List D → MS
  | [], ρ, μ => if chk μ then .ok (.nx ρ) μ else .stuck
  | d :: ds, ρ, μ => if chk μ then pureE (g d ρ μ) fun ρ1 μ1 => (body ρ1 μ1).bind (endL (forL chk g body ds)) else .stuck
@[simp] noncomputable def sFor (it : MIt) (g : MG) (body : MS) : MS := fun ρ μ => onE (it ρ μ) ρ fun p μ1 => forL p.2 g body p.1 ρ μ1
def whileL (c : MB) (body : MS) : Nat → MS
  | 0, _, _ => .stuck
  | n + 1, ρ, μ => onE (c ρ μ) ρ fun b μ1 => if b = true then (body ρ μ1).bind (endL (whileL c body n)) else .ok (.nx ρ) μ1

section
variable {G : Gd} {ι ι' : List Addr} {H H' : Hp} {W : WX} {σ : St} {ρ : Rho} {α : Type}
theorem PostS.bind {r : Res Fl} {f : Fl → Mem → Res Fl} {k : List Addr → Hp → Mem → Fl → Prop} (h : PostS G ι H (r.bind f) k) :
    PostS G ι H r fun ι' H' μ' a => Grow ι H ι' H' ∧ Rel G ι' H' μ' ∧ PostS G ι' H' (f a μ') k := by
  cases r with
  | ok a m => exact fun ι' H' g r => ⟨g, r, PostS.grow h g⟩
  | exc c fs m => exact h
  | stuck => exact h
theorem PostS.imp {r : Res Fl} {k k' : List Addr → Hp → Mem → Fl → Prop} (h : PostS G ι H r k) (f : ∀ ι' H' μ' a, Grow ι H ι' H' → Rel G ι' H' μ' → k ι' H' μ' a → k' ι' H' μ' a) : PostS G ι H r k' := by
  cases r with
  | ok a m => exact fun ι' H' g r => f _ _ _ _ g r (h ι' H' g r)
  | exc c fs m => exact h
  | stuck => exact h
/-- a step that may not raise -/
theorem PostS.pureE {D : Ends} {r : Res α} {k : α → Mem → Res Fl} (h : PostS G ι H (pureE r k) (FlK G W D)) :
    Post G ι H W σ r fun ι' H' μ' a => Grow ι H ι' H' ∧ Rel G ι' H' μ' ∧ PostS G ι' H' (k a μ') (FlK G W D) := by
  cases r with
  | ok a m => exact fun ι' H' g r => ⟨g, r, PostS.grow h g⟩
  | exc c fs m => exact h.elim
  | stuck => exact h.elim
end

section
variable {X : Cx} {W : WX} {st : Stmt} {rest : List Stmt} {m m' : MS} {e c : Expr} {me : MD} {pos : Pos}
theorem sss_nil : SSs X W [] sNil := PSs.mono pss_nil fun D σ H ⟨ρ, μ, ι, env, rel, h⟩ => h ι H .refl rel σ env
theorem sss_one (h : SS X W st m) : SSs X W [st] m := pss_one h
theorem sss_cons (h1 : SS X W st m) (h2 : SSs X W rest m') : SSs X W (st :: rest) (sSeq m m') :=
  PSs.mono (pss_cons h1 h2) fun D σ H ⟨ρ, μ, ι, env, rel, h⟩ => by
    refine ⟨ρ, μ, ι, env, rel, (PostS.bind h).imp fun ι1 H1 μ1 f _ _ ⟨g1, r1, h1⟩ => ?_⟩
    cases f with
    | nx ρ' => exact fun σ' env' => ⟨ρ', μ1, ι1, env', r1, h1⟩
    | brk ρ' => exact h1 ι1 H1 .refl r1
    | cnt ρ' => exact h1 ι1 H1 .refl r1
    | ret d => exact h1 ι1 H1 .refl r1
    | exc c fs ρ' => exact h1 ι1 H1 .refl r1
theorem ss_pass : SS X W (.Pass pos) sNil := PS.mono ps_pass fun D σ H ⟨ρ, μ, ι, env, rel, h⟩ => h ι H .refl rel σ env
theorem ss_brk : SS X W (.Break pos) sBrk := PS.mono ps_break fun D σ H ⟨ρ, μ, ι, env, rel, h⟩ => h ι H .refl rel σ env
theorem ss_cnt : SS X W (.Continue pos) sCnt := PS.mono ps_continue fun D σ H ⟨ρ, μ, ι, env, rel, h⟩ => h ι H .refl rel σ env
theorem ss_retN : SS X W (.Return none pos) sRetN := PS.mono ps_retN fun D σ H ⟨ρ, μ, ι, env, rel, h⟩ => h ι H .refl rel _ rep_non
theorem ss_expr (he : SE X W e me) (hs : swapsWith e none pos.line X.env = pure false := by rfl) : SS X W (.Expr e pos) (sExpr me) :=
  PS.mono (ps_expr he hs) fun D σ H ⟨ρ, μ, ι, env, rel, h⟩ =>
    ⟨ρ, μ, ι, env, rel, (PostS.onE h env ⟨μ, rel⟩).imp fun ι1 H1 μ1 d _ _ ⟨g1, r1, env1, h1⟩ v rv => h1 ι1 H1 .refl r1 σ env1⟩
theorem ss_ret (he : SE X W e me) : SS X W (.Return (some e) pos) (sRet me) :=
  PS.mono (ps_ret he) fun D σ H ⟨ρ, μ, ι, env, rel, h⟩ =>
    ⟨ρ, μ, ι, env, rel, (PostS.onE h env ⟨μ, rel⟩).imp fun ι1 H1 μ1 d _ _ ⟨g1, r1, env1, h1⟩ v rv => h1 ι1 H1 .refl r1 v rv⟩
theorem ss_if {a b : List Stmt} {mc : MB} (hc : ST X W c mc) (ha : SSs X W a m) (hb : SSs X W b m') : SS X W (.If c a b pos) (sIf mc m m') :=
  PS.mono (ps_if hc ha hb) fun D σ H ⟨ρ, μ, ι, env, rel, h⟩ => by
    refine ⟨ρ, μ, ι, env, rel, (PostS.onE h env ⟨μ, rel⟩).imp fun ι1 H1 μ1 t _ _ ⟨g1, r1, env1, h1⟩ => ?_⟩
    cases t with
    | true => exact iteT ⟨ρ, μ1, ι1, env1, r1, h1⟩
    | false => exact iteF ⟨ρ, μ1, ι1, env1, r1, h1⟩
theorem ss_set {i : Nat} {x : Str} {pos' : Pos} (hN : X.N.Nodup) (hi : X.N[i]? = some x) (hx : Loc X.env.scope x) (he : SE X W e me) (hs : swapsWith e (some (.Name x pos')) pos.line X.env = pure false := by rfl) (hf : X.fn x = true ∨ X.env.scope.names.lookup x = some .local := by first | exact .inl rfl | exact .inr rfl | assumption) :
    SS X W (.Assign [.Name x pos'] e pos) (sSet i me) :=
  PS.mono (ps_set hN hi hx he hs hf) fun D σ H ⟨ρ, μ, ι, env, rel, h⟩ =>
    ⟨ρ, μ, ι, env, rel, (PostS.onE h env ⟨μ, rel⟩).imp fun ι1 H1 μ1 d _ _ ⟨g1, r1, env1, h1⟩ v rv => h1 ι1 H1 .refl r1 _ (env1.set i rv)⟩
end

/-! ### targets -/
def tG (G : Gd) (W : WX) (g : MG) : TG := fun v σ H Q => ∃ d ρ μ ι, Rep G ι H d v ∧ EnvOk G ι H ρ σ ∧ Rel G ι H μ ∧ Post G ι H W σ (g d ρ μ) fun ι' H' _ ρ' => ∀ σ', EnvOk G ι' H' ρ' σ' → Q σ' H'
abbrev MGs := List D → Rho → Mem → Res Rho
def tGs (G : Gd) (W : WX) (g : MGs) : TGs := fun vs σ H Q => ∃ ds ρ μ ι, Reps G ι H ds vs ∧ EnvOk G ι H ρ σ ∧ Rel G ι H μ ∧ Post G ι H W σ (g ds ρ μ) fun ι' H' _ ρ' => ∀ σ', EnvOk G ι' H' ρ' σ' → Q σ' H'
@[simp] def gN (i : Nat) : MG := fun d ρ μ => .ok (ρ.set i (some d)) μ
@[simp] def gNilM : MGs := fun ds ρ μ => match ds with
  | [] => .ok ρ μ
  | _ => .stuck
/-- where an exception in a target would do, nothing is promised -/
@[simp] def gConsM (a : MG) (r : MGs) : MGs := fun ds ρ μ => match ds with
  | [] => .stuck
  | d :: l => pureE (a d ρ μ) fun ρ1 μ1 => pureE (r l ρ1 μ1) fun ρ2 μ2 => .ok ρ2 μ2
@[simp] def gTupM (n : Nat) (r : MGs) : MG := fun d ρ μ => match d with
  | .tup l => if l.length = n then r l ρ μ else .stuck
  | .ref k => (match μ[k]? with
    | some (.lst l) => if l.length = n then r l ρ μ else .stuck
    | _ => .stuck)
  | _ => .stuck
theorem PG.or {X : Cx} {e : Expr} {t t' : TG} (h : PG X e t) (h' : PG X e t') : PG X e fun v σ H Q => t v σ H Q ∨ t' v σ H Q := ⟨fun pins s σ H v u Q I r w => w.elim (h.run pins s σ H v u Q I r) (h'.run pins s σ H v u Q I r)⟩
theorem PG.mono {X : Cx} {e : Expr} {t t' : TG} (h : PG X e t) (f : ∀ v σ H Q, t' v σ H Q → t v σ H Q) : PG X e t' := ⟨fun pins s σ H v u Q I r w => h.run pins s σ H v u Q I r (f v σ H Q w)⟩
theorem PGs.mono {X : Cx} {e : List Expr} {t t' : TGs} (h : PGs X e t) (f : ∀ v σ H Q, t' v σ H Q → t v σ H Q) : PGs X e t' := ⟨fun pins s σ H v u Q I r w => h.run pins s σ H v u Q I r (f v σ H Q w)⟩
abbrev SG (X : Cx) (W : WX) (e : Expr) (g : MG) : Prop := PG X e (tG (gOf X) W g)
abbrev SGs (X : Cx) (W : WX) (e : List Expr) (g : MGs) : Prop := PGs X e (tGs (gOf X) W g)
section
variable {G : Gd} {ι ι' : List Addr} {H H' : Hp} {W : WX} {σ : St} {α β : Type}
theorem Post.pureE {r : Res α} {k : α → Mem → Res β} {kk : List Addr → Hp → Mem → β → Prop} (W' : WX) (σ' : St) (h : Post G ι H W σ (RW.pureE r k) kk) :
    Post G ι H W' σ' r fun ι' H' μ' a => Grow ι H ι' H' ∧ Rel G ι' H' μ' ∧ Post G ι' H' W σ (k a μ') kk := by
  cases r with
  | ok a m => exact fun ι' H' g r => ⟨g, r, Post.grow h g⟩
  | exc c fs m => exact h.elim
  | stuck => exact h.elim
end
section
variable {X : Cx} {W : WX} {pos : Pos} {e o i : Expr} {es : List Expr} {me mo mi : MD}
theorem sg_name {j : Nat} {x : Str} (hN : X.N.Nodup) (hi : X.N[j]? = some x) (hx : Loc X.env.scope x) (hf : X.fn x = true ∨ X.env.scope.names.lookup x = some .local := by first | exact .inl rfl | exact .inr rfl | assumption) : SG X W (.Name x pos) (gN j) :=
  PG.mono (pg_name hN hi hx hf) fun v σ H Q ⟨d, ρ, μ, ι, rv, env, rel, h⟩ => h ι H .refl rel _ (env.set j rv)
theorem sgs_nil : SGs X W [] gNilM := PGs.mono pgs_nil fun vs σ H Q ⟨ds, ρ, μ, ι, rv, env, rel, h⟩ => by
  cases ds with
  | nil => exact ⟨rv.nil_inv, h ι H .refl rel σ env⟩
  | cons _ _ => exact h.elim
theorem sgs_cons {g : MG} {gs : MGs} (h1 : SG X W e g) (h2 : SGs X W es gs) (hs : (assignEach (e :: es) X.env).map (·.2) = assign e X.env :: (assignEach es X.env).map (·.2) := by rfl) : SGs X W (e :: es) (gConsM g gs) :=
  PGs.mono (pgs_cons h1 h2 hs) fun vs σ H Q ⟨ds, ρ, μ, ι, rv, env, rel, h⟩ => by
    cases ds with
    | nil => exact h.elim
    | cons d l =>
      obtain ⟨v, r, rfl, h3, h4⟩ := rv.cons_inv
      refine ⟨v, r, rfl, d, ρ, μ, ι, h3, env, rel, (Post.pureE W σ h).imp fun ι1 H1 μ1 ρ1 _ _ ⟨g1, r1, h1⟩ σ1 env1 => ?_⟩
      exact ⟨l, ρ1, μ1, ι1, h4.ext (g1.ext rel), env1, r1, (Post.pureE W σ1 h1).imp fun ι2 H2 μ2 ρ2 _ _ ⟨g2, r2, h2⟩ σ2 env2 => h2 ι2 H2 .refl r2 σ2 env2⟩
theorem sg_tup {k n : Nat} {gs : MGs} (hc : X.calm = true) (h : SGs X W es gs) (hn : (assignEach es X.env).length = n := by rfl) (hst : (assignEach es X.env).findIdx? (·.1) = none := by rfl) : SG X W (.Tuple es k pos) (gTupM n gs) :=
  PG.mono (PG.or (pg_tup hc h hn hst) (pg_lst hc h hn hst)) fun v σ H Q ⟨d, ρ, μ, ι, rv, env, rel, h⟩ => by
    cases d with
    | tup l =>
      simp only [gTupM] at h
      split at h
      · rename_i hl
        obtain ⟨a, vs, rfl, h1, h2⟩ := rv.tup
        exact .inl ⟨a, vs, rfl, h1, h2.length.trans hl, l, ρ, μ, ι, h2, env, rel, h⟩
      · exact h.elim
    | ref m =>
      simp only [gTupM] at h
      split at h
      · rename_i l em
        split at h
        · rename_i hl
          obtain ⟨a, vs, rfl, h0, h1, h2⟩ := rel.lst em rv
          exact .inr ⟨a, vs, rfl, .of h1, h2.length.trans hl, l, ρ, μ, ι, h2, env, rel, h⟩
        · exact h.elim
      · exact h.elim
    | _ => exact h.elim
/-! a store at a place -/
def SndSet (G : Gd) (r : TSet) (f : D → D → D → Mem → Res Unit) : Prop := ∀ (ι : List Addr) (H : Hp) (μ : Mem) (o i x : D) (ov iv v : V) (W : WX) (σ : St) (Q : Hp → Prop), Rel G ι H μ → Rep G ι H o ov → Rep G ι H i iv → Rep G ι H x v →
  Post G ι H W σ (f o i x μ) (fun ι' H' _ _ => Q H') → r ov iv v H Q
@[simp] def gSubM (f : D → D → D → Mem → Res Unit) (o i : MD) : MG := fun d ρ μ => (o ρ μ).bind fun x μ1 => (i ρ μ1).bind fun y μ2 => pureE (f x y d μ2) fun _ μ3 => .ok ρ μ3
theorem sg_sub {t : TSet} {f : D → D → D → Mem → Res Unit} (ho : SE X W o mo) (hi : SE X W i mi) (hs : PSet X t) (hf : SndSet (gOf X) t f)
    (ha : ∀ v, assign (.Subscript o i pos) X.env v = (do
      let ov ← holding [v] (eval o X.env)
      let iv ← holding [v, ov] (eval i X.env)
      standAt pos
      holding [v, ov, iv] (setItem ov iv v)
      release [v, ov, iv] []) := by intro _; rfl) : SG X W (.Subscript o i pos) (gSubM f mo mi) :=
  PG.mono (pg_sub ho hi hs ha) fun v σ H Q ⟨d, ρ, μ, ι, rv, env, rel, h⟩ => by
    refine ⟨ρ, μ, ι, env, rel, (Post.bind h).imp fun ι1 H1 μ1 x _ _ ⟨g1, r1, h1⟩ ov rov => ?_⟩
    have env1 := env.ext (g1.ext rel)
    refine ⟨ρ, μ1, ι1, env1, r1, (Post.bind h1).imp fun ι2 H2 μ2 y _ _ ⟨g2, r2, h2⟩ iv riv => ?_⟩
    have env2 := env1.ext (g2.ext r1)
    exact hf ι2 H2 μ2 x y d ov iv v W σ _ r2 (rov.ext (g2.ext r1)) riv ((rv.ext (g1.ext rel)).ext (g2.ext r1)) ((Post.pureE W σ h2).imp fun ι3 H3 μ3 _ _ _ ⟨g3, r3, h3⟩ => h3 ι3 H3 .refl r3 σ (env2.ext (g3.ext r2)))
def setLD : D → D → D → Mem → Res Unit
  | .ref n, .int k, d, μ => (match μ[n]? with
    | some (.lst l) => (match ixN l.length k with
      | some j => .ok () (μ.set n (.lst (l.set j d)))
      | none => .stuck)
    | _ => .stuck)
  | _, _, _, _ => .stuck
theorem snd_setL {G : Gd} : SndSet G rSetL setLD := fun ι H μ o i x ov iv v W σ Q r ro ri rx h => by
  cases o <;> first | exact h.elim | skip
  cases i <;> first | exact h.elim | skip
  simp only [setLD] at h
  split at h
  · rename_i l em
    split at h
    · rename_i j ej
      obtain ⟨a, vs, rfl, h0, h1, h2⟩ := r.lst em ro
      refine ⟨a, vs, _, j, rfl, ri.int, h1, by rw [h2.length]; exact ej, ?_⟩
      obtain ⟨g2, r2⟩ := grow_set (o := .lst (vs.set j v)) (c := .lst (l.set j x)) r h0 (fun _ _ e => by rw [h1] at e; cases e) fun e => ⟨_, upd_same, (h2.set j rx).ext e⟩
      exact h ι _ g2 r2
    · exact h.elim
  · exact h.elim
theorem ss_asg {tg : Expr} {g : MG} (he : SE X W e me) (hg : SG X W tg g) (hs : swapsWithSole [tg] e pos.line X.env = pure false := by rfl) (hw : swappedStores [tg] e X.env = pure none := by rfl)
    (h1 : (assignEach [tg] X.env).map (·.2) = [assign tg X.env] := by rfl) : SS X W (.Assign [tg] e pos) (sAsg me g) :=
  PS.mono (ps_asg he hg hs hw h1) fun D σ H ⟨ρ, μ, ι, env, rel, h⟩ =>
    ⟨ρ, μ, ι, env, rel, (PostS.onE h env ⟨μ, rel⟩).imp fun ι1 H1 μ1 d _ _ ⟨g1, r1, env1, h1⟩ v rv =>
      ⟨d, ρ, μ1, ι1, rv, env1, r1, (PostS.pureE (W := W) (σ := σ) h1).imp fun ι2 H2 μ2 ρ2 _ _ ⟨g2, r2, h2⟩ σ2 env2 => h2 ι2 H2 .refl r2 σ2 env2⟩⟩
def SndIp (G : Gd) (r : TIp) (f : D → D → Mem → Res D) : Prop := Snd2 G r f
theorem ss_aug {j : Nat} {x : Str} {op : Operator} {ti : TIp} {f : D → D → Mem → Res D} {pos' : Pos} (hN : X.N.Nodup) (hi : X.N[j]? = some x) (hx : Loc X.env.scope x) (he : SE X W e me) (ho : PIp X op ti) (hf : Snd2 (gOf X) ti f) (hfn : X.fn x = true ∨ X.env.scope.names.lookup x = some .local := by first | exact .inl rfl | exact .inr rfl | assumption) :
    SS X W (.AugAssign (.Name x pos') op e pos) (sAug j f me) :=
  PS.mono (ps_aug hN hi hx he ho hfn) fun D σ H ⟨ρ, μ, ι, env, rel, h⟩ => by
    have h := PostS.onE h env ⟨μ, rel⟩
    simp only [mVar] at h
    cases eq : ρ[j]? with
    | none => rw [eq] at h; exact h.elim
    | some od =>
      rw [eq] at h
      cases od with
      | none => exact h.elim
      | some d =>
        obtain ⟨v, h1, h2⟩ := env.at_ j d eq
        obtain ⟨_, _, _, h3⟩ := h ι H .refl rel
        refine ⟨v, h1, ρ, μ, ι, env, rel, (PostS.onE h3 env ⟨μ, rel⟩).imp fun ι1 H1 μ1 y _ _ ⟨g1, r1, env1, h4⟩ u ru => ?_⟩
        exact hf ι1 H1 μ1 d y v u W σ _ r1 (h2.ext (g1.ext rel)) ru ((PostS.pureE h4).imp fun ι2 H2 μ2 z _ _ ⟨g2, r2, h5⟩ w rw' => h5 ι2 H2 .refl r2 _ ((env1.ext (g2.ext r1)).set j rw'))
theorem pip_of {op : Operator} {r : R2} (ho : OpR X (inplaceOp op) r) : PIp X op r := fun pins s σ H x y v u Q I r1 r2 h => augR ho I r1 r2 h
end

/-! ### what is walked -/
structure ItOk (G : Gd) (ι0 : List Addr) (H0 : Hp) (J : It) (items : List D) (chk : Mem → Prop) : Prop where
  go : ∀ (i : Nat) (d : D) (ι : List Addr) (H : Hp) (μ : Mem), items[i]? = some d → Grow ι0 H0 ι H → Rel G ι H μ → chk μ → J.go i H
  yld : ∀ (i : Nat) (d : D) (ι : List Addr) (H : Hp) (μ : Mem) (x : V) (H' : Hp), items[i]? = some d → Grow ι0 H0 ι H → Rel G ι H μ → chk μ → J.yld i H x H' → Grow ι H ι H' ∧ Rel G ι H' μ ∧ Rep G ι H' d x
  stop : ∀ (ι : List Addr) (H : Hp) (μ : Mem), Grow ι0 H0 ι H → Rel G ι H μ → chk μ → J.stop items.length H
def tI (G : Gd) (W : WX) (m : MIt) : TI := fun σ H R => ∃ ρ μ ι, EnvOk G ι H ρ σ ∧ Rel G ι H μ ∧ Post G ι H W σ (m ρ μ) fun ι' H' _ p => ∀ J, ItOk G ι' H' J p.1 p.2 → R J H'
abbrev SI (X : Cx) (W : WX) (tg iter : Expr) (m : MIt) : Prop := PI X tg iter (tI (gOf X) W m)
theorem PI.mono {X : Cx} {tg e : Expr} {t t' : TI} (h : PI X tg e t) (f : ∀ σ H Q, t' σ H Q → t σ H Q) : PI X tg e t' := ⟨fun pins s σ H Q I w => h.run pins s σ H Q I (f σ H Q w)⟩
theorem PI.or {X : Cx} {tg e : Expr} {t t' : TI} (h : PI X tg e t) (h' : PI X tg e t') : PI X tg e fun σ H R => t σ H R ∨ t' σ H R := ⟨fun pins s σ H Q I w => w.elim (h.run pins s σ H Q I) (h'.run pins s σ H Q I)⟩
def itSeq : D → Mem → Res (List D × (Mem → Prop))
  | .tup l, μ => .ok (l, fun _ => True) μ
  | .frl l, μ => .ok (l, fun _ => True) μ
  | .ref n, μ => (match μ[n]? with
    | some (.lst l) => .ok (l, fun μ' => μ'[n]? = some (.lst l)) μ
    | _ => .stuck)
  | _, _ => .stuck
@[simp] def iSeq (a : MD) : MIt := fun ρ μ => (a ρ μ).bind fun x μ1 => itSeq x μ1
section
variable {G : Gd} {ι : List Addr} {H : Hp} {μ : Mem}
theorem it_tup {a : Addr} {l : List D} {vs : List V} (rel : Rel G ι H μ) (h1 : SqT G.K H a vs) (h2 : Reps G ι H l vs) : ItOk G ι H (Itt G.K a) l (fun _ => True) where
  go := fun i d ι' H' μ' e g r _ => by
    have x := g.ext rel
    obtain ⟨v, e1, _⟩ := h2.get e
    refine ⟨vs, v, ?_, e1⟩
    rcases h1 with (h1 | ⟨o, h1⟩) | h1
    · exact .inl (.inl (x.tup _ _ h1))
    · exact .inl (.inr ⟨o, x.frz _ _ _ h1 ⟨_, by first | exact .inl rfl | exact .inr rfl⟩⟩)
    · exact .inr h1
  yld := fun i d ι' H' μ' v H2 e g r _ ⟨e1, e2⟩ => by
    subst e1
    have x := g.ext rel
    have sq : SqT G.K H2 a vs := by
      rcases h1 with (h1 | ⟨o, h1⟩) | h1
      · exact .inl (.inl (x.tup _ _ h1))
      · exact .inl (.inr ⟨o, x.frz _ _ _ h1 ⟨_, by first | exact .inl rfl | exact .inr rfl⟩⟩)
      · exact .inr h1
    obtain ⟨v', e3, r3⟩ := h2.get e
    rw [e2 vs sq] at e3; cases e3
    exact ⟨.refl, r, r3.ext x⟩
  stop := fun ι' H' μ' g r _ => by
    have x := g.ext rel
    refine ⟨vs, ?_, by rw [h2.length]; exact Nat.le_refl _⟩
    rcases h1 with (h1 | ⟨o, h1⟩) | h1
    · exact .inl (.inl (x.tup _ _ h1))
    · exact .inl (.inr ⟨o, x.frz _ _ _ h1 ⟨_, by first | exact .inl rfl | exact .inr rfl⟩⟩)
    · exact .inr h1
theorem it_frl {a : Addr} {l : List D} {vs : List V} (rel : Rel G ι H μ) (h1 : FrL G H a vs) (h2 : Reps G ι H l vs) : ItOk G ι H (Itl G.K a) l (fun _ => True) := by
  have key : ∀ {ι' : List Addr} {H' : Hp}, Grow ι H ι' H' → SqL G.K H' a vs := fun {ι' H'} g => by
    have x := g.ext rel
    rcases h1 with ⟨o, h1⟩ | h1
    · exact .inl (.inr ⟨o, x.frz _ _ _ h1 ⟨_, by first | exact .inl rfl | exact .inr rfl⟩⟩)
    · exact .inr h1
  refine ⟨fun i d ι' H' μ' e g r _ => ?_, fun i d ι' H' μ' v H2 e g r _ ⟨e1, e2⟩ => ?_, fun ι' H' μ' g r _ => ⟨vs, key g, by rw [h2.length]; exact Nat.le_refl _⟩⟩
  · obtain ⟨v, e1, _⟩ := h2.get e
    exact ⟨vs, v, key g, e1⟩
  · subst e1
    obtain ⟨v', e3, r3⟩ := h2.get e
    rw [e2 vs (key g)] at e3; cases e3
    exact ⟨.refl, r, r3.ext (g.ext rel)⟩
theorem it_lst {a : Addr} {n : Nat} {l : List D} (hn : ι[n]? = some a) : ItOk G ι H (Itl G.K a) l (fun μ' => μ'[n]? = some (.lst l)) := by
  have key : ∀ {ι' : List Addr} {H' : Hp} {μ' : Mem}, Grow ι H ι' H' → Rel G ι' H' μ' → μ'[n]? = some (.lst l) → ∃ vs, SqL G.K H' a vs ∧ Reps G ι' H' l vs := fun {ι' H' μ'} g r e => by
    obtain ⟨vs, h1, h2⟩ := r.cell n _ a e (prefix_get g.pre hn)
    exact ⟨vs, .of h1, h2⟩
  refine ⟨fun i d ι' H' μ' e g r c => ?_, fun i d ι' H' μ' v H2 e g r c ⟨e1, e2⟩ => ?_, fun ι' H' μ' g r c => ?_⟩
  · obtain ⟨vs, h1, h2⟩ := key g r c
    obtain ⟨v, e1, _⟩ := h2.get e
    exact ⟨vs, v, h1, e1⟩
  · subst e1
    obtain ⟨vs, h1, h2⟩ := key g r c
    obtain ⟨v', e3, r3⟩ := h2.get e
    rw [e2 vs h1] at e3; cases e3
    exact ⟨.refl, r, r3⟩
  · obtain ⟨vs, h1, h2⟩ := key g r c
    exact ⟨vs, h1, by rw [h2.length]; exact Nat.le_refl _⟩
end
section
variable {X : Cx} {W : WX} {tg e : Expr} {me : MD} {pos p : Pos}
theorem si_seq (he : SE X W e me) : SI X W tg e (iSeq me) :=
  PI.mono (PI.or (pi_tup he) (pi_list he)) fun σ H R ⟨ρ, μ, ι, env, rel, h⟩ => by
    have h := Post.bind h
    cases hm : me ρ μ with
    | stuck => rw [hm] at h; exact h.elim
    | exc c fs m => exact .inl ⟨ρ, μ, ι, env, rel, by rw [hm] at h ⊢; exact h⟩
    | ok d μ1 =>
      rw [hm] at h
      by_cases ht : ∃ l, d = .tup l
      · obtain ⟨l, rfl⟩ := ht
        refine .inl ⟨ρ, μ, ι, env, rel, ?_⟩
        rw [hm]
        intro ι1 H1 g1 r1 v rv
        obtain ⟨a, vs, rfl, h1, h2⟩ := rv.tup
        obtain ⟨_, _, h3⟩ := h ι1 H1 g1 r1
        exact ⟨a, rfl, ⟨vs, h1⟩, h3 ι1 H1 .refl r1 _ (it_tup r1 h1 h2)⟩
      · refine .inr ⟨ρ, μ, ι, env, rel, ?_⟩
        rw [hm]
        intro ι1 H1 g1 r1 v rv
        obtain ⟨_, _, h3⟩ := h ι1 H1 g1 r1
        cases d with
        | tup l => exact (ht ⟨l, rfl⟩).elim
        | frl l =>
          obtain ⟨a, vs, rfl, h1, h2⟩ := rv.frl
          exact ⟨a, rfl, ⟨vs, FrL.sq _ _ h1⟩, h3 ι1 H1 .refl r1 _ (it_frl r1 h1 h2)⟩
        | ref n =>
          simp only [itSeq] at h3
          split at h3
          · rename_i l em
            obtain ⟨a, vs, rfl, h0, h1, h2⟩ := r1.lst em rv
            exact ⟨a, rfl, ⟨vs, .of h1⟩, h3 ι1 H1 .refl r1 _ (it_lst h0)⟩
          · exact h3.elim
        | _ => exact h3.elim
/-! range -/
def rangeItems (lo : Int) (n : Nat) : List D := (List.range n).map fun (i : Nat) => D.int (lo + (i : Int))
def range1 : List D → Mem → Res (List D × (Mem → Prop))
  | [.int j], μ => if -4611686018427387904 ≤ j ∧ j < 4611686018427387904 then .ok (rangeItems 0 j.toNat, fun _ => True) μ else .stuck
  | _, _ => .stuck
def range2 : List D → Mem → Res (List D × (Mem → Prop))
  | [.int i, .int j], μ => if -4611686018427387904 ≤ i ∧ i < 4611686018427387904 ∧ -4611686018427387904 ≤ j ∧ j < 4611686018427387904 then .ok (rangeItems i (j - i).toNat, fun _ => True) μ else .stuck
  | _, _ => .stuck
@[simp] def iRange1 (a : ML) : MIt := fun ρ μ => (a ρ μ).bind fun xs μ1 => range1 xs μ1
@[simp] def iRange2 (a : ML) : MIt := fun ρ μ => (a ρ μ).bind fun xs μ1 => range2 xs μ1
theorem it_range {G : Gd} {ι : List Addr} {H : Hp} (lo : Int) (n : Nat) : ItOk G ι H (Itr lo n) (rangeItems lo n) (fun _ => True) := by
  have key : ∀ {i : Nat} {d : D}, (rangeItems lo n)[i]? = some d → i < n ∧ d = .int (lo + (i : Int)) := fun {i d} e => by
    unfold rangeItems at e
    rw [List.getElem?_map] at e
    obtain ⟨k, e1, rfl⟩ := Option.map_eq_some_iff.mp e
    obtain ⟨h1, h2⟩ := List.getElem?_eq_some_iff.mp e1
    simp at h1 h2
    subst h2
    exact ⟨h1, rfl⟩
  refine ⟨fun i d ι' H' μ' e g r _ => (key e).1, fun i d ι' H' μ' v H2 e g r _ ⟨e1, e2⟩ => ?_, fun ι' H' μ' g r _ => ?_⟩
  · subst e1; subst e2
    obtain ⟨_, rfl⟩ := key e
    exact ⟨.refl, r, rep_int _⟩
  · show n ≤ (rangeItems lo n).length
    unfold rangeItems; simp
theorem si_range1 {a : Expr} {ms : ML} (hg : Gl X "range") (hm : X.mg "range" = none) (ha : SA X W [a] ms) (hs : starEach [a] X.env = [(false, eval a X.env)] := by rfl) : SI X W tg (.Call (.Name "range" p) [a] [] pos) (iRange1 ms) :=
  PI.mono (pi_range1 hg hm ha hs) fun σ H R ⟨ρ, μ, ι, env, rel, h⟩ =>
    ⟨ρ, μ, ι, env, rel, (Post.bind h).imp fun ι1 H1 μ1 xs _ _ ⟨g1, r1, h1⟩ vs rvs => by
      unfold range1 at h1
      split at h1
      · split at h1
        · rename_i hc
          obtain ⟨v, rfl, rv⟩ := rvs.one
          exact ⟨_, by rw [rv.int], by omega, by omega, h1 ι1 H1 .refl r1 _ (it_range 0 _)⟩
        · exact h1.elim
      · exact h1.elim⟩
theorem si_range2 {a b : Expr} {ms : ML} (hg : Gl X "range") (hm : X.mg "range" = none) (ha : SA X W [a, b] ms) (hs : starEach [a, b] X.env = [(false, eval a X.env), (false, eval b X.env)] := by rfl) (hs2 : starEach [b] X.env = [(false, eval b X.env)] := by rfl) : SI X W tg (.Call (.Name "range" p) [a, b] [] pos) (iRange2 ms) :=
  PI.mono (pi_range2 hg hm ha hs hs2) fun σ H R ⟨ρ, μ, ι, env, rel, h⟩ =>
    ⟨ρ, μ, ι, env, rel, (Post.bind h).imp fun ι1 H1 μ1 xs _ _ ⟨g1, r1, h1⟩ vs rvs => by
      unfold range2 at h1
      split at h1
      · split at h1
        · rename_i hc
          obtain ⟨v, w, rfl, rv, rw'⟩ := rvs.two
          exact ⟨_, _, by rw [rv.int, rw'.int], by omega, h1 ι1 H1 .refl r1 _ (it_range _ _)⟩
        · exact h1.elim
      · exact h1.elim⟩
end

/-! ### loops -/
section
variable {X : Cx} {W : WX} {tg iter c : Expr} {body : List Stmt} {pos : Pos} {mi : MIt} {g : MG} {m : MS} {mc : MB}
theorem ss_for (hp : PassesOwn (model X.prog X.w) X.A X.env X.xe) (hc : X.calm = true) (hi : SI X W tg iter mi) (hg : SG X W tg g) (hb : SSs X W body m)
    (hs : ∀ x, foldedSetIterable iter X.env x = pure x := by intro _; rfl) : SS X W (.For tg iter body [] pos) (sFor mi g m) :=
  PS.mono (ps_for hp hc hi hg hb hs) fun D σ H ⟨ρ, μ, ι, env, rel, h⟩ => by
    refine ⟨ρ, μ, ι, env, rel, (PostS.onE h env ⟨μ, rel⟩).imp fun ι1 H1 μ1 p _ _ ⟨g1, r1, env1, h1⟩ J ok => ?_⟩
    obtain ⟨items, chk⟩ := p
    refine ⟨fun i n σ' H' => n + i = items.length ∧ ∃ ρ' μ' ι', Grow ι1 H1 ι' H' ∧ EnvOk (gOf X) ι' H' ρ' σ' ∧ Rel (gOf X) ι' H' μ' ∧ PostS (gOf X) ι' H' (forL chk g m (items.drop i) ρ' μ') (FlK (gOf X) W D),
      ⟨items.length, rfl, ρ, μ1, ι1, .refl, env1, r1, h1⟩, ?_⟩
    rintro i n σ' H' ⟨hn, ρ', μ', ι', gr, env', rel', h'⟩
    by_cases hi : i < items.length
    · have e : items.drop i = items[i] :: items.drop (i + 1) := List.drop_eq_getElem_cons hi
      have ei : items[i]? = some items[i] := List.getElem?_eq_getElem hi
      rw [e] at h'
      simp only [forL] at h'
      split at h'
      · rename_i hk
        refine .inr ⟨ok.go i _ ι' H' μ' ei gr rel' hk, fun σ2 H2 => ∃ ρ2 μ2 ι2, Grow ι1 H1 ι2 H2 ∧ EnvOk (gOf X) ι2 H2 ρ2 σ2 ∧ Rel (gOf X) ι2 H2 μ2 ∧ PostS (gOf X) ι2 H2 (forL chk g m (items.drop (i + 1)) ρ2 μ2) (FlK (gOf X) W D),
          fun σ2 H2 ⟨ρ2, μ2, ι2, q⟩ => ⟨n - 1, by omega, by omega, ρ2, μ2, ι2, q⟩, fun x H2 y => ?_⟩
        obtain ⟨g2, r2, rx⟩ := ok.yld i _ ι' H' μ' x H2 ei gr rel' hk y
        have env2 := env'.ext (g2.ext rel')
        refine ⟨_, ρ', μ', ι', rx, env2, r2, (PostS.pureE (PostS.grow h' g2)).imp fun ι3 H3 μ3 ρ3 _ _ ⟨g3, r3, h3⟩ σ3 env3 => ?_⟩
        refine ⟨ρ3, μ3, ι3, env3, r3, (PostS.bind h3).imp fun ι4 H4 μ4 f _ _ ⟨g4, r4, h4⟩ => ?_⟩
        have gr4 := ((gr.trans g2).trans g3).trans g4
        cases f with
        | nx ρ4 => exact fun σ4 env4 => ⟨ρ4, μ4, ι4, gr4, env4, r4, h4⟩
        | cnt ρ4 => exact fun σ4 env4 => ⟨ρ4, μ4, ι4, gr4, env4, r4, h4⟩
        | brk ρ4 => exact h4 ι4 H4 .refl r4
        | ret d => exact h4 ι4 H4 .refl r4
        | exc c fs ρ4 => exact h4 ι4 H4 .refl r4
      · exact h'.elim
    · have e : items.drop i = [] := List.drop_eq_nil_of_le (by omega)
      rw [e] at h'
      simp only [forL] at h'
      split at h'
      · rename_i hk
        have ei : i = items.length := by omega
        subst ei
        exact .inl ⟨ok.stop ι' H' μ' gr rel' hk, h' ι' H' .refl rel' σ' env'⟩
      · exact h'.elim
theorem ss_while (n : Nat) (hp : PassesOwn (model X.prog X.w) X.A X.env X.xe) (hc : ST X W c mc) (hb : SSs X W body m) : SS X W (.While c body [] pos) (whileL mc m n) :=
  PS.mono (ps_while hp hc hb) fun D σ H ⟨ρ, μ, ι, env, rel, h⟩ => by
    refine ⟨fun k σ' H' => ∃ ρ' μ' ι', EnvOk (gOf X) ι' H' ρ' σ' ∧ Rel (gOf X) ι' H' μ' ∧ PostS (gOf X) ι' H' (whileL mc m k ρ' μ') (FlK (gOf X) W D), ⟨n, ρ, μ, ι, env, rel, h⟩, ?_⟩
    rintro k σ' H' ⟨ρ', μ', ι', env', rel', h'⟩
    cases k with
    | zero => exact h'.elim
    | succ k =>
      simp only [whileL] at h'
      refine ⟨ρ', μ', ι', env', rel', (PostS.onE h' env' ⟨μ', rel'⟩).imp fun ι1 H1 μ1 b _ _ ⟨g1, r1, env1, h1⟩ => ?_⟩
      cases b with
      | false => exact iteF (h1 ι1 H1 .refl r1 σ' env1)
      | true =>
        refine iteT ⟨fun σ2 H2 => ∃ ρ2 μ2 ι2, EnvOk (gOf X) ι2 H2 ρ2 σ2 ∧ Rel (gOf X) ι2 H2 μ2 ∧ PostS (gOf X) ι2 H2 (whileL mc m k ρ2 μ2) (FlK (gOf X) W D), fun σ2 H2 q => ⟨k, Nat.lt_succ_self k, q⟩, ?_⟩
        refine ⟨ρ', μ1, ι1, env1, r1, (PostS.bind h1).imp fun ι4 H4 μ4 f _ _ ⟨g4, r4, h4⟩ => ?_⟩
        cases f with
        | nx ρ4 => exact fun σ4 env4 => ⟨ρ4, μ4, ι4, env4, r4, h4⟩
        | cnt ρ4 => exact fun σ4 env4 => ⟨ρ4, μ4, ι4, env4, r4, h4⟩
        | brk ρ4 => exact h4 ι4 H4 .refl r4
        | ret d => exact h4 ι4 H4 .refl r4
        | exc c fs ρ4 => exact h4 ι4 H4 .refl r4
end
end RW

/-! SEg: comprehensions, own defs, classes. -/
namespace RW
open PySem L2
/-! ### list comprehensions -/
def tGv (G : Gd) (W : WX) (vs : List Nat) (g : MG) : TG := fun v σ H Q => ∃ d ρ μ ι, Rep G ι H d v ∧ EnvOk G ι H ρ σ ∧ Rel G ι H μ ∧ Post G ι H W σ (g d ρ μ) fun ι' H' _ ρ' => ∀ σ', EnvOk G ι' H' ρ' σ' → wipe σ' vs = wipe σ vs → Q σ' H'
def tGsv (G : Gd) (W : WX) (is : List Nat) (g : MGs) : TGs := fun vs σ H Q => ∃ ds ρ μ ι, Reps G ι H ds vs ∧ EnvOk G ι H ρ σ ∧ Rel G ι H μ ∧ Post G ι H W σ (g ds ρ μ) fun ι' H' _ ρ' => ∀ σ', EnvOk G ι' H' ρ' σ' → wipe σ' is = wipe σ is → Q σ' H'
abbrev SGv (X : Cx) (W : WX) (vs : List Nat) (e : Expr) (g : MG) : Prop := PG X e (tGv (gOf X) W vs g)
abbrev SGsv (X : Cx) (W : WX) (vs : List Nat) (e : List Expr) (g : MGs) : Prop := PGs X e (tGsv (gOf X) W vs g)
theorem wipe_set {σ : St} {j : Nat} {o : Option V} : ∀ {vs : List Nat}, j ∈ vs → wipe (σ.set j o) vs = wipe σ vs
  | v :: vs, h => by
    unfold wipe
    by_cases hm : j ∈ vs
    · rw [wipe_set hm]
    · have e : j = v := by
        rcases List.mem_cons.mp h with e | e
        · exact e
        · exact absurd e hm
      subst e
      have : wipe (σ.set j o) vs = (wipe σ vs).set j o := by
        clear h
        induction vs with
        | nil => rfl
        | cons w ws ih =>
          simp only [List.mem_cons, not_or] at hm
          unfold wipe
          rw [ih hm.2, List.set_comm _ _ (Ne.symm hm.1)]
      rw [this, List.set_set]
section
variable {X : Cx} {W : WX} {vs : List Nat} {pos : Pos} {e : Expr} {es : List Expr}
theorem sgv_name {j : Nat} {x : Str} (hN : X.N.Nodup) (hi : X.N[j]? = some x) (hx : Loc X.env.scope x) (hj : j ∈ vs) (hf : X.fn x = true ∨ X.env.scope.names.lookup x = some .local := by first | exact .inl rfl | exact .inr rfl | assumption) : SGv X W vs (.Name x pos) (gN j) :=
  PG.mono (pg_name hN hi hx hf) fun v σ H Q ⟨d, ρ, μ, ι, rv, env, rel, h⟩ => h ι H .refl rel _ (env.set j rv) (wipe_set hj)
theorem sgsv_nil : SGsv X W vs [] gNilM := PGs.mono pgs_nil fun vs σ H Q ⟨ds, ρ, μ, ι, rv, env, rel, h⟩ => by
  cases ds with
  | nil => exact ⟨rv.nil_inv, h ι H .refl rel σ env rfl⟩
  | cons _ _ => exact h.elim
theorem sgsv_cons {g : MG} {gs : MGs} (h1 : SGv X W vs e g) (h2 : SGsv X W vs es gs) (hs : (assignEach (e :: es) X.env).map (·.2) = assign e X.env :: (assignEach es X.env).map (·.2) := by rfl) : SGsv X W vs (e :: es) (gConsM g gs) :=
  PGs.mono (pgs_cons h1 h2 hs) fun vs σ H Q ⟨ds, ρ, μ, ι, rv, env, rel, h⟩ => by
    cases ds with
    | nil => exact h.elim
    | cons d l =>
      obtain ⟨v, r, rfl, h3, h4⟩ := rv.cons_inv
      refine ⟨v, r, rfl, d, ρ, μ, ι, h3, env, rel, (Post.pureE W σ h).imp fun ι1 H1 μ1 ρ1 _ _ ⟨g1, r1, h1⟩ σ1 env1 w1 => ?_⟩
      exact ⟨l, ρ1, μ1, ι1, h4.ext (g1.ext rel), env1, r1, (Post.pureE W σ1 h1).imp fun ι2 H2 μ2 ρ2 _ _ ⟨g2, r2, h2⟩ σ2 env2 w2 => h2 ι2 H2 .refl r2 σ2 env2 (w2.trans w1)⟩
theorem sgv_tup {k n : Nat} {gs : MGs} (hc : X.calm = true) (h : SGsv X W vs es gs) (hn : (assignEach es X.env).length = n := by rfl) (hst : (assignEach es X.env).findIdx? (·.1) = none := by rfl) : SGv X W vs (.Tuple es k pos) (gTupM n gs) :=
  PG.mono (PG.or (pg_tup hc h hn hst) (pg_lst hc h hn hst)) fun v σ H Q ⟨d, ρ, μ, ι, rv, env, rel, h⟩ => by
    cases d with
    | tup l =>
      simp only [gTupM] at h
      split at h
      · rename_i hl
        obtain ⟨a, vs, rfl, h1, h2⟩ := rv.tup
        exact .inl ⟨a, vs, rfl, h1, h2.length.trans hl, l, ρ, μ, ι, h2, env, rel, h⟩
      · exact h.elim
    | ref m =>
      simp only [gTupM] at h
      split at h
      · rename_i l em
        split at h
        · rename_i hl
          obtain ⟨a, vs, rfl, h0, h1, h2⟩ := rel.lst em rv
          exact .inr ⟨a, vs, rfl, .of h1, h2.length.trans hl, l, ρ, μ, ι, h2, env, rel, h⟩
        · exact h.elim
      · exact h.elim
    | _ => exact h.elim
end
theorem wipe_at {σ : St} {i : Nat} : ∀ {vs : List Nat}, (L2.wipe σ vs)[i]? = if i ∈ vs then (σ[i]?).map (fun _ => none) else σ[i]?
  | [] => by simp [L2.wipe]
  | v :: vs => by
    unfold L2.wipe
    by_cases h : v = i
    · subst h
      rw [List.getElem?_set_self']
      have e : ((L2.wipe σ vs)[v]?).isSome = (σ[v]?).isSome := by
        rw [wipe_at]; split <;> simp
      simp only [List.mem_cons, true_or, if_true]
      cases h1 : (L2.wipe σ vs)[v]? <;> cases h2 : σ[v]? <;> simp_all
    · rw [List.getElem?_set_ne h, wipe_at]
      have : (i ∈ v :: vs) ↔ i ∈ vs := by simp [Ne.symm h]
      simp only [this]
theorem wipe_idem {σ : St} {vs : List Nat} : L2.wipe (L2.wipe σ vs) vs = L2.wipe σ vs := by
  refine List.ext_getElem? fun i => ?_
  rw [wipe_at, wipe_at]
  split
  · cases σ[i]? <;> rfl
  · rfl
def wipeR (ρ : Rho) : List Nat → Rho
  | [] => ρ
  | v :: vs => (wipeR ρ vs).set v none
open Classical in
noncomputable def compL (chk : Mem → Prop) (g : MG) (tt : MB) (te : MD) (ρ0 : Rho) : List D → List D → Mem → Res (List D)
  | [], acc, μ => if chk μ then .ok acc μ else .stuck
  | d :: ds, acc, μ => if chk μ then pureE (g d ρ0 μ) fun ρ1 μ1 => pureE (tt ρ1 μ1) fun b μ2 => if b = true then
      (pureE (te ρ1 μ2) fun y μ3 => if acc.length < sizeLine then compL chk g tt te ρ0 ds (acc ++ [y]) μ3 else .stuck) else compL chk g tt te ρ0 ds acc μ2 else .stuck
@[simp] noncomputable def mComp (it : MIt) (g : MG) (tt : MB) (te : MD) (own : List Nat) : MD := fun ρ μ => (it ρ μ).bind fun p μ1 => (compL p.2 g tt te (wipeR ρ own) p.1 [] μ1).bind fun l μ2 => .ok (.ref μ2.length) (μ2 ++ [.lst l])
@[simp] def mYes : MB := fun _ μ => .ok true μ
abbrev W0 : WX := fun _ _ _ _ => False
theorem EnvOk.wipe {G : Gd} {ι : List Addr} {H : Hp} {ρ : Rho} {σ : St} (e : EnvOk G ι H ρ σ) : ∀ vs, EnvOk G ι H (wipeR ρ vs) (L2.wipe σ vs)
  | [] => e
  | v :: vs => by
    have ih := EnvOk.wipe e vs
    unfold wipeR L2.wipe
    refine ⟨by simp [ih.len], fun i d h => ?_⟩
    by_cases hi : v = i
    · subst hi
      by_cases hl : v < (wipeR ρ vs).length
      · rw [List.getElem?_set_self hl] at h; cases h
      · rw [List.getElem?_eq_none (by simpa using hl)] at h; cases h
    · rw [List.getElem?_set_ne hi] at h ⊢
      exact ih.at_ i d h
theorem Post.step {G : Gd} {ι ι' : List Addr} {H H' : Hp} {W W' : WX} {σ σ' : St} {α β : Type} {r : Res α} {k : α → Mem → Res β} {kk : List Addr → Hp → Mem → β → Prop} (h : Post G ι H W σ (RW.pureE r k) kk) :
    Post G ι' H' W' σ' r fun ι2 H2 μ2 a => Grow ι' H' ι2 H2 ∧ Rel G ι2 H2 μ2 ∧ Post G ι H W σ (k a μ2) kk := by
  cases r with
  | ok a m => exact fun ι2 H2 g r => ⟨g, r, h⟩
  | exc c fs m => exact h.elim
  | stuck => exact h.elim
section
variable {X : Cx} {W : WX}
theorem lc_red {wi : TI} {g : MG} {tt : MB} {te : MD} {mi : MIt} {vs : List Nat} (hwi : ∀ σ H R, tI (gOf X) W mi σ H R → wi σ H R) {σ : St} {H : Hp} {Q : VK}
    (h : tE (gOf X) W (mComp mi g tt te vs) σ H Q) : tLc wi (tGv (gOf X) W0 vs g) (tB (gOf X) W0 tt) (tE (gOf X) W0 te) vs σ H Q := by
  obtain ⟨ρ, μ, ι, env, rel, h⟩ := h
  refine hwi _ _ _ ⟨ρ, μ, ι, env, rel, (Post.bind h).imp fun ι1 H1 μ1 p _ _ ⟨g1, r1, h1⟩ J ok => ?_⟩
  obtain ⟨items, chk⟩ := p
  intro dd hD
  obtain ⟨gD, rD⟩ := grow_laid (o := .lst []) r1 hD
  have env1 := env.ext (g1.ext rel)
  -- what is wanted at the end, from the place where the walk begins
  refine ⟨fun i m H' => m + i = items.length ∧ ∃ μ' ι' acc ws, Grow ι1 H1 ι' H' ∧ Rel (gOf X) ι' H' μ' ∧ H' dd = some (.lst ws) ∧ dd ∉ ι' ∧ Reps (gOf X) ι' H' acc ws ∧
    Post (gOf X) ι1 H1 W σ ((compL chk g tt te (wipeR ρ vs) (items.drop i) acc μ').bind fun l μ2 => .ok (RW.D.ref μ2.length) (μ2 ++ [Cell.lst l])) fun ι' H' _ d => ∀ v, Rep (gOf X) ι' H' d v → Q v H',
    ⟨items.length, rfl, μ1, ι1, [], [], gD, rD, upd_same, r1.notNone hD, .nil, h1⟩, ?_⟩
  rintro i m H' ⟨hm, μ', ι', acc, ws, grB, rel', hHD, hDn, ra, h'⟩
  by_cases hi : i < items.length
  · have e : items.drop i = items[i] :: items.drop (i + 1) := List.drop_eq_getElem_cons hi
    have ei : items[i]? = some items[i] := List.getElem?_eq_getElem hi
    rw [e] at h'
    simp only [compL] at h'
    split at h'
    · rename_i hk
      refine .inr ⟨ok.go i _ ι' H' μ' ei grB rel' hk, fun H2 => ∃ μ2 ι2 acc ws, Grow ι1 H1 ι2 H2 ∧ Rel (gOf X) ι2 H2 μ2 ∧ H2 dd = some (.lst ws) ∧ dd ∉ ι2 ∧ Reps (gOf X) ι2 H2 acc ws ∧
        Post (gOf X) ι1 H1 W σ ((compL chk g tt te (wipeR ρ vs) (items.drop (i + 1)) acc μ2).bind fun l μ2 => .ok (RW.D.ref μ2.length) (μ2 ++ [Cell.lst l])) fun ι' H' _ d => ∀ v, Rep (gOf X) ι' H' d v → Q v H',
        fun H2 q => ⟨m - 1, by omega, by omega, q⟩, fun x H2 y => ?_⟩
      obtain ⟨g2, r2, rx⟩ := ok.yld i _ ι' H' μ' x H2 ei grB rel' hk y
      have env2 : EnvOk (gOf X) ι' H2 (wipeR ρ vs) (L2.wipe σ vs) := ((env1.ext (grB.ext r1)).ext (g2.ext rel')).wipe vs
      -- the list in hand stands through steps
      have stand : ∀ {ιa ιb : List Addr} {Ha Hb : Hp} {ws : List V}, Grow ιa Ha ιb Hb → Ha dd = some (.lst ws) → dd ∉ ιa → Hb dd = some (.lst ws) ∧ dd ∉ ιb := fun {ιa ιb Ha Hb ws} gg e n =>
        ⟨gg.keep _ _ e n, fun z => (gg.new dd z).elim n fun z => by rw [e] at z; cases z⟩
      have h'' : Post (gOf X) ι1 H1 W σ (RW.pureE (g items[i] (wipeR ρ vs) μ') fun ρ1 μ1 => ((RW.pureE (tt ρ1 μ1) fun b μ2 => if b = true then
          (RW.pureE (te ρ1 μ2) fun y μ3 => if acc.length < sizeLine then compL chk g tt te (wipeR ρ vs) (items.drop (i + 1)) (acc ++ [y]) μ3 else .stuck) else compL chk g tt te (wipeR ρ vs) (items.drop (i + 1)) acc μ2).bind fun l μ2 => .ok (RW.D.ref μ2.length) (μ2 ++ [Cell.lst l])))
          fun ι' H' _ d => ∀ v, Rep (gOf X) ι' H' d v → Q v H' := by
        cases hg : g items[i] (wipeR ρ vs) μ' with
        | ok a m => rw [hg] at h'; exact h'
        | exc c fs m => rw [hg] at h'; exact h'.elim
        | stuck => rw [hg] at h'; exact h'.elim
      refine ⟨_, wipeR ρ vs, μ', ι', rx, env2, r2, (Post.step (ι' := ι') (H' := H2) (W' := W0) (σ' := L2.wipe σ vs) h'').imp fun ι3 H3 μ3 ρ3 _ _ ⟨g3, r3, h3⟩ σ3 env3 w3 => ⟨w3.trans wipe_idem, ?_⟩⟩
      have h3' : Post (gOf X) ι1 H1 W σ (RW.pureE (tt ρ3 μ3) fun b μ2 => ((if b = true then
          (RW.pureE (te ρ3 μ2) fun y μ3 => if acc.length < sizeLine then compL chk g tt te (wipeR ρ vs) (items.drop (i + 1)) (acc ++ [y]) μ3 else .stuck) else compL chk g tt te (wipeR ρ vs) (items.drop (i + 1)) acc μ2 : Res (List RW.D)).bind fun l μ2 => .ok (RW.D.ref μ2.length) (μ2 ++ [Cell.lst l])))
          fun ι' H' _ d => ∀ v, Rep (gOf X) ι' H' d v → Q v H' := by
        cases hg : tt ρ3 μ3 with
        | ok a m => rw [hg] at h3; exact h3
        | exc c fs m => rw [hg] at h3; exact h3.elim
        | stuck => rw [hg] at h3; exact h3.elim
      refine ⟨ρ3, μ3, ι3, env3, r3, (Post.step (ι' := ι3) (H' := H3) (W' := W0) (σ' := σ3) h3').imp fun ι4 H4 μ4 b _ _ ⟨g4, r4, h4⟩ => ?_⟩
      have gA := ((grB.trans g2).trans g3).trans g4
      obtain ⟨d2, n2⟩ := stand g2 hHD hDn
      obtain ⟨d3, n3⟩ := stand g3 d2 n2
      obtain ⟨d4, n4⟩ := stand g4 d3 n3
      have ra4 := ((ra.ext (g2.ext rel')).ext (g3.ext r2)).ext (g4.ext r3)
      cases b with
      | false => exact iteF ⟨μ4, ι4, acc, ws, gA, r4, d4, n4, ra4, h4⟩
      | true =>
        refine iteT ?_
        have h4' : Post (gOf X) ι1 H1 W σ (RW.pureE (te ρ3 μ4) fun y μ3 => ((if acc.length < sizeLine then compL chk g tt te (wipeR ρ vs) (items.drop (i + 1)) (acc ++ [y]) μ3 else .stuck : Res (List RW.D)).bind fun l μ2 => .ok (RW.D.ref μ2.length) (μ2 ++ [Cell.lst l])))
            fun ι' H' _ d => ∀ v, Rep (gOf X) ι' H' d v → Q v H' := by
          cases hg : te ρ3 μ4 with
          | ok a m => rw [hg] at h4; exact h4
          | exc c fs m => rw [hg] at h4; exact h4.elim
          | stuck => rw [hg] at h4; exact h4.elim
        refine ⟨ρ3, μ4, ι4, env3.ext (g4.ext r3), r4, (Post.step (ι' := ι4) (H' := H4) (W' := W0) (σ' := σ3) h4').imp fun ι5 H5 μ5 y' _ _ ⟨g5, r5, h5⟩ v rv => ?_⟩
        obtain ⟨d5, n5⟩ := stand g5 d4 n4
        split at h5
        · rename_i hsz
          have ra5 := ra4.ext (g5.ext r4)
          refine ⟨ws, d5, by rw [ra5.length]; exact hsz, μ5, ι5, acc ++ [y'], ws ++ [v], ?_⟩
          have ex : Ext ι5 H5 ι5 (upd H5 dd (.lst (ws ++ [v]))) := ⟨List.prefix_refl _, fun a xs z => by rw [upd_ne (fun q => by rw [q, d5] at z; cases z)]; exact z, fun a o u z _ => by rw [upd_ne (fun q => by rw [q, d5] at z; cases z)]; exact z⟩
          have r6 : Rel (gOf X) ι5 (upd H5 dd (.lst (ws ++ [v]))) μ5 := ⟨r5.len, r5.nd, fun j c a e1 e2 => (r5.cell j c a e1 e2).ext ex (upd_ne fun q => n5 (q ▸ List.mem_of_getElem? e2))⟩
          have gA5 := gA.trans g5
          refine ⟨⟨gA5.pre, fun a o z na => ?_, gA5.new, fun a o u z => by rw [upd_ne (fun q => by rw [q, hD] at z; cases z)]; exact gA5.lock a o u z⟩, r6, upd_same, n5, (ra5.append (.cons rv .nil)).ext ex, h5⟩
          rw [upd_ne (fun q => by rw [q, hD] at z; cases z)]; exact gA5.keep a o z na
        · exact h5.elim
    · exact h'.elim
  · have e : items.drop i = [] := List.drop_eq_nil_of_le (by omega)
    rw [e] at h'
    simp only [compL] at h'
    split at h'
    · rename_i hk
      have ei : i = items.length := by omega
      subst ei
      refine .inl ⟨ok.stop ι' H' μ' grB rel' hk, ?_⟩
      have rA := grow_adopt (c := .lst acc) rel' hDn ⟨ws, hHD, ra.ext ⟨List.prefix_append _ _, fun _ _ z => z, fun _ _ _ z _ => z⟩⟩
      refine h' (ι' ++ [dd]) H' ⟨grB.pre.trans (List.prefix_append _ _), grB.keep, fun a ha => ?_, grB.lock⟩ rA (.ref dd) (rep_new (r := rel'))
      rcases List.mem_append.mp ha with z | z
      · exact grB.new a z
      · simp at z; subst z; exact .inr hD
    · exact h'.elim
end
end RW

/-! SEgr: room in which no repr is under way, and what stands on it: defs, calls, classes, the law's head. -/
namespace RW
open PySem PySem.Spec L2
open PyProof.Rows hiding St

structure RoomG (k : Nat) (A : Around) : Prop extends Room k A where
  gd : A.guards = some []
theorem RoomG.le {j k : Nat} {A : Around} (r : RoomG k A) (h : j ≤ k) : RoomG j A := ⟨r.toRoom.mono h, r.gd⟩
theorem RoomG.down {k : Nat} {A : Around} (r : RoomG (k + 1) A) (n : Env) : RoomG k (A.deeper n) := ⟨r.toRoom.deeper n, r.gd⟩
theorem RoomG.born {k : Nat} {A : Around} (r : RoomG (k + 1) A) (C : Addr) (xs : List Value) : RoomG k (A.under (.builtin "type.__call__" ⟨.ref C :: xs, []⟩)) :=
  ⟨r.toRoom.make C xs [], by
    have h := r.gd
    show pushGuards (Code.builtin "type.__call__" ⟨.ref C :: xs, []⟩).guards A.guards = some []
    rw [h]; rfl⟩

/-- what a def promises where no repr is under way -/
structure FnG (P : Program) (w : World) (K : PySem.W.Frag) (mg : Str → Option Value) (base : Heap) (Z : CXT) (k : Nat) (g : Addr) (d : FuncData) (ns : List Str) (pr : Sp) : Prop where
  many : ∀ xs M R T, pr xs M R T → xs.length = ns.length
  goes : ∀ (A : Around) (fr : List Env) (c : Shared) (M : Hp) (al : Args) (ws : List Value) (xs : List V) (R : VK) (T : XK), RoomG k A → Env0 P w K mg base A fr c M → BindsTo c d al (ns.zip ws) → Vals xs ws → pr xs M R T →
    codeAny (model P w) A (.call (.ref g) al) (CR Z fr P w M c R T) c
section
variable {P : Program} {w : World} {K : PySem.W.Frag} {mg : Str → Option Value} {base : Heap} {Z : CXT} {j k : Nat} {g : Addr} {d : FuncData} {ns : List Str} {pr pr' : Sp}
theorem FnG.le (F : FnG P w K mg base Z j g d ns pr) (h : j ≤ k) : FnG P w K mg base Z k g d ns pr := ⟨F.many, fun A fr c M al ws xs R T r => F.goes A fr c M al ws xs R T (r.le h)⟩
theorem FnG.less (F : FnG P w K mg base Z k g d ns pr) (h : ∀ xs M R T, pr' xs M R T → pr xs M R T) : FnG P w K mg base Z k g d ns pr' :=
  ⟨fun xs M R T q => F.many xs M R T (h xs M R T q), fun A fr c M al ws xs R T r e b v q => F.goes A fr c M al ws xs R T r e b v (h xs M R T q)⟩
/-- the def by its body -/
theorem fnG_of {nm qu : Str} {pa : Arguments} {bo : List Stmt} {sco : Scope} {v1 v2 v3 v4 v5 v6 v7 : Value} {u1 u2 : Option Addr} {sl : Array (Option Value)} {L : List Str}
    (h1 : K.lookup g = some ⟨v7, u2, .func (PySem.W.fnOf nm qu pa bo sco v1 v2 v3 v4 u1 v5 v6), sl⟩) (h2 : PySem.W.codeIn K v5 qu = true) (S : FnScope L ns sco) (hn : ∀ xs M R T, pr xs M R T → xs.length = ns.length)
    (hb : ∀ (A : Around) (fr : List Env) (c : Shared) (M : Hp) (xs : List V) (R : VK) (T : XK), RoomG k (A.deeper (envOfC qu sco c.heap.objs.size g v5)) → pr xs M R T →
      ∃ t, PSs (cxOf Z P w K mg base L qu sco g v5 A fr c M T) bo t ∧ t { nx := fun _ N => R .non N, rt := R } (start L xs) M) :
    FnG P w K mg base Z (k + 1) g (PySem.W.fnOf nm qu pa bo sco v1 v2 v3 v4 u1 v5 v6) ns pr := by
  constructor
  · exact hn
  · intro A fr c M al ws xs R T r e b v q
    have kin : K.In c.heap := e.mod.kin.keeps fun i o z => (e.bs i o z).1
    have nol : c.heap.NoLimit := e.mod.nolimit.keeps fun i o z => (e.bs i o z).1
    have where_ : ∀ z ∈ ns.zip ws, sco.names.lookup z.1 = some .local ∨ (sco.names.lookup z.1 = some .cell ∧ ((cellsFrom (c.heap.objs.size + 1) sco.names []).lookup z.1).isSome = true) := by
      rintro ⟨n, x⟩ hz
      exact (S.par n (List.of_mem_zip hz).1).imp id fun q => ⟨q, PySem.W.cellsFrom_some _ _ _ (.inl q)⟩
    apply codeAny_call_function r.toRoom.depth (kin _ _ h1) rfl S.co S.gen rfl (PySem.W.codeRec_of kin h2)
    apply b
    apply wpAny_newFunctionEnv_cells S.kind where_
    rintro env rfl c1 x
    refine ⟨nol.keeps x.toInCall.keep, codeAny_func ?_⟩
    obtain ⟨t, ht, tq⟩ := hb A fr c M xs R T (r.down _) q
    have J0 := inv_start (CX := Z) (E := T) S r.toRoom.hd e (hn _ _ _ _ q) v x
    apply wpAny_mono (ht.run [] c1 (start L xs) M _ J0 tq) _ fun _ _ z => z
    rintro (_ | _ | _ | u) c2 hs
    · obtain ⟨τ, N, J, z⟩ := hs
      exact ⟨.non, N, J.os, J.bare, J.base, J.hok, rfl, z⟩
    · exact hs.elim fun _ z => z.elim fun _ z => z.2.elim
    · exact hs.elim fun _ z => z.elim fun _ z => z.2.elim
    · obtain ⟨x, τ, N, J, rx, z⟩ := hs
      exact ⟨x, N, J.os, J.bare, J.base, J.hok, rx, z⟩
theorem okG {x qual : Str} {st : Stmt} {L : List Str} (F : L2.Fun K x qual st g d) (S : FnScope L ns (defScope st)) (hn : ∀ xs M R T, pr xs M R T → xs.length = ns.length)
    (hb : ∀ (cd : Value) (A : Around) (fr : List Env) (c : Shared) (M : Hp) (xs : List V) (R : VK) (T : XK), RoomG k (A.deeper (envOfC qual (defScope st) c.heap.objs.size g cd)) → pr xs M R T →
      ∃ t, PSs (cxOf Z P w K mg base L qual (defScope st) g cd A fr c M T) (defBody st) t ∧ t { nx := fun _ N => R .non N, rt := R } (start L xs) M) : FnG P w K mg base Z (k + 1) g d ns pr := by
  obtain ⟨_, _, _, _, _, _, cd, _, _, rfl, h1, h2⟩ := F.ex
  exact fnG_of h1 h2 S hn fun A fr c M xs R T => hb cd A fr c M xs R T
end
section
variable {X : Cx} {Z : CXT} {k : Nat} {f C g : Addr} {d : FuncData} {ns : List Str} {pr : Sp} {x : Str} {p pos : Pos} {e : Expr} {es : List Expr} {t : TA}
/-- how a call ends -/
theorem end_of {pins : List (Addr × Obj)} {τ : St} {M : Hp} {c c' : Shared} {R : VK} {T : XK} {r : Result} (I : Inv X pins τ M c) (hx : ∀ v, Z X.stack M c T v c' → X.xe v c') (h : CR Z X.stack X.prog X.w M c R T r c') :
    match (motive := Result → Prop) r with
    | .ok (.ret u) => EP X pins τ R u c'
    | .ok _ => False
    | .error v => X.xe v c' := by
  rcases r with v | fl
  · exact hx v h
  · cases fl <;> first | exact h.elim | exact I.after h
theorem goG {pins : List (Addr × Obj)} {τ : St} {M : Hp} {c : Shared} {R : VK} {ws : List Value} {xs : List V} {T : St → XK} (F : FnG X.prog X.w X.K X.mg X.base Z k f d ns pr) (hr : RoomG k X.A) (hb : Binds X.K d ns []) (hx : PassesAt Z X τ (T τ)) (I : Inv X pins τ M c)
    (v : Vals xs ws) (h : pr xs M R (T τ)) : wpAny (model X.prog X.w) X.A (call (.ref f) ws) (EP X pins τ R) X.xe c := by
  have b := hb c ws I.kIn (by simp [← v.length, F.many _ _ _ _ h])
  simp only [List.append_nil] at b
  apply wpAny_call
  apply codeAny_mono (F.goes X.A X.stack c M ⟨ws, []⟩ ws xs R (T τ) hr I.env0 b v h)
  intro r c' q
  have z := end_of I (fun v q => hx pins M c v c' I q) q
  rcases r with _ | fl
  · exact z
  · cases fl <;> first | exact z | exact z.elim
theorem callG {T : St → XK} (F : FnG X.prog X.w X.K X.mg X.base Z k f d ns pr) (hr : RoomG k X.A) (hg : Gl X x) (hm : X.mg x = some (.ref f)) (hk : PySem.W.keepIn X.K (.ref f) = true) (hb : Binds X.K d ns []) (hx : ∀ τ, PassesAt Z X τ (T τ)) (ha : PA X (e :: es) t)
    (hdb : (x == ("__debug__" : Str)) = false) (he : starEach (e :: es) X.env = (false, eval e X.env) :: starEach es X.env) (hpl : (backTo pos (starEach es X.env)).any (·.1) = false) : PE X (.Call (.Name x p) (e :: es) [] pos) (tCallS pr T t) := by
  constructor
  intro pins c τ M R I h
  apply wpAny_Call_Name_kw (ld_glob I hg hm _ hdb)
  apply PySem.W.callWith_K (h₀ := X.base) I.ok.mod.kin hk _ he hpl
  apply thn (ha.run pos pins c τ M _ I h)
  rintro ws c1 ⟨xs, M1, I1, v, q⟩
  exact ⟨I1.kIn, goG F hr hb (hx τ) I1 v q⟩
theorem bornG {pins : List (Addr × Obj)} {τ : St} {M : Hp} {c : Shared} {R : VK} {ws : List Value} {xs : List V} {T : XK} (B : Mk X.K C g) (F : FnG X.prog X.w X.K X.mg X.base Z k g d ns pr) (hr : RoomG (k + 1) X.A) (hb : Binds X.K d ns []) (hx : Passes Z X T) (I : Inv X pins τ M c) (v : Vals xs ws)
    (h : ∀ y dy, M y = none → M dy = none → dy ≠ y → pr (.ref y :: xs) (upd (upd M dy (.own y)) y (.ins C dy [])) (fun u N => u = .non ∧ R (.ref y) N) T) :
    wpAny (model X.prog X.w) X.A (call (.ref C) ws) (EP X pins τ R) X.xe c := by
  have I2 := Inv.made (C := C) I
  have above : ∀ n, c.heap.objs.size ≤ n → M n = none := fun n => I.hok.fresh
  have q := h _ _ (above _ (Nat.le_succ _)) (above _ (Nat.le_refl _)) (Nat.ne_of_lt (Nat.lt_succ_self _))
  have v2 : Vals (V.ref (c.heap.objs.size + 1) :: xs) (Value.ref (c.heap.objs.size + 1) :: ws) := .cons rfl v
  have b := hb _ (Value.ref (c.heap.objs.size + 1) :: ws) I2.kIn (by rw [List.append_nil, ← v2.length]; exact F.many _ _ _ _ q)
  rw [List.append_nil] at b
  have go := F.goes _ X.stack _ _ ⟨Value.ref (c.heap.objs.size + 1) :: ws, []⟩ (Value.ref (c.heap.objs.size + 1) :: ws) _ _ T (hr.born C ws) (I2.env0.make C ws []) b v2 q
  apply wpAny_call
  apply make_map (f := g) I.kIn B.makes B.init (beq_iff_eq.mp B.fn)
  apply codeAny_mono go
  intro r c' q'
  have z := end_of I2 (fun u q => hx pins τ _ _ u c' I2 q) q'
  rcases r with _ | fl
  · exact z
  · cases fl <;> first | exact z.elim | skip
    obtain ⟨u, N, I3, ru, rfl, q3⟩ := z
    exact ⟨ru, V.ref (c.heap.objs.size + 1), N, I3, rfl, q3⟩
theorem makeG {T : XK} (B : Mk X.K C g) (F : FnG X.prog X.w X.K X.mg X.base Z k g d ns pr) (hr : RoomG (k + 1) X.A) (hg : Gl X x) (hm : X.mg x = some (.ref C)) (hb : Binds X.K d ns []) (hx : Passes Z X T) (ha : PA X (e :: es) t) (hdb : (x == ("__debug__" : Str)) = false)
    (he : starEach (e :: es) X.env = (false, eval e X.env) :: starEach es X.env) (hpl : (backTo pos (starEach es X.env)).any (·.1) = false) : PE X (.Call (.Name x p) (e :: es) [] pos) (tMake C pr [] T t) := by
  constructor
  intro pins c τ M R I h
  apply wpAny_Call_Name_kw (ld_glob I hg hm _ hdb)
  apply PySem.W.callWith_K (h₀ := X.base) I.ok.mod.kin B.kp _ he hpl
  apply thn (ha.run pos pins c τ M _ I h)
  rintro ws c1 ⟨xs, M1, I1, v, q⟩
  refine ⟨I1.kIn, bornG B F hr hb hx I1 v fun y dy h1 h2 h3 => ?_⟩
  have q := q y dy h1 h2 h3
  rw [List.append_nil] at q
  exact q
end
end RW

/-! SEgt: the head of a law that stands on guarded room. -/
namespace RW
open PySem PySem.Spec L2
open PyProof.Rows hiding St
section
variable {P : Program} {w : World} {K : PySem.W.Frag} {mg mb : Str → Option Value} {Z : CXT} {k : Nat} {g a : Addr} {d : FuncData} {x : Str} {pr : Sp} {c : Shared} {ws : List Value} {ns : List Int}
abbrev told (c : Shared) (r : Result) (c' : Shared) : Prop := r = .ok (.ret (.bool true)) ∧ OldK c.heap c'.heap ∧ c'.os = c.os ∧ AllBare c'.gens
/-- the call at a heap of which at most the script is known -/
theorem head_at (kin : K.In c.heap) (hns : c.heap.Ns mainGlobals mg) (hb : c.heap.Ns builtinsNs mb) (hbb : ∀ x : Str, x ≠ "__name__" → mb x = bootBuiltins x) (nol : c.heap.NoLimit) (hg : c.gens = #[])
    (hr : RoomG k callerA) (F : ∀ base : Heap, K.In base → base.Ns mainGlobals mg → FnG P w K mg base Z k g d [x] pr) (bi : ∀ (c : Shared) (u : Value), BindsTo c d ⟨[u], []⟩ [(x, u)])
    (hZ : ∀ M v c', Z [] M c (fun _ _ _ => False) v c' → False) (M : Hp) (hO : Only M) (lists : ∀ b o, c.heap.get? b = some o → M b ≠ none → K.lookup b = none ∧ ∀ es n, o.data ≠ .dict es n)
    (hok : HOk P w M c.heap) (hp : pr [.ref a] M (fun v _ => v = .bl true) fun _ _ _ => False) : codeAny (model P w) callerA (.call (.ref g) ⟨[.ref a], []⟩) (told c) c := by
  have plain : ∀ {b : Addr} {m : Str → Option Value}, c.heap.Ns b m → (hidT c.heap M).Ns b m := by
    rintro b m ⟨o, es, n, h1, h2, h3⟩
    have free : M b = none := Classical.byContradiction fun z => (lists b o h1 z).2 es n h2
    exact ⟨o, es, n, hidT_get h1 free, h2, h3⟩
  have kb : K.In (hidT c.heap M) := fun b o h => hidT_get (kin b o h) (Classical.byContradiction fun z => by
    have := (lists b o (kin b o h) z).1
    rw [h] at this
    cases this)
  obtain ⟨ml, n1, n2⟩ := nol
  have md : Mod K mg (hidT c.heap M) := ⟨kb, plain hns, ⟨mb, plain hb, hbb⟩, ⟨ml, plain n1, n2⟩⟩
  have en : Env0 P w K mg (hidT c.heap M) callerA [] c M :=
    ⟨rfl, md, fun _ _ z => of_hidT z, Nat.le_of_eq (hidT_size _ _), trivial, fun _ z => absurd (show _ ∈ ([] : List Addr) from z) List.not_mem_nil, hok, .of_eq hg⟩
  apply codeAny_mono ((F _ kb (plain hns)).goes callerA [] c M ⟨[.ref a], []⟩ [.ref a] [.ref a] _ _ hr en (bi c (.ref a)) (.cons rfl .nil) hp)
  rintro (v | fl) c' q
  · exact (hZ M v c' q).elim
  cases fl <;> first | exact q.elim | skip
  obtain ⟨v, N, e1, e2, un, ok2, rv, rfl⟩ := q
  cases (show _ = Value.bool true from rv)
  refine ⟨rfl, OldK.of_keep fun b o h => ?_, e1, e2⟩
  rcases hO b with z | ⟨ob, ys, z⟩
  · exact un.keep b o h z (fun y => absurd (show b ∈ ([] : List Addr) from y) List.not_mem_nil) List.not_mem_nil
  · have t1 := (hok b _ z).1
    rw [h] at t1
    cases t1
    exact (ok2 b _ (un.frzs b _ _ z)).1
theorem headG (kin : K.In c.heap) (hns : c.heap.Ns mainGlobals mg) (hb : c.heap.Ns builtinsNs mb) (hbb : ∀ x : Str, x ≠ "__name__" → mb x = bootBuiltins x) (nol : c.heap.NoLimit) (hg : c.gens = #[])
    (ha : c.heap.get? a = some { cls := .type "list", data := .seq ws.toArray }) (hi : IntsAre ws ns) (hl : ns.length ≤ sizeLine) (hr : RoomG k callerA)
    (F : ∀ base : Heap, K.In base → base.Ns mainGlobals mg → FnG P w K mg base Z k g d [x] pr) (bi : ∀ (c : Shared) (u : Value), BindsTo c d ⟨[u], []⟩ [(x, u)])
    (hp : ∀ M : Hp, Only M → SqL K M a (ns.map V.int) → pr [.ref a] M (fun v _ => v = .bl true) fun _ _ _ => False) (hZ : ∀ M v c', Z [] M c (fun _ _ _ => False) v c' → False) :
    codeAny (model P w) callerA (.call (.ref g) ⟨[.ref a], []⟩) (told c) c := by
  have vals := vals_ints hi
  by_cases hk : K.lookup a = none
  · let M : Hp := fun b => if b = a then some (.frz { cls := .type "list", data := .seq ws.toArray } (.lst (ns.map V.int))) else none
    have at_ : ∀ {b u}, M b = some u → b = a ∧ u = .frz { cls := .type "list", data := .seq ws.toArray } (.lst (ns.map V.int)) := by
      intro b u h
      simp only [M] at h
      split at h
      · exact ⟨‹_›, (Option.some.inj h).symm⟩
      · cases h
    have hO : Only M := fun b => by
      cases h : M b with
      | none => exact .inl rfl
      | some u => exact .inr ⟨_, _, congrArg some (at_ h).2⟩
    refine head_at kin hns hb hbb nol hg hr F bi hZ M hO (fun b o h z => ?_) (fun b u h => ?_) (hp M hO (.inl (.inr ⟨{ cls := .type "list", data := .seq ws.toArray }, if_pos rfl⟩)))
    · obtain ⟨u, hu⟩ := Option.ne_none_iff_exists'.mp z
      obtain ⟨rfl, -⟩ := at_ hu
      rw [ha] at h
      cases h
      exact ⟨hk, fun _ _ z => by cases z⟩
    · obtain ⟨rfl, rfl⟩ := at_ h
      exact ⟨ha, by simpa using hl, ws, _, vals, ha⟩
  · obtain ⟨o, hk⟩ := Option.ne_none_iff_exists'.mp hk
    have h := kin a o hk
    rw [ha] at h
    cases h
    have hO : Only (fun _ => none) := fun _ => .inl rfl
    exact head_at kin hns hb hbb nol hg hr F bi hZ _ hO (fun _ _ _ z => absurd rfl z) (fun _ _ z => by cases z) (hp _ hO (.inr ⟨_, ws.toArray, _, hk, rfl, rfl, rfl, by rw [List.size_toArray, hi.length]; exact hl, by simpa using vals⟩))
end
theorem walkG {l : PySem.W.OpenLaw} {n k : Nat} {q : Program} {lo : List Str} {XP : (Str → Option Value) → Heap → Prop} {YP : World → Heap → Prop} {d : DefRec} {K : Params → PySem.W.Frag} {Z : World → CXT} {pr : World → Sp} {x : Str}
    (hn : l.most = some n) (hs : n ≤ sizeLine) (hdf : d.params.defaults = []) (hr : RoomG k callerA) (hY : ∀ (w : World) (h : Heap), YP w h → (K w.params).In h)
    (F : ∀ (w : World) (mg : Str → Option Value) (g : Addr) (h : Heap), (K w.params).In h → h.Ns mainGlobals mg → mg d.name = some (.ref g) → ∃ f : FuncData, (∀ (c : Shared) (u : Value), BindsTo c f ⟨[u], []⟩ [(x, u)]) ∧
      ∀ base : Heap, (K w.params).In base → base.Ns mainGlobals mg → FnG l.prog w (K w.params) mg base (Z w) k g f [x] (pr w))
    (hp : ∀ (w : World) (M : Hp) (a : Addr) (ns : List Int), ns.length ≤ n → Only M → SqL (K w.params) M a (ns.map V.int) → pr w [.ref a] M (fun v _ => v = .bl true) fun _ _ _ => False)
    (hZ : ∀ (w : World) (M : Hp) (c : Shared) (v : Value) (c' : Shared), Z w [] M c (fun _ _ _ => False) v c' → False) : PySem.W.WalkO q lo XP YP l.row.toRowW d [] (fun f vs => PySem.call f vs) := by
  apply Att.attach_call hn hdf
  intro w s₀ s₁ mg mb fa o pm cd doc a vs ns G Y ho hd hcd hmg hobj hints hlen hg
  obtain ⟨f, bi, hF⟩ := F w mg fa _ (hY w _ Y) G.T.g hmg
  exact headG (hY w _ Y) G.T.g G.T.b G.T.builtins G.T.nolimit hg hobj hints (Nat.le_trans hlen hs) hr hF bi (fun M h1 h2 => hp w M a ns hlen h1 h2) fun M v c' => hZ w M s₁ v c'
end RW

/-! SEh: comprehensions as rules, own defs, classes, methods of lists. -/
namespace RW
open PySem L2
open PyProof.Rows (envOfC)
section
variable {X : Cx} {W : WX}
theorem sts_nil : PTs X [] (tB (gOf X) W mYes) := ⟨fun pins s σ H Q I ⟨ρ, μ, ι, env, rel, h⟩ => pts_nil.run pins s σ H Q I (h ι H .refl rel)⟩
theorem sts_one {c : Expr} {m : MB} (h : ST X W c m) : PTs X [c] (tB (gOf X) W m) := pts_one h
theorem se_lc {elt tg iter : Expr} {ifs : List Expr} {scope : Scope} {own : List (Str × Nat)} {pos : Pos} {mi : MIt} {g : MG} {tt : MB} {te : MD} (hc : X.calm = true) (hN : X.N.Nodup) (hi : SI X W tg iter mi) (ok : BlkOk X.N X.env.scope scope own)
    (hg : ∀ (s : Shared) (H : Hp) (C : Addr) (cl : List (Str × Addr)) (fp : List Addr), SGv (X.blk s H scope (compEnvC scope cl C X.env) fp) W0 (own.map (·.2)) tg g)
    (ht : ∀ (s : Shared) (H : Hp) (C : Addr) (cl : List (Str × Addr)) (fp : List Addr), PTs (X.blk s H scope (compEnvC scope cl C X.env) fp) ifs (tB (gOf X) W0 tt))
    (he : ∀ (s : Shared) (H : Hp) (C : Addr) (cl : List (Str × Addr)) (fp : List Addr), SE (X.blk s H scope (compEnvC scope cl C X.env) fp) W0 elt te) (hs : ∀ x, foldedSetIterable iter X.env x = pure x := by intro _; rfl) :
    SE X W (.ListComp elt [⟨tg, iter, ifs, 0⟩] scope pos) (mComp mi g tt te (own.map (·.2))) :=
  PE.mono (pe_lc hc hN hi ok hg ht he hs) fun σ H Q h => lc_red (fun _ _ _ z => z) h
theorem ss_setLc {i : Nat} {y : Str} {py : Pos} {elt tg iter : Expr} {ifs : List Expr} {scope : Scope} {own : List (Str × Nat)} {pos spos : Pos} {mi : MIt} {g : MG} {tt : MB} {te : MD} (hc : X.calm = true) (hN : X.N.Nodup) (hy : X.N[i]? = some y) (hyl : X.env.scope.names.lookup y = some .local)
    (hsw : swapsWith (.ListComp elt [⟨tg, iter, ifs, 0⟩] scope pos) (some (.Name y py)) spos.line X.env = pure true) (hi : SI X W tg iter mi) (ok : BlkOk X.N X.env.scope scope own)
    (hg : ∀ (s : Shared) (H : Hp) (C : Addr) (cl : List (Str × Addr)) (fp : List Addr), SGv (X.blk s H scope (compEnvC scope cl C X.env) fp) W0 (own.map (·.2)) tg g)
    (ht : ∀ (s : Shared) (H : Hp) (C : Addr) (cl : List (Str × Addr)) (fp : List Addr), PTs (X.blk s H scope (compEnvC scope cl C X.env) fp) ifs (tB (gOf X) W0 tt))
    (he : ∀ (s : Shared) (H : Hp) (C : Addr) (cl : List (Str × Addr)) (fp : List Addr), SE (X.blk s H scope (compEnvC scope cl C X.env) fp) W0 elt te) (hs : ∀ x, foldedSetIterable iter X.env x = pure x := by intro _; rfl) :
    SS X W (.Assign [.Name y py] (.ListComp elt [⟨tg, iter, ifs, 0⟩] scope pos) spos) (sSet i (mComp mi g tt te (own.map (·.2)))) :=
  PS.mono (ps_setLc (g := tGv (gOf X) W0 (own.map fun x : Str × Nat => x.2) g) (te := tE (gOf X) W0 te) hc hN hy hyl hsw hi ok hg ht he hs) fun D σ H ⟨ρ, μ, ι, env, rel, h⟩ => by
    refine lc_red (W := W) (X := X) (mi := mi) (g := g) (tt := tt) (te := te) (fun _ _ _ z => z) ⟨ρ, μ, ι, env, rel, ?_⟩
    exact (PostS.onE h env ⟨μ, rel⟩).imp fun ι1 H1 μ1 d _ _ ⟨g1, r1, env1, h1⟩ v rv => h1 ι1 H1 .refl r1 _ (env1.set i rv)
end

/-! ### own defs -/
abbrev Sem := List D → Mem → Res D
def spM (G : Gd) (n : Nat) (sem : Sem) : Sp := fun vs H Q E => ∃ ds μ ι, Reps G ι H ds vs ∧ ds.length = n ∧ Rel G ι H μ ∧ Post G ι H (fun cls dx _ H' => E cls dx H') [] (sem ds μ) fun ι' H' _ d => ∀ v, Rep G ι' H' d v → Q v H'
theorem Post.re {G : Gd} {ι : List Addr} {H : Hp} {W W' : WX} {σ σ' : St} {α : Type} {r : Res α} {k : List Addr → Hp → Mem → α → Prop} (h : Post G ι H W σ r k) (f : ∀ c d H, W c d σ H → W' c d σ' H) : Post G ι H W' σ' r k := by
  cases r with
  | ok a m => exact h
  | exc c fs m => exact fun ι' H' cls dx g r e => f _ _ _ (h ι' H' cls dx g r e)
  | stuck => exact h
def startR (n : Nat) (ds : List D) : Rho := ds.map some ++ List.replicate (n - ds.length) none
@[simp] def endB : Fl → Mem → Res D
  | .nx _, μ => .ok .non μ
  | .ret d, μ => .ok d μ
  | .exc c fs _, μ => .exc c fs μ
  | _, _ => .stuck
def runB (n : Nat) (m : MS) : Sem := fun ds μ => pureE (m (startR n ds) μ) endB
theorem env_start {G : Gd} {ι : List Addr} {H : Hp} {N : List Str} {ds : List D} {vs : List V} (h : Reps G ι H ds vs) : EnvOk G ι H (startR N.length ds) (L2.start N vs) := by
  unfold startR L2.start
  refine ⟨by simp [h.length], fun i d e => ?_⟩
  by_cases hi : i < ds.length
  · rw [List.getElem?_append_left (by simpa using hi), List.getElem?_map] at e
    obtain ⟨x, e1, e2⟩ := Option.map_eq_some_iff.mp e
    cases e2
    obtain ⟨v, e3, r⟩ := h.get e1
    refine ⟨v, ?_, r⟩
    rw [List.getElem?_append_left (by simpa [h.length] using hi), List.getElem?_map, e3]; rfl
  · rw [List.getElem?_append_right (by simpa using hi), List.getElem?_replicate] at e
    split at e <;> cases e
/-- what a caller has of a def -/
def Fn (G : Gd) (base : Heap) (x : Str) (k n : Nat) (sem : Sem) : Prop := ∃ (f : Addr) (fd : FuncData) (ps : List Str),
  G.mg x = some (.ref f) ∧ PySem.W.keepIn G.K (.ref f) = true ∧ Binds G.K fd ps [] ∧ FnG G.P G.w G.K G.mg base (L2.CX G.P G.w) k f fd ps (spM G n sem)
theorem spM_len {G : Gd} {n : Nat} {sem : Sem} {vs : List V} {H : Hp} {Q : VK} {E : XK} (h : spM G n sem vs H Q E) : vs.length = n := by
  obtain ⟨ds, μ, ι, h1, h2, _⟩ := h
  rw [h1.length, h2]
section
variable {P : Program} {w : World} {K : PySem.W.Frag} {mg : Str → Option Value} {base : Heap}
theorem fn_ok {x qual : Str} {st : Stmt} {f : Addr} {fd : FuncData} {N ps : List Str} {k : Nat} {m : MS} (F : L2.Fun K x qual st f fd) (S : FnScope N ps (defScope st))
    (hb : ∀ (cdv : Value) (A : Around) (outer : List Env) (s : Shared) (H : Hp) (E : XK), RoomG k (A.deeper (envOfC qual (defScope st) s.heap.objs.size f cdv)) →
      SSs (cxOf (L2.CX P w) P w K mg base N qual (defScope st) f cdv A outer s H E) (fun cls dx _ H' => E cls dx H') (defBody st) m) :
    FnG P w K mg base (L2.CX P w) (k + 1) f fd ps (spM ⟨P, w, K, mg⟩ ps.length (runB N.length m)) := by
  refine okG F S (fun vs H Q E h => spM_len h) fun cdv A outer s H vs Q E hr ⟨ds, μ, ι, h1, h2, h3, h4⟩ => ⟨_, hb cdv A outer s H E hr, ?_⟩
  refine ⟨startR N.length ds, μ, ι, env_start h1, h3, ?_⟩
  unfold runB at h4
  cases hm : m (startR N.length ds) μ with
  | stuck => rw [hm] at h4; exact h4.elim
  | exc c fs m' => rw [hm] at h4; exact h4.elim
  | ok fl μ' =>
    rw [hm] at h4
    intro ι' H' g r
    cases fl with
    | nx ρ' => exact fun σ' env' => h4 ι' H' g r _ rep_non
    | brk ρ' => exact h4.elim
    | cnt ρ' => exact h4.elim
    | ret d => exact fun v rv => h4 ι' H' g r v rv
    | exc c fs ρ' => exact fun σ' cls dx env' ex => h4 ι' H' cls dx g r ex
end
section
variable {X : Cx} {W : WX} {k n : Nat} {sem : Sem} {x : Str} {p pos : Pos} {e : Expr} {es : List Expr} {ms : ML}
theorem se_call {j : Nat} (F : Fn (gOf X) X.base x j n sem) (hr : RoomG k X.A) (hj : j ≤ k) (hg : Gl X x) (tk : Takes X W) (ha : SA X W (e :: es) ms) (hn : ∀ ρ μ ds μ', ms ρ μ = .ok ds μ' → ds.length = n)
    (hdb : (x == ("__debug__" : Str)) = false := by decide) (he : starEach (e :: es) X.env = (false, eval e X.env) :: starEach es X.env := by rfl) (hpl : (backTo pos (starEach es X.env)).any (·.1) = false := by rfl) :
    SE X W (.Call (.Name x p) (e :: es) [] pos) (mB sem ms) := by
  obtain ⟨f, fd, ps, hm, hk, hb, F⟩ := F
  refine PE.mono (callG F (hr.le hj) hg hm hk hb (T := WE W) (fun σ => passAt tk σ) ha hdb he hpl) fun σ H Q ⟨ρ, μ, ι, env, rel, h⟩ => ?_
  refine ⟨ρ, μ, ι, env, rel, ?_⟩
  have h := Post.bind h
  cases hm : ms ρ μ with
  | stuck => rw [hm] at h; exact h.elim
  | exc c fs m => rw [hm] at h; exact h
  | ok ds μ1 =>
    rw [hm] at h
    intro ι1 H1 g1 r1 vs rvs
    obtain ⟨_, _, h1⟩ := h ι1 H1 g1 r1
    exact ⟨ds, μ1, ι1, rvs, hn ρ μ ds μ1 hm, r1, h1.re fun c d H z => z⟩
end
theorem mCons_len {a : MD} {r : ML} {n : Nat} (h : ∀ ρ μ ds μ', r ρ μ = .ok ds μ' → ds.length = n) : ∀ ρ μ ds μ', mCons a r ρ μ = .ok ds μ' → ds.length = n + 1 := fun ρ μ ds μ' e => by
  simp only [mCons] at e
  cases h1 : a ρ μ with
  | ok x m =>
    rw [h1] at e
    simp only [Res.bind] at e
    cases h2 : r ρ m with
    | ok xs m2 =>
      rw [h2] at e
      simp only [Res.bind, Res.ok.injEq] at e
      rw [← e.1, List.length_cons, h _ _ _ _ h2]
    | exc c fs m2 => rw [h2] at e; cases e
    | stuck => rw [h2] at e; cases e
  | exc c fs m2 => rw [h1] at e; cases e
  | stuck => rw [h1] at e; cases e
theorem mNil_len : ∀ ρ μ ds μ', mNil ρ μ = .ok ds μ' → ds.length = 0 := fun ρ μ ds μ' e => by
  simp only [mNil, Res.ok.injEq] at e
  rw [← e.1]; rfl

/-! ### classes -/
def Cl (G : Gd) (c : Str) (C : Addr) : Prop := G.mg c = some (.ref C) ∧ Cls G.K C
def putD (f : Str) (v : D) : List (Str × D) → List (Str × D)
  | [] => [(f, v)]
  | (g, x) :: r => if g = f then (g, v) :: r else (g, x) :: putD f v r
def fldD (c f : Str) : D → Mem → Res D
  | .ref n, μ => (match μ[n]? with
    | some (.ins c' fs) => if c' = c then (match fs.lookup f with
      | some d => .ok d μ
      | none => .stuck) else .stuck
    | _ => .stuck)
  | _, _ => .stuck
def setFD (c f : Str) : D → D → Mem → Res Unit
  | .ref n, v, μ => (match μ[n]? with
    | some (.ins c' fs) => if c' = c ∧ fs.length < 1000 then .ok () (μ.set n (.ins c (putD f v fs))) else .stuck
    | _ => .stuck)
  | _, _, _ => .stuck
@[simp] def sFldM (c f : Str) (o v : MD) : MS := fun ρ μ => onE (v ρ μ) ρ fun y μ1 => onE (o ρ μ1) ρ fun x μ2 => pureE (setFD c f x y μ2) fun _ μ3 => .ok (.nx ρ) μ3
@[simp] def mMake (c : Str) (sem : Sem) (a : ML) : MD := fun ρ μ => (a ρ μ).bind fun ds μ1 => (sem (.ref μ1.length :: ds) (μ1 ++ [.ins c []])).bind fun d μ2 => match d with
  | .non => .ok (.ref μ1.length) μ2
  | _ => .stuck
section
variable {G : Gd} {ι : List Addr} {H : Hp}
theorem repF_lookup {f : Str} {d : D} : ∀ {fs : List (Str × D)} {gs : List (Str × V)}, Paired (RepF G ι H) fs gs → fs.lookup f = some d → ∃ v, gs.lookup f = some v ∧ Rep G ι H d v
  | _, _, .nil, e => by simp at e
  | (g, x) :: r, (g', y) :: r', .cons ⟨h1, h2⟩ t, e => by
    have h1 : g = g' := h1
    subst h1
    rw [List.lookup_cons] at e ⊢
    split at e
    · cases e; exact ⟨y, rfl, h2⟩
    · exact repF_lookup t e
theorem repF_put {f : Str} {d : D} {v : V} (h : Rep G ι H d v) : ∀ {fs : List (Str × D)} {gs : List (Str × V)}, Paired (RepF G ι H) fs gs → Paired (RepF G ι H) (putD f d fs) (putF f v gs)
  | _, _, .nil => .cons ⟨rfl, h⟩ .nil
  | (g, x) :: r, (g', y) :: r', .cons ⟨h1, h2⟩ t => by
    have h1 : g = g' := h1
    subst h1
    unfold putD putF
    split
    · exact .cons ⟨rfl, h⟩ t
    · exact .cons ⟨rfl, h2⟩ (repF_put h t)
theorem Rel.ins {μ : Mem} (r : Rel G ι H μ) {n : Nat} {c : Str} {fs : List (Str × D)} {v : V} (h : μ[n]? = some (.ins c fs)) (hv : Rep G ι H (.ref n) v) :
    ∃ a C dx gs, v = .ref a ∧ ι[n]? = some a ∧ G.mg c = some (.ref C) ∧ H a = some (.ins C dx gs) ∧ Paired (RepF G ι H) fs gs := by
  obtain ⟨a, h1, rfl⟩ := hv.ref
  obtain ⟨C, dx, gs, h2, h3, h4⟩ := r.cell n _ a h h1
  exact ⟨a, C, dx, gs, rfl, h1, h2, h3, h4⟩
end
section
variable {X : Cx} {W : WX} {e o value : Expr} {me mo mv : MD} {c f : Str} {pos pos' : Pos} {C : Addr}
theorem se_fld (hc : Cl (gOf X) c C) (hn : NoAttr X.K C f) (he : SE X W e me) (hb : attributeBase e f X.env (eval e X.env) = eval e X.env := by rfl) : SE X W (.Attribute e f pos) (mUn (fldD c f) me) :=
  PE.mono (pe_fld he hb) fun σ H Q ⟨ρ, μ, ι, env, rel, h⟩ =>
    ⟨ρ, μ, ι, env, rel, (Post.bind h).imp fun ι1 H1 μ1 x _ _ ⟨g1, r1, h1⟩ v rv => by
      cases x <;> first | exact h1.elim | skip
      simp only [fldD] at h1
      split at h1
      · rename_i c' fs em
        split at h1
        · rename_i hcc
          subst hcc
          split at h1
          · rename_i d el
            obtain ⟨a, C', dx, gs, rfl, q1, q2, q3, q4⟩ := r1.ins em rv
            obtain rfl : C' = C := by
              have := q2.symm.trans hc.1
              cases this; rfl
            obtain ⟨u, e1, ru⟩ := repF_lookup q4 el
            exact ⟨a, C', dx, gs, u, rfl, q3, hc.2, hn, e1, h1 ι1 H1 .refl r1 u ru⟩
          · exact h1.elim
        · exact h1.elim
      · exact h1.elim⟩
theorem ss_fld (hc : Cl (gOf X) c C) (hn : NoAttr X.K C f) (ha : SE X W o mo) (hv : SE X W value mv) (hs : swapsWith value (some (.Attribute o f pos')) pos.line X.env = pure false := by rfl) : SS X W (.Assign [.Attribute o f pos'] value pos) (sFldM c f mo mv) :=
  PS.mono (ps_fld ha hv hs) fun D σ H ⟨ρ, μ, ι, env, rel, h⟩ => by
    refine ⟨ρ, μ, ι, env, rel, (PostS.onE h env ⟨μ, rel⟩).imp fun ι1 H1 μ1 y _ _ ⟨g1, r1, env1, h1⟩ u ru => ?_⟩
    refine ⟨ρ, μ1, ι1, env1, r1, (PostS.onE h1 env1 ⟨μ1, r1⟩).imp fun ι2 H2 μ2 x _ _ ⟨g2, r2, env2, h2⟩ v rv => ?_⟩
    have h2 := PostS.pureE (W := W) (σ := σ) h2
    have ru := ru.ext (g2.ext r1)
    cases x <;> first | exact h2.elim | skip
    simp only [setFD] at h2
    split at h2
    · rename_i c' fs em
      split at h2
      · rename_i hcc
        obtain ⟨hcc, hl⟩ := hcc
        subst hcc
        obtain ⟨a, C', dx, gs, rfl, q1, q2, q3, q4⟩ := r2.ins em rv
        obtain rfl : C' = C := by
          have := q2.symm.trans hc.1
          cases this; rfl
        have hlen : fs.length = gs.length := Paired.length q4
        refine ⟨a, C', dx, gs, rfl, q3, hc.2, hn, by omega, ?_⟩
        obtain ⟨g3, r3⟩ := grow_set (o := .ins C' dx (putF f u gs)) (c := .ins c' (putD f y fs)) r2 q1 (fun _ _ e => by rw [q3] at e; cases e) fun ex => ⟨C', dx, _, q2, upd_same, Paired.imp' (repF_put ru q4) fun _ _ z => ⟨z.1, z.2.ext ex⟩⟩
        obtain ⟨_, _, h3⟩ := h2 ι2 _ g3 r3
        exact h3 ι2 _ .refl r3 σ (env2.ext (g3.ext r2))
      · exact h2.elim
    · exact h2.elim
/-- C(..) -/
theorem se_make {k j n : Nat} {sem : Sem} {x : Str} {f : Addr} {fd : FuncData} {ps : List Str} {p : Pos} {es : List Expr} {ms : ML} (M : Mk X.K C f) (F : FnG X.prog X.w X.K X.mg X.base (L2.CX X.prog X.w) j f fd ps (spM (gOf X) (n + 1) sem)) (hr : RoomG k X.A) (hj : j + 1 ≤ k) (hg : Gl X x) (hm : X.mg x = some (.ref C))
    (hb : Binds X.K fd ps []) (hns : ∀ ds μ, (∃ d m, sem ds μ = .ok d m) ∨ sem ds μ = .stuck) (ha : SA X W (e :: es) ms) (hn : ∀ ρ μ ds μ', ms ρ μ = .ok ds μ' → ds.length = n) (hdb : (x == ("__debug__" : Str)) = false := by decide) (he : starEach (e :: es) X.env = (false, eval e X.env) :: starEach es X.env := by rfl)
    (hpl : (backTo pos (starEach es X.env)).any (·.1) = false := by rfl) : SE X W (.Call (.Name x p) (e :: es) [] pos) (mMake x sem ms) :=
  PE.mono (makeG (T := E0) M F (hr.le hj) hg hm hb passL ha hdb he hpl) fun σ H Q ⟨ρ, μ, ι, env, rel, h⟩ => by
    refine ⟨ρ, μ, ι, env, rel, ?_⟩
    have h := Post.bind h
    cases hms : ms ρ μ with
    | stuck => rw [hms] at h; exact h.elim
    | exc c fs m => rw [hms] at h; exact h
    | ok ds μ1 =>
      rw [hms] at h
      intro ι1 H1 g1 r1 vs rvs x' dx hx hdx hne
      obtain ⟨_, _, h1⟩ := h ι1 H1 g1 r1
      obtain ⟨g2, r2⟩ := grow_laid (o := .own x') r1 hdx
      have hx2 : upd H1 dx (.own x') x' = none := by rw [upd_ne hne.symm]; exact hx
      obtain ⟨g3, r3⟩ := grow_cell (o := .ins C dx []) (c := .ins x []) r2 hx2 fun ex => ⟨C, dx, [], hm, upd_same, .nil⟩
      have g := g2.trans g3
      refine ⟨.ref μ1.length :: ds, μ1 ++ [.ins x []], ι1 ++ [x'], ?_, by rw [List.length_cons, hn ρ μ ds μ1 hms], r3, ?_⟩
      · rw [List.append_nil]
        exact .cons (rep_new (r := r1)) (rvs.ext (g.ext r1))
      · have h1 := Post.bind h1
        rcases hns (.ref μ1.length :: ds) (μ1 ++ [.ins x []]) with ⟨d, m, e⟩ | e
        · rw [e] at h1 ⊢
          intro ι4 H4 g4 r4 v rv
          obtain ⟨_, _, h5⟩ := h1 ι4 H4 (g.trans g4) r4
          cases d <;> first | exact h5.elim | skip
          refine ⟨rv.non, h5 ι4 H4 .refl r4 _ ?_⟩
          refine rep_ref (prefix_get g4.pre ?_)
          rw [← r1.len]; simp
        · rw [e] at h1; exact h1.elim
end

/-! ### methods of lists -/
def SndM (G : Gd) (r : V → List V → Hp → VK → Prop) (f : D → List D → Mem → Res D) : Prop := ∀ (ι : List Addr) (H : Hp) (μ : Mem) (x : D) (xs : List D) (v : V) (vs : List V) (W : WX) (σ : St) (Q : VK), Rel G ι H μ → Rep G ι H x v → Reps G ι H xs vs →
  Post G ι H W σ (f x xs μ) (fun ι' H' _ d => ∀ v, Rep G ι' H' d v → Q v H') → r v vs H Q
def SndTy (G : Gd) (T : String) (ty : D → Mem → Bool) : Prop := ∀ (ι : List Addr) (H : Hp) (μ : Mem) (x : D) (v : V), Rel G ι H μ → Rep G ι H x v → ty x μ = true → tyV G.K T v H
@[simp] def mMt (ty : D → Mem → Bool) (f : D → List D → Mem → Res D) (o : MD) (a : ML) : MD := fun ρ μ => (o ρ μ).bind fun x μ1 => if ty x μ1 = true then (a ρ μ1).bind fun xs μ2 => f x xs μ2 else .stuck
@[simp] def mMt0 (ty : D → Mem → Bool) (f : D → List D → Mem → Res D) (o : MD) : MD := fun ρ μ => (o ρ μ).bind fun x μ1 => if ty x μ1 = true then f x [] μ1 else .stuck
section
variable {X : Cx} {W : WX} {o e : Expr} {es : List Expr} {mo : MD} {ms : ML} {name : Str} {apos cpos : Pos} {T id : String} {r : V → List V → Hp → VK → Prop} {f : D → List D → Mem → Res D} {ty : D → Mem → Bool}
theorem se_mt0 (pa : PlainAttrs T) (slot : Slot T name id) (hty : typeOf (.builtin id) = pure (.type "method_descriptor")) (hm : MtR X id r) (hT : SndTy (gOf X) T ty) (hf : SndM (gOf X) r f) (ho : SE X W o mo)
    (hbase : attributeBase o name X.env (eval o X.env) = eval o X.env := by rfl) (hline : (apos.endLine == cpos.line) = true := by rfl) : SE X W (.Call (.Attribute o name apos) [] [] cpos) (mMt0 ty f mo) :=
  PE.mono (pe_bm0 pa slot hty hm ho hbase hline) fun σ H Q ⟨ρ, μ, ι, env, rel, h⟩ =>
    ⟨ρ, μ, ι, env, rel, (Post.bind h).imp fun ι1 H1 μ1 x _ _ ⟨g1, r1, h1⟩ v rv => by
      split at h1
      · rename_i ht
        exact ⟨hT _ _ _ _ _ r1 rv ht, hf _ _ _ _ _ _ _ _ _ _ r1 rv .nil h1⟩
      · exact h1.elim⟩
theorem se_mt (pa : PlainAttrs T) (slot : Slot T name id) (hty : typeOf (.builtin id) = pure (.type "method_descriptor")) (hm : MtR X id r) (hT : SndTy (gOf X) T ty) (hf : SndM (gOf X) r f) (ho : SE X W o mo) (ha : SA X W (e :: es) ms)
    (hbase : attributeBase o name X.env (eval o X.env) = eval o X.env := by rfl)
    (hfew : ((backTo cpos (starEach (e :: es) X.env)).all (fun x => !x.1) && (backToKw cpos (keywordEach [] X.env)).all (fun x => x.1.isSome)
      && decide ((e :: es).length + ([] : List Keyword).length + (if ([] : List Keyword).isEmpty then 0 else 1) < 30)) = true := by rfl)
    (hline : (apos.endLine == cpos.line) = true := by rfl) (hs : starEach (e :: es) X.env = (false, eval e X.env) :: starEach es X.env := by rfl) (hplain : (backTo cpos (starEach es X.env)).any (·.1) = false := by rfl) :
    SE X W (.Call (.Attribute o name apos) (e :: es) [] cpos) (mMt ty f mo ms) :=
  PE.mono (pe_bm pa slot hty hm ho ha hbase hfew hline hs hplain) fun σ H Q ⟨ρ, μ, ι, env, rel, h⟩ =>
    ⟨ρ, μ, ι, env, rel, (Post.bind h).imp fun ι1 H1 μ1 x _ _ ⟨g1, r1, h1⟩ v rv => by
      split at h1
      · rename_i ht
        refine ⟨hT _ _ _ _ _ r1 rv ht, ρ, μ1, ι1, env.ext (g1.ext rel), r1, (Post.bind h1).imp fun ι2 H2 μ2 xs _ _ ⟨g2, r2, h2⟩ vs rvs => ?_⟩
        exact hf _ _ _ _ _ _ _ _ _ _ r2 (rv.ext (g2.ext r1)) rvs h2
      · exact h1.elim⟩
end
def isLst : D → Mem → Bool
  | .ref n, μ => (match μ[n]? with
    | some (.lst _) => true
    | _ => false)
  | _, _ => false
theorem ty_list {G : Gd} : SndTy G "list" isLst := fun ι H μ x v r rx h => by
  cases x <;> first | (simp [isLst] at h; done) | skip
  simp only [isLst] at h
  split at h
  · rename_i l em
    obtain ⟨a, vs, rfl, h0, h1, h2⟩ := r.lst em rx
    exact .inl ⟨rfl, vs, .of h1⟩
  · cases h
def appendM : D → List D → Mem → Res D
  | .ref n, [y], μ => (match μ[n]? with
    | some (.lst l) => if l.length < sizeLine then .ok .non (μ.set n (.lst (l ++ [y]))) else .stuck
    | _ => .stuck)
  | _, _, _ => .stuck
def extendM : D → List D → Mem → Res D
  | .ref n, [.ref m], μ => (match μ[n]?, μ[m]? with
    | some (.lst l), some (.lst k) => if l.length + k.length ≤ sizeLine then .ok .non (μ.set n (.lst (l ++ k))) else .stuck
    | _, _ => .stuck)
  | _, _, _ => .stuck
def insertM : D → List D → Mem → Res D
  | .ref n, [.int i, y], μ => (match μ[n]? with
    | some (.lst l) => if l.length < sizeLine ∧ 0 ≤ i ∧ i < 2 ^ 63 then .ok .non (μ.set n (.lst (l.take i.toNat ++ [y] ++ l.drop i.toNat))) else .stuck
    | _ => .stuck)
  | _, _, _ => .stuck
def popM : D → List D → Mem → Res D
  | .ref n, [], μ => (match μ[n]? with
    | some (.lst l) => (match l.getLast? with
      | some y => .ok y (μ.set n (.lst l.dropLast))
      | none => .stuck)
    | _ => .stuck)
  | _, _, _ => .stuck
/-- the list at a is another one -/
theorem set_lst {G : Gd} {ι : List Addr} {H : Hp} {μ : Mem} {n : Nat} {a : Addr} {l : List D} {vs : List V} (r : Rel G ι H μ) (h0 : ι[n]? = some a) (hl : ∃ ws, H a = some (.lst ws)) (h : Reps G ι H l vs) : Grow ι H ι (upd H a (.lst vs)) ∧ Rel G ι (upd H a (.lst vs)) (μ.set n (.lst l)) :=
  grow_set (o := .lst vs) (c := .lst l) r h0 (fun _ _ e => by obtain ⟨_, q⟩ := hl; rw [q] at e; cases e) fun e => ⟨vs, upd_same, h.ext e⟩
theorem snd_append {G : Gd} : SndM G rAppend appendM := fun ι H μ x xs v vs W σ Q r rx rxs h => by
  unfold appendM at h
  split at h
  · split at h
    · rename_i l em
      split at h
      · rename_i hl
        obtain ⟨a, ws, rfl, h0, h1, h2⟩ := r.lst em rx
        obtain ⟨u, rfl, ru⟩ := rxs.one
        obtain ⟨g2, r2⟩ := set_lst r h0 ⟨_, h1⟩ (h2.append (.cons ru .nil))
        exact ⟨a, ws, u, rfl, rfl, h1, by rw [h2.length]; exact hl, h ι _ g2 r2 _ rep_non⟩
      · exact h.elim
    · exact h.elim
  · exact h.elim
theorem snd_extend {G : Gd} : SndM G rExtend extendM := fun ι H μ x xs v vs W σ Q r rx rxs h => by
  unfold extendM at h
  split at h
  · split at h
    · rename_i l k em ek
      split at h
      · rename_i hl
        obtain ⟨a, ws, rfl, h0, h1, h2⟩ := r.lst em rx
        obtain ⟨u, rfl, ru⟩ := rxs.one
        obtain ⟨b, zs, rfl, h3, h4, h5⟩ := r.lst ek ru
        obtain ⟨g2, r2⟩ := set_lst r h0 ⟨_, h1⟩ (h2.append h5)
        exact ⟨a, b, ws, zs, rfl, rfl, h1, h4, by rw [h2.length, h5.length]; exact hl, h ι _ g2 r2 _ rep_non⟩
      · exact h.elim
    · exact h.elim
  · exact h.elim
theorem snd_insert {G : Gd} : SndM G (fun x vs H Q => ∃ (l : Addr) (xs : List V) (i : Int) (y : V), x = .ref l ∧ vs = [.int i, y] ∧ H l = some (.lst xs) ∧ xs.length < sizeLine ∧ 0 ≤ i ∧ i < 2 ^ 63 ∧
    Q .non (upd H l (.lst (xs.take i.toNat ++ [y] ++ xs.drop i.toNat)))) insertM := fun ι H μ x xs v vs W σ Q r rx rxs h => by
  unfold insertM at h
  split at h
  · split at h
    · rename_i l em
      split at h
      · rename_i hl
        obtain ⟨a, ws, rfl, h0, h1, h2⟩ := r.lst em rx
        obtain ⟨u, u2, rfl, ru, ru2⟩ := rxs.two
        obtain ⟨g2, r2⟩ := set_lst r h0 ⟨_, h1⟩ (((h2.take _).append (.cons ru2 .nil)).append (h2.drop _))
        exact ⟨a, ws, _, u2, rfl, by rw [ru.int], h1, by rw [h2.length]; exact hl.1, hl.2.1, hl.2.2, h ι _ g2 r2 _ rep_non⟩
      · exact h.elim
    · exact h.elim
  · exact h.elim
theorem snd_pop {G : Gd} : SndM G rPop popM := fun ι H μ x xs v vs W σ Q r rx rxs h => by
  unfold popM at h
  split at h
  · split at h
    · rename_i l em
      split at h
      · rename_i y ey
        obtain ⟨a, ws, rfl, h0, h1, h2⟩ := r.lst em rx
        obtain ⟨u, e1, ru⟩ := h2.get (i := l.length - 1) (by rw [← List.getLast?_eq_getElem?]; exact ey)
        have h3 : Reps G ι H l.dropLast ws.dropLast := by
          rw [List.dropLast_eq_take, List.dropLast_eq_take, h2.length]; exact h2.take _
        obtain ⟨g2, r2⟩ := set_lst r h0 ⟨_, h1⟩ h3
        exact ⟨a, ws, u, rfl, rxs.nil_inv, h1, by rw [h2.length]; exact e1, h ι _ g2 r2 _ (ru.ext (g2.ext r))⟩
      · exact h.elim
    · exact h.elim
  · exact h.elim
end RW

/-! SEi: dicts. -/
namespace RW
open PySem L2
/-! ### by keys -/
def dGet : List (D × D) → D → Option D
  | [], _ => none
  | (a, d) :: r, k => if a.nk? = k.nk? then some d else dGet r k
def dHas (l : List (D × D)) (k : D) : Bool := (dGet l k).isSome
def dRep (k v : D) : List (D × D) → List (D × D)
  | [] => []
  | (a, d) :: r => (if a.nk? = k.nk? then (a, v) else (a, d)) :: dRep k v r
def dPut (l : List (D × D)) (k v : D) : List (D × D) := if dHas l k = true then dRep k v l else l ++ [(k, v)]
/-- a key that a plain dict may have, one that a dict of tuples may -/
def isK (k : D) : Bool := k.key?.isSome
def isT : D → Bool
  | .tup l => match D.nk? (.tup l) with
    | some n => decide (n.depth ≤ 8)
    | none => false
  | _ => false
def Key.nk : Key → NestedKey
  | .inl i => .num i
  | .inr s => .text s
theorem Key.nk_inj {a b : Key} : Key.nk a = Key.nk b ↔ a = b := by
  cases a <;> cases b <;> simp [Key.nk]
theorem key_nk {d : D} {k : Key} (h : d.key? = some k) : d.nk? = some (Key.nk k) := by
  cases d <;> simp [D.key?] at h <;> subst h <;> simp [D.nk?, Key.nk]
section
variable {G : Gd} {ι ι' : List Addr} {H H' : Hp}
theorem key_rep {d : D} {k : Key} {v : V} (h : d.key? = some k) (r : Rep G ι H d v) : v = kV k := by
  cases d <;> simp [D.key?] at h <;> subst h
  · exact r.int
  · exact r.str
theorem dGet_K {k : D} {kk : Key} (hk : k.key? = some kk) : ∀ {l : List (D × D)} {kvs : List (Key × V)}, Paired (RepP G ι H) l kvs →
    (dGet l k = none ∧ valV kvs kk = none) ∨ ∃ d v, dGet l k = some d ∧ valV kvs kk = some v ∧ Rep G ι H d v
  | _, _, .nil => .inl ⟨rfl, rfl⟩
  | (a, d) :: r, (q, v) :: r', .cons ⟨h1, h2⟩ t => by
    have e1 : a.nk? = some (Key.nk q) := key_nk h1
    have e2 := key_nk hk
    by_cases hq : q = kk
    · exact .inr ⟨d, v, by simp [dGet, e1, e2, hq], valV_pos hq, h2⟩
    · have hne : ¬ (a.nk? = k.nk?) := by rw [e1, e2]; simp [Key.nk_inj, hq]
      rcases dGet_K hk t with ⟨x, y⟩ | ⟨d', v', x, y, z⟩
      · exact .inl ⟨by simp [dGet, hne, x], by rw [valV_neg hq]; exact y⟩
      · exact .inr ⟨d', v', by simp [dGet, hne, x], by rw [valV_neg hq]; exact y, z⟩
theorem dRep_K {k x : D} {kk : Key} {u : V} (hk : k.key? = some kk) (rx : Rep G ι H x u) : ∀ {l : List (D × D)} {kvs : List (Key × V)}, Paired (RepP G ι H) l kvs →
    Paired (RepP G ι H) (dRep k x l) (kvs.map fun kv => if kv.1 = kk then (kv.1, u) else kv)
  | _, _, .nil => .nil
  | (a, d) :: r, (q, v) :: r', .cons ⟨h1, h2⟩ t => by
    have e1 : a.nk? = some (Key.nk q) := key_nk h1
    have e2 := key_nk hk
    have ih := dRep_K hk rx t
    unfold dRep
    rw [List.map_cons]
    by_cases hq : q = kk
    · have he : a.nk? = k.nk? := by rw [e1, e2, hq]
      rw [if_pos he]
      have : (if (q, v).1 = kk then ((q, v).1, u) else (q, v)) = (q, u) := if_pos hq
      rw [this]
      exact .cons ⟨h1, rx⟩ ih
    · have hne : ¬ (a.nk? = k.nk?) := by rw [e1, e2]; simp [Key.nk_inj, hq]
      rw [if_neg hne]
      have : (if (q, v).1 = kk then ((q, v).1, u) else (q, v)) = (q, v) := if_neg hq
      rw [this]
      exact .cons ⟨h1, h2⟩ ih
theorem Paired.snoc {α β : Type} {F : α → β → Prop} : ∀ {l : List α} {l' : List β} {a : α} {b : β}, Paired F l l' → F a b → Paired F (l ++ [a]) (l' ++ [b])
  | _, _, _, _, .nil, h => .cons h .nil
  | _, _, _, _, .cons r t, h => .cons r (Paired.snoc t h)
theorem dPut_K {k x : D} {kk : Key} {u : V} (hk : k.key? = some kk) (rx : Rep G ι H x u) {l : List (D × D)} {kvs : List (Key × V)} (p : Paired (RepP G ι H) l kvs) : Paired (RepP G ι H) (dPut l k x) (putK kvs kk u) := by
  unfold dPut putK
  rw [valV_any kk kvs]
  unfold dHas
  rcases dGet_K hk p with ⟨e1, e2⟩ | ⟨d, v, e1, e2, _⟩
  · rw [e1, e2]; exact Paired.snoc p ⟨hk, rx⟩
  · rw [e1, e2]; exact dRep_K hk rx p
/-! nested keys -/
theorem dGet_T {k : D} {kk : NestedKey} (hk : k.nk? = some kk) : ∀ {l : List (D × D)} {xs : List (NestedKey × Addr × Value)}, Paired (RepT G ι H) l xs →
    (dGet l k = none ∧ atKey xs kk = none) ∨ ∃ d p v, dGet l k = some d ∧ atKey xs kk = some p ∧ Rep G ι H d v ∧ RelV v p.2
  | _, _, .nil => .inl ⟨rfl, rfl⟩
  | (a, d) :: r, (q, b, w) :: r', .cons ⟨h1, h2, h3, v, h4, h5⟩ t => by
    by_cases hq : q = kk
    · exact .inr ⟨d, (b, w), v, by simp [dGet, show a.nk? = some q from h1, hk, hq], by simp [atKey, hq], h4, h5⟩
    · have hne : ¬ (a.nk? = k.nk?) := by rw [show a.nk? = some q from h1, hk]; simp [hq]
      rcases dGet_T hk t with ⟨x, y⟩ | ⟨d', p, v', x, y, z⟩
      · refine .inl ⟨by simp [dGet, hne, x], ?_⟩
        unfold atKey at y ⊢
        rw [List.find?_cons_of_neg (by simpa using hq)]; exact y
      · refine .inr ⟨d', p, v', by simp [dGet, hne, x], ?_, z⟩
        unfold atKey at y ⊢
        rw [List.find?_cons_of_neg (by simpa using hq)]; exact y
theorem dRep_T {k x : D} {kk : NestedKey} {u : V} {w : Value} (hk : k.nk? = some kk) (rx : Rep G ι H x u) (rw' : RelV u w) : ∀ {l : List (D × D)} {xs : List (NestedKey × Addr × Value)}, Paired (RepT G ι H) l xs →
    Paired (RepT G ι H) (dRep k x l) (xs.map (putAt kk w))
  | _, _, .nil => .nil
  | (a, d) :: r, (q, b, z) :: r', .cons ⟨h1, h2, h3, v, h4, h5⟩ t => by
    have ih := dRep_T hk rx rw' t
    unfold dRep
    rw [List.map_cons]
    unfold putAt
    by_cases hq : q = kk
    · rw [if_pos (show a.nk? = k.nk? by rw [show a.nk? = some q from h1, hk, hq]), if_pos (show (q, b, z).1 = kk from hq)]
      exact .cons ⟨h1, h2, h3, u, rx, rw'⟩ ih
    · rw [if_neg (show ¬ a.nk? = k.nk? by rw [show a.nk? = some q from h1, hk]; simp [hq]), if_neg (show ¬ (q, b, z).1 = kk from hq)]
      exact .cons ⟨h1, h2, h3, v, h4, h5⟩ ih
theorem dPut_T {k x : D} {kk : NestedKey} {t : Addr} {u : V} {w : Value} (hk : k.nk? = some kk) (hd : kk.depth ≤ 8) (rk : Rep G ι H k (.ref t)) (rx : Rep G ι H x u) (rw' : RelV u w) {l : List (D × D)} {xs : List (NestedKey × Addr × Value)} (p : Paired (RepT G ι H) l xs) :
    Paired (RepT G ι H) (dPut l k x) (storedH xs kk t w) := by
  unfold dPut storedH dHas
  rcases dGet_T hk p with ⟨e1, e2⟩ | ⟨d, v, _, e1, e2, _⟩
  · rw [e1, e2]; exact Paired.snoc p ⟨hk, hd, rk, u, rx, rw'⟩
  · rw [e1, e2]; exact dRep_T hk rx rw' p
end

/-! ### in the heap itself -/
section
variable {X : Cx} {pins : List (Addr × Obj)} {σ : St} {H : Hp} {s : Shared} {ι : List Addr}
mutual
theorem nest_of (I : Inv X pins σ H s) : ∀ (d : D) (k : NestedKey) (v : V) (u : Value), D.nk? d = some k → Rep (gOf X) ι H d v → RelV v u → NestedIs s.heap k u
  | .non, k, v, u, e, r, ru => by unfold D.nk? at e; cases e; cases r.non; cases ru; exact .none
  | .bl b, k, v, u, e, r, ru => by unfold D.nk? at e; cases e; cases r.bl; cases ru; exact .bool rfl
  | .int i, k, v, u, e, r, ru => by unfold D.nk? at e; cases e; cases r.int; obtain ⟨t, rfl⟩ := ru; exact .int i t
  | .str i, k, v, u, e, r, ru => by unfold D.nk? at e; cases e; cases r.str; obtain ⟨t, rfl⟩ := ru; exact .text i t
  | .tup l, k, v, u, e, r, ru => by
    unfold D.nk? at e
    obtain ⟨ks, e1, rfl⟩ := Option.map_eq_some_iff.mp e
    obtain ⟨a, vs, rfl, h1, h2⟩ := r.tup
    cases ru
    obtain ⟨its, rv, ⟨o, ho, hc, n, hd⟩, _⟩ := I.tuple h1
    exact .tup ho hc hd (nests_of I l ks vs its e1 h2 rv)
  | .frl _, _, _, _, e, _, _ => by unfold D.nk? at e; cases e
  | .ref _, _, _, _, e, _, _ => by unfold D.nk? at e; cases e
  | .fn _, _, _, _, e, _, _ => by unfold D.nk? at e; cases e
theorem nests_of (I : Inv X pins σ H s) : ∀ (l : List D) (ks : List NestedKey) (vs : List V) (us : List Value), D.nks? l = some ks → Reps (gOf X) ι H l vs → Vals vs us → NestedAll s.heap ks us
  | [], ks, vs, us, e, r, ru => by unfold D.nks? at e; cases e; rw [r.nil_inv] at ru; cases ru; exact .nil
  | d :: l, ks, vs, us, e, r, ru => by
    unfold D.nks? at e
    obtain ⟨v, w, rfl, h1, h2⟩ := r.cons_inv
    split at e
    · rename_i k q e1 e2
      cases e
      cases ru with
      | cons ra rb => exact .cons (nest_of I d k v _ e1 h1 ra) (nests_of I l q w _ e2 h2 rb)
    · cases e
end
/-- the dict of tuples at a, as it lies -/
def TdIs (G : Gd) (ι : List Addr) (H : Hp) (a : Addr) (l : List (D × D)) (xs : List (NestedKey × Addr × Value)) : Prop :=
  Rd H a (.ext (tdPhi G a xs)) ∧ Paired (RepT G ι H) l xs ∧ (xs.map (·.1)).Nodup ∧ xs.length ≤ sizeLine ∧ (a == sysModules) = false
theorem TdIs.dictOf {a : Addr} {l : List (D × D)} {xs : List (NestedKey × Addr × Value)} (t : TdIs (gOf X) ι H a l xs) (I : Inv X pins σ H s) : s.heap.DictOfH (nestedKind X.prog X.w) a xs := by
  obtain ⟨h1, h2, h3, _⟩ := t
  obtain ⟨⟨o, es, ep, e1, e2, e3, e4⟩, _⟩ := h1.ok I.hok
  refine ⟨o, es, ep, e1, e2, e3, e4, ?_, h3⟩
  have key : ∀ {l : List (D × D)} {xs : List (NestedKey × Addr × Value)}, Paired (RepT (gOf X) ι H) l xs → ∀ x ∈ xs, (nestedKind X.prog X.w).is s.heap x.1 x.2.1 := by
    intro l xs p
    induction p with
    | nil => exact fun x hx => nomatch hx
    | cons h t ih =>
      intro x hx
      rcases List.mem_cons.mp hx with e | hx
      · subst e; exact ⟨nest_of I _ _ _ _ h.1 h.2.2.1 rfl, h.2.1⟩
      · exact ih x hx
  exact key h2
theorem td_obj {P : Program} {w : World} {H' : Hp} {h' : Heap} {G : Gd} {a : Addr} {xs : List (NestedKey × Addr × Value)} (d : h'.DictOfH (nestedKind G.P G.w) a xs) : ObjOk P w H' h' a (.ext (tdPhi G a xs)) := by
  obtain ⟨o, es, ep, e1, e2, e3, e4, _⟩ := d
  exact ⟨⟨o, es, ep, e1, e2, e3, e4⟩, ⟨o, e1⟩, fun h1 h2 ⟨o, es, ep, e1, e2⟩ k => ⟨o, es, ep, k _ e1, e2⟩⟩
end

/-! ### by values: both kinds of dict -/
/-- the dict at a holds r at the key y -/
@[reducible] def AtIs (xs : List (NestedKey × Addr × Value)) (kk : NestedKey) (r : Option V) : Prop := match r with
  | none => atKey xs kk = none
  | some v => ∃ p, atKey xs kk = some p ∧ RelV v p.2
def DIs (G : Gd) (H : Hp) (a : Addr) (y : V) (r : Option V) : Prop := DGet H a y r ∨
  ∃ ι l xs k kk t, TdIs G ι H a l xs ∧ Rep G ι H k (.ref t) ∧ y = .ref t ∧ D.nk? k = some kk ∧ kk.depth ≤ 8 ∧ AtIs xs kk r
section
variable {X : Cx} {pins : List (Addr × Obj)} {σ : St} {H : Hp} {s : Shared} {a : Addr} {y v : V} {u : Value} {o : Option V}
theorem di_typeIs (I : Inv X pins σ H s) (g : DIs (gOf X) H a y o) : s.TypeIs (.ref a) "dict" := by
  rcases g with g | ⟨ι, l, xs, k, kk, t, h, _⟩
  · exact dict_typeIs I g
  · exact (h.dictOf I).typeIs
theorem di_getItem {Q : Value → Shared → Prop} (hu : X.A.units + 64 < cLine) (I : Inv X pins σ H s) (g : DIs (gOf X) H a y (some v)) (ry : RelV y u) (h : ∀ w' s', Inv X pins σ H s' → RelV v w' → Q w' s') :
    wpAny (model X.prog X.w) X.A (getItem (.ref a) u) Q X.xe s := by
  rcases g with g | ⟨ι, l, xs, k, kk, t, hd, rk, ey, hk, hk8, p, hp, rp⟩
  · exact d_getItem (by omega) I g ry h
  · subst ey
    cases (show u = Value.ref t from ry)
    refine wpAny_getItem_heap (knd := nestedKind X.prog X.w) (by show X.A.units + 1 + 8 < cLine; omega) ⟨nest_of I k kk _ _ hk rk rfl, hk8⟩ (hd.dictOf I) hp ?_
    exact h p.2 _ (I.tok _) rp
theorem di_in {Q : Value → Shared → Prop} (hu : X.A.units + 64 < cLine) (I : Inv X pins σ H s) (g : DIs (gOf X) H a y o) (ry : RelV y u) (h : ∀ s', Inv X pins σ H s' → Q (.bool o.isSome) s') :
    wpAny (model X.prog X.w) X.A (compareOp .In u (.ref a)) Q X.xe s := by
  rcases g with g | ⟨ι, l, xs, k, kk, t, hd, rk, ey, hk, hk8, hp⟩
  · exact d_in (by omega) I g ry h
  · subst ey
    cases (show u = Value.ref t from ry)
    refine wpAny_in_heap (knd := nestedKind X.prog X.w) (by show X.A.units + 1 + 8 < cLine; omega) ⟨nest_of I k kk _ _ hk rk rfl, hk8⟩ hd.2.2.2.2 (hd.dictOf I) ?_
    have e : (atKey xs kk).isSome = o.isSome := by
      cases o with
      | none => rw [show atKey xs kk = none from hp]; rfl
      | some v => obtain ⟨p, e, _⟩ := hp; rw [e]; rfl
    rw [e]
    exact h _ (I.tok _)
theorem di_notIn {Q : Value → Shared → Prop} (hu : X.A.units + 64 < cLine) (I : Inv X pins σ H s) (g : DIs (gOf X) H a y o) (ry : RelV y u) (h : ∀ s', Inv X pins σ H s' → Q (.bool (!o.isSome)) s') :
    wpAny (model X.prog X.w) X.A (compareOp .NotIn u (.ref a)) Q X.xe s := by
  rcases g with g | ⟨ι, l, xs, k, kk, t, hd, rk, ey, hk, hk8, hp⟩
  · exact d_notIn (by omega) I g ry h
  · subst ey
    cases (show u = Value.ref t from ry)
    refine PyProof.Rows.wpAny_notIn_heap (knd := nestedKind X.prog X.w) (by show X.A.units + 1 + 8 < cLine; omega) ⟨nest_of I k kk _ _ hk rk rfl, hk8⟩ hd.2.2.2.2 (hd.dictOf I) ?_
    have e : (atKey xs kk).isSome = o.isSome := by
      cases o with
      | none => rw [show atKey xs kk = none from hp]; rfl
      | some v => obtain ⟨p, e, _⟩ := hp; rw [e]; rfl
    rw [e]
    exact h _ (I.tok _)
end
def rInD (G : Gd) : R2 := fun x y H Q => ∃ a o, y = .ref a ∧ DIs G H a x o ∧ Q (.bl o.isSome) H
def rNotInD (G : Gd) : R2 := fun x y H Q => ∃ a o, y = .ref a ∧ DIs G H a x o ∧ Q (.bl (!o.isSome)) H
def rIxD (G : Gd) : R2 := fun x y H Q => ∃ a v, x = .ref a ∧ DIs G H a y (some v) ∧ Q v H
section
variable {X : Cx}
theorem op_inD (hu : X.A.units + 64 < cLine) : OpR X (compareOp .In) (rInD (gOf X)) := by
  intro pins s σ H x y v u Q I rx ry ⟨a, o, ey, g, q⟩
  subst ey; cases ry
  exact di_in hu I g rx fun s' I' => ⟨.bl o.isSome, H, I', rfl, q⟩
theorem op_notInD (hu : X.A.units + 64 < cLine) : OpR X (compareOp .NotIn) (rNotInD (gOf X)) := by
  intro pins s σ H x y v u Q I rx ry ⟨a, o, ey, g, q⟩
  subst ey; cases ry
  exact di_notIn hu I g rx fun s' I' => ⟨.bl (!o.isSome), H, I', rfl, q⟩
open PyProof.Rows (subscriptTail) in
theorem ix_dict (hu : X.A.units + 64 < cLine) : IxR X (rIxD (gOf X)) := by
  intro value slice pins s σ H x y v u Q I rx ry ⟨a, z, ex, g, q⟩ hs
  subst ex; cases rx
  have hT := di_typeIs I g
  unfold subscriptTail
  refine wpAny_bind ?_
  rw [getitemInPython_of_ne hT.not_modules]
  refine wpAny_bind (wpAny_specialOf hT PySem.F.slot_dict_getitem.lookup ?_)
  have fin : wpAny (model X.prog X.w) X.A (subscripted slice false (.ref a) u) (fun r s₃ => wpAny (model X.prog X.w) X.A (letTemporaryGo value (.ref a) r >>= fun _ => pure r) (EP X pins σ Q) X.xe s₃) X.xe s := by
    rw [hs]
    exact wpAny_operating (di_getItem hu I g ry fun w' s' I' r' => wpAny_bind (wpAny_letTemporaryGo (wpAny_pure ⟨z, H, I', r', q⟩)))
  first
    | exact wpAny_pure (wpAny_bind fin)
    | exact wpAny_bind (wpAny_pure (wpAny_bind fin))
    | exact wpAny_bind fin
end
/-! ### mirrors -/
def dictD (l : List (D × D)) (t : Bool) (k : D) : Option (Option D) := if (if t = true then isT k else isK k) = true then some (dGet l k) else none
def dictAt (x : D) (k : D) (μ : Mem) : Option (Option D) := match x with
  | .ref n => (match μ[n]? with
    | some (.dic l) => if isK k = true then some (dGet l k) else none
    | some (.tdic l) => if isT k = true then some (dGet l k) else none
    | some (.lck false l) => if isK k = true then some (dGet l k) else none
    | some (.lck true l) => if isT k = true then some (dGet l k) else none
    | _ => none)
  | _ => none
def inDD (k x : D) (μ : Mem) : Res D := match dictAt x k μ with
  | some o => .ok (.bl o.isSome) μ
  | none => .stuck
def notInDD (k x : D) (μ : Mem) : Res D := match dictAt x k μ with
  | some o => .ok (.bl (!o.isSome)) μ
  | none => .stuck
def idxDD (x k : D) (μ : Mem) : Res D := match dictAt x k μ with
  | some (some d) => .ok d μ
  | _ => .stuck
section
variable {G : Gd} {ι : List Addr} {H : Hp} {μ : Mem}
theorem isT_key {k : D} (h : isT k = true) : ∃ l kk, k = .tup l ∧ D.nk? k = some kk ∧ kk.depth ≤ 8 := by
  cases k <;> first | (simp [isT] at h; done) | skip
  rename_i l
  simp only [isT] at h
  split at h
  · rename_i n e
    exact ⟨l, n, rfl, e, of_decide_eq_true h⟩
  · cases h
theorem dictAt_is {x k : D} {v u : V} {o : Option D} (r : Rel G ι H μ) (rx : Rep G ι H x v) (rk : Rep G ι H k u) (h : dictAt x k μ = some o) :
    ∃ a w, v = .ref a ∧ DIs G H a u w ∧ w.isSome = o.isSome ∧ ∀ d, o = some d → ∃ z, w = some z ∧ Rep G ι H d z := by
  have K1 : ∀ {n : Nat} {l : List (D × D)} {a : Addr} {kvs : List (Key × V)}, x = .ref n → ι[n]? = some a → Rd H a (.dK kvs) → Paired (RepP G ι H) l kvs → isK k = true → some (dGet l k) = some o →
      ∃ a w, v = .ref a ∧ DIs G H a u w ∧ w.isSome = o.isSome ∧ ∀ d, o = some d → ∃ z, w = some z ∧ Rep G ι H d z := by
    intro n l a kvs ex h0 h1 h2 hk ho
    subst ex; cases ho
    obtain ⟨a', h0', rfl⟩ := rx.ref
    obtain rfl : a = a' := by rw [h0] at h0'; cases h0'; rfl
    unfold isK at hk
    obtain ⟨kk, ek⟩ := Option.isSome_iff_exists.mp hk
    have eu := key_rep ek rk
    subst eu
    have g : DGet H a (kV kk) (valV kvs kk) := .inl ⟨kvs, kk, h1, rfl, rfl⟩
    rcases dGet_K ek h2 with ⟨e1, e2⟩ | ⟨d, z, e1, e2, e3⟩
    · refine ⟨a, none, rfl, .inl (by rw [← e2]; exact g), by rw [e1]; rfl, fun d ed => by rw [e1] at ed; cases ed⟩
    · exact ⟨a, some z, rfl, .inl (by rw [← e2]; exact g), by rw [e1]; rfl, fun d' ed => by rw [e1] at ed; cases ed; exact ⟨z, rfl, e3⟩⟩
  have K2 : ∀ {n : Nat} {l : List (D × D)} {a : Addr} {xs : List (NestedKey × Addr × Value)}, x = .ref n → ι[n]? = some a → TdIs G ι H a l xs → isT k = true → some (dGet l k) = some o →
      ∃ a w, v = .ref a ∧ DIs G H a u w ∧ w.isSome = o.isSome ∧ ∀ d, o = some d → ∃ z, w = some z ∧ Rep G ι H d z := by
    intro n l a xs ex h0 h1 hk ho
    subst ex; cases ho
    obtain ⟨a', h0', rfl⟩ := rx.ref
    obtain rfl : a = a' := by rw [h0] at h0'; cases h0'; rfl
    obtain ⟨kl, kk, ekl, ek, ek8⟩ := isT_key hk
    subst ekl
    obtain ⟨t, ts, eu, _, _⟩ := id rk.tup
    subst eu
    rcases dGet_T ek h1.2.1 with ⟨e1, e2⟩ | ⟨d, p, z, e1, e2, e3, e4⟩
    · exact ⟨a, none, rfl, .inr ⟨ι, l, xs, .tup kl, kk, t, h1, rk, rfl, ek, ek8, e2⟩, by rw [e1]; rfl, fun d ed => by rw [e1] at ed; cases ed⟩
    · exact ⟨a, some z, rfl, .inr ⟨ι, l, xs, .tup kl, kk, t, h1, rk, rfl, ek, ek8, p, e2, e4⟩, by rw [e1]; rfl, fun d' ed => by rw [e1] at ed; cases ed; exact ⟨z, rfl, e3⟩⟩
  unfold dictAt at h
  split at h
  · rename_i n
    obtain ⟨a, h0, _⟩ := rx.ref
    split at h
    · rename_i l em
      obtain ⟨kvs, h1, h2⟩ := r.cell n _ a em h0
      split at h
      · rename_i hk; exact K1 rfl h0 (.inl h1) h2 hk h
      · cases h
    · rename_i l em
      obtain ⟨xs, h1⟩ := r.cell n _ a em h0
      split at h
      · rename_i hk; exact K2 rfl h0 ⟨.inl h1.1, h1.2⟩ hk h
      · cases h
    · rename_i l em
      obtain ⟨od, kvs, h1, h2⟩ := r.cell n _ a em h0
      split at h
      · rename_i hk; exact K1 rfl h0 (.inr ⟨od, h1⟩) h2 hk h
      · cases h
    · rename_i l em
      obtain ⟨od, xs, h1⟩ := r.cell n _ a em h0
      split at h
      · rename_i hk; exact K2 rfl h0 ⟨.inr ⟨od, h1.1⟩, h1.2⟩ hk h
      · cases h
    · cases h
  · cases h
theorem snd_inD : Snd2 G (rInD G) inDD := fun ι H μ x y v u W σ Q r rx ry h => by
  unfold inDD at h
  split at h
  · rename_i o e
    obtain ⟨a, w, rfl, h1, h2, _⟩ := dictAt_is r ry rx e
    exact ⟨a, w, rfl, h1, by rw [h2]; exact h ι H .refl r _ (rep_bl _)⟩
  · exact h.elim
theorem snd_notInD : Snd2 G (rNotInD G) notInDD := fun ι H μ x y v u W σ Q r rx ry h => by
  unfold notInDD at h
  split at h
  · rename_i o e
    obtain ⟨a, w, rfl, h1, h2, _⟩ := dictAt_is r ry rx e
    exact ⟨a, w, rfl, h1, by rw [h2]; exact h ι H .refl r _ (rep_bl _)⟩
  · exact h.elim
theorem snd_ixD : Snd2 G (rIxD G) idxDD := fun ι H μ x y v u W σ Q r rx ry h => by
  unfold idxDD at h
  split at h
  · rename_i d e
    obtain ⟨a, w, rfl, h1, _, h3⟩ := dictAt_is r rx ry e
    obtain ⟨z, rfl, rz⟩ := h3 d rfl
    exact ⟨a, z, rfl, h1, h ι H .refl r _ rz⟩
  · exact h.elim
end
section
variable {X : Cx} {W : WX} {a b : Expr} {ma mb : MD} {pos : Pos}
theorem se_idxD (hu : X.A.units + 64 < cLine) (ha : SE X W a ma) (hb : SE X W b mb) (hs : PlainIx b := by exact fun _ _ => rfl) : SE X W (.Subscript a b pos) (mBin idxDD ma mb) :=
  PE.mono (pe_ix (ix_dict hu) ha hb hs) fun σ H Q h => bin_red snd_ixD h
end
end RW

/-! SEj: dicts stored, made, walked. -/
namespace RW
open PySem L2
/-! ### a[k] = v of lists and dicts -/
def rSetT (G : Gd) : TSet := fun o i v H Q => ∃ a ι l xs k kk t, o = .ref a ∧ H a = some (.ext (tdPhi G a xs)) ∧ TdIs G ι H a l xs ∧ Rep G ι H k (.ref t) ∧ i = .ref t ∧ D.nk? k = some kk ∧ kk.depth ≤ 8 ∧ xs.length < sizeLine ∧
  ∀ w, RelV v w → Q (upd H a (.ext (tdPhi G a (storedH xs kk t w))))
def rSetK : TSet := fun o i v H Q => ∃ a H', o = .ref a ∧ DPut H a i v H' ∧ Q H'
def rSetA (G : Gd) : TSet := fun o i v H Q => rSetL o i v H Q ∨ rSetK o i v H Q ∨ rSetT G o i v H Q
section
variable {X : Cx}
theorem PSet.or {t t' : TSet} (h : PSet X t) (h' : PSet X t') : PSet X (fun o i v H Q => t o i v H Q ∨ t' o i v H Q) := fun pins s σ H o i v ov iv u Q I r1 r2 r3 q => q.elim (h pins s σ H o i v ov iv u Q I r1 r2 r3) (h' pins s σ H o i v ov iv u Q I r1 r2 r3)
theorem set_K (hu : X.A.units + 64 < cLine) : PSet X rSetK := by
  intro pins s σ H o i v ov iv u Q I ro ri rv ⟨a, H', eo, g, q⟩
  subst eo; cases ro
  exact d_setItem (by omega) I g ri rv fun s' I' => ⟨H', I', q⟩
theorem set_T (hu : X.A.units + 64 < cLine) : PSet X (rSetT (gOf X)) := by
  intro pins s σ H o i v ov iv u Q I ro ri rv ⟨a, ι, l, xs, k, kk, t, eo, ha, hd, rk, ei, hk, hk8, hz, q⟩
  subst eo; cases ro
  subst ei; cases ri
  refine wpAny_setItem_heap (knd := nestedKind X.prog X.w) (by show X.A.units + 1 + 8 < cLine; omega) ⟨nest_of I k kk _ _ hk rk rfl, hk8⟩ (hd.dictOf I) (fun h' hm' hs => ?_) (Nat.le_of_lt hz)
  refine ⟨_, ?_, q u rv⟩
  refine I.write (x := a) (e := a) (by rw [ha]; trivial) (.inl rfl) (fun b ob hb e => (hs.2 b hb).trans e) ?_ (td_obj (G := gOf X) hm')
  obtain ⟨ob, _, _, e, _⟩ := hm'
  exact ⟨ob, e⟩
end
def setDD (o k d : D) (μ : Mem) : Res Unit := match o with
  | .ref n => (match μ[n]? with
    | some (.lst l) => setLD o k d μ
    | some (.dic l) => if isK k = true ∧ l.length < sizeLine then .ok () (μ.set n (.dic (dPut l k d))) else .stuck
    | some (.tdic l) => if isT k = true ∧ l.length < sizeLine then .ok () (μ.set n (.tdic (dPut l k d))) else .stuck
    | _ => .stuck)
  | _ => .stuck
theorem snd_setA {G : Gd} : SndSet G (rSetA G) setDD := fun ι H μ o i x ov iv v W σ Q r ro ri rx h => by
  cases o <;> first | exact h.elim | skip
  rename_i n
  simp only [setDD] at h
  split at h
  · exact .inl (snd_setL ι H μ (.ref n) i x ov iv v W σ Q r ro ri rx h)
  · rename_i l em
    split at h
    · rename_i hk
      obtain ⟨a, h0, rfl⟩ := ro.ref
      obtain ⟨kvs, h1, h2⟩ := r.cell n _ a em h0
      obtain ⟨kk, ek⟩ := Option.isSome_iff_exists.mp (show (D.key? i).isSome = true from hk.1)
      obtain rfl := key_rep ek ri
      have hlen : l.length = kvs.length := Paired.length h2
      obtain ⟨g2, r2⟩ := grow_set (o := .dK (putK kvs kk v)) (c := .dic (dPut l i x)) r h0 (fun _ _ e => by rw [h1] at e; cases e) fun e => ⟨_, upd_same, Paired.imp' (dPut_K ek rx h2) fun _ _ z => ⟨z.1, z.2.ext e⟩⟩
      exact .inr (.inl ⟨a, _, rfl, .k h1 (by omega), h ι _ g2 r2⟩)
    · exact h.elim
  · rename_i l em
    split at h
    · rename_i hk
      obtain ⟨a, h0, rfl⟩ := ro.ref
      obtain ⟨xs, h1⟩ := r.cell n _ a em h0
      obtain ⟨kl, kk, ekl, ek, ek8⟩ := isT_key hk.1
      subst ekl
      obtain ⟨t, ts, eu, _, _⟩ := id ri.tup
      subst eu
      have hlen : l.length = xs.length := Paired.length h1.2.1
      refine .inr (.inr ⟨a, ι, l, xs, .tup kl, kk, t, rfl, h1.1, ⟨.inl h1.1, h1.2⟩, ri, rfl, ek, ek8, by omega, fun w hw => ?_⟩)
      have hn : ((storedH xs kk t w).map (·.1)).Nodup ∧ (storedH xs kk t w).length ≤ sizeLine := by
        have nd := h1.2.2.1
        have hl : (storedH xs kk t w).length ≤ xs.length + 1 := by unfold storedH; split <;> simp
        refine ⟨?_, by omega⟩
        unfold storedH
        split
        · rw [keys_map_putAt]; exact nd
        · rename_i hf
          rw [List.map_append, List.nodup_append]
          refine ⟨nd, by simp, fun b hb c hc => ?_⟩
          simp at hc; subst hc
          rintro rfl
          apply hf
          cases e : atKey xs b with
          | some p => rfl
          | none =>
            exfalso
            obtain ⟨y, hy, rfl⟩ := List.mem_map.mp hb
            unfold atKey at e
            rw [Option.map_eq_none_iff, List.find?_eq_none] at e
            exact e y hy (by simp)
      obtain ⟨g2, r2⟩ := grow_set (o := .ext (tdPhi G a (storedH xs kk t w))) (c := .tdic (dPut l (.tup kl) x)) r h0 (fun _ _ e => by rw [h1.1] at e; cases e) fun e => ⟨_, upd_same, Paired.imp' (dPut_T ek ek8 ri rx hw h1.2.1) fun _ _ z => ⟨z.1, z.2.1, z.2.2.1.ext e, let ⟨v, z1, z2⟩ := z.2.2.2; ⟨v, z1.ext e, z2⟩⟩, hn.1, hn.2, h1.2.2.2.2⟩
      exact h ι _ g2 r2
    · exact h.elim
  · exact h.elim
section
variable {X : Cx} {W : WX} {pos : Pos} {o i : Expr} {mo mi : MD}
theorem sg_set (hu : X.A.units + 64 < cLine) (ho : SE X W o mo) (hi : SE X W i mi)
    (ha : ∀ v, assign (.Subscript o i pos) X.env v = (do
      let ov ← holding [v] (eval o X.env)
      let iv ← holding [v, ov] (eval i X.env)
      standAt pos
      holding [v, ov, iv] (setItem ov iv v)
      release [v, ov, iv] []) := by intro _; rfl) : SG X W (.Subscript o i pos) (gSubM setDD mo mi) :=
  sg_sub ho hi (PSet.or set_list (PSet.or (set_K hu) (set_T hu))) snd_setA ha
end
/-! ### a[b] of anything -/
def idxA (x i : D) (μ : Mem) : Res D := match x with
  | .ref n => (match μ[n]? with
    | some (.lst l) => idxD x i μ
    | _ => idxDD x i μ)
  | _ => idxD x i μ
def rIxA (G : Gd) : R2 := fun x y H Q => rIx G.K x y H Q ∨ rIxD G x y H Q
theorem snd_ixA {G : Gd} : Snd2 G (rIxA G) idxA := fun ι H μ x y v u W σ Q r rx ry h => by
  unfold idxA at h
  split at h
  · split at h
    · exact .inl (snd_idx ι H μ _ y v u W σ Q r rx ry h)
    · exact .inr (snd_ixD ι H μ _ y v u W σ Q r rx ry h)
  · exact .inl (snd_idx ι H μ _ y v u W σ Q r rx ry h)
section
variable {X : Cx} {W : WX} {a b : Expr} {ma mb : MD} {pos : Pos}
theorem se_ix (hu : X.A.units + 64 < cLine) (ha : SE X W a ma) (hb : SE X W b mb) (hs : PlainIx b := by exact fun _ _ => rfl) : SE X W (.Subscript a b pos) (mBin idxA ma mb) :=
  PE.mono (pe_ix (IxR.or ix_seq (ix_dict hu)) ha hb hs) fun σ H Q h => bin_red snd_ixA h
end
/-! ### x in y -/
def inA (x y : D) (μ : Mem) : Res D := match y with
  | .ref n => (match μ[n]? with
    | some (.lst l) => .stuck
    | _ => inDD x y μ)
  | _ => .stuck

/-! ### {} and {k: v, ..} -/
def mDicNew : MD := fun _ μ => .ok (.ref μ.length) (μ ++ [.dic []])
def mTdicNew : MD := fun _ μ => .ok (.ref μ.length) (μ ++ [.tdic []])
section
variable {X : Cx} {W : WX} {pos : Pos}
theorem se_dicNew : SE X W (.Dict [] [] pos) mDicNew := PE.mono pe_dnewK fun σ H Q ⟨ρ, μ, ι, env, rel, h⟩ p hp => by
  obtain ⟨g2, r2⟩ := grow_cell (o := .dK []) (c := .dic []) rel hp fun x => ⟨[], upd_same, .nil⟩
  exact h _ _ g2 r2 _ (rep_new (r := rel))
theorem td_empty {P : Program} {w : World} {H : Hp} {G : Gd} (h : Heap) : ObjOk P w H (h.push { cls := .type "dict", data := .dict #[] }) h.objs.size (.ext (tdPhi G h.objs.size [])) :=
  td_obj (Heap.DictOfH.new h)
theorem pe_dnewN : PE X (.Dict [] [] pos) (fun _ H Q => ∀ p, H p = none → (p == sysModules) = false → Q (.ref p) (upd H p (.ext (tdPhi (gOf X) p [])))) := ⟨fun pins s σ H Q I h =>
  wpAny_Dict_empty ⟨.ref s.heap.objs.size, _, I.laid (a := s.heap.objs.size) (o := .ext (tdPhi (gOf X) s.heap.objs.size [])) (t' := s.toks) (fun _ _ q => Heap.get?_push_of_some _ q) (Nat.le_refl _) (td_empty s.heap), rfl, h _ (I.hok.fresh (Nat.le_refl _)) (beq_eq_false_iff_ne.mpr (Ne.symm (Nat.ne_of_lt I.big)))⟩⟩
theorem se_tdicNew : SE X W (.Dict [] [] pos) mTdicNew := PE.mono pe_dnewN fun σ H Q ⟨ρ, μ, ι, env, rel, h⟩ p hp hs => by
  obtain ⟨g2, r2⟩ := grow_cell (o := .ext (tdPhi (gOf X) p [])) (c := .tdic []) rel hp fun x => ⟨[], upd_same, .nil, by simp, Nat.zero_le _, hs⟩
  exact h _ _ g2 r2 _ (rep_new (r := rel))
end
/-- the pairs of a display -/
@[simp] def mPairs : List (MD × MD) → Rho → Mem → Res (List (D × D))
  | [], _, μ => .ok [] μ
  | (k, v) :: r, ρ, μ => (k ρ μ).bind fun x μ1 => (v ρ μ1).bind fun y μ2 => (mPairs r ρ μ2).bind fun l μ3 => .ok ((x, y) :: l) μ3
def dicOf : List (D × D) → List (D × D) := fun l => l.foldl (fun acc p => dPut acc p.1 p.2) []
@[simp] def mDic (ps : List (MD × MD)) : MD := fun ρ μ => (mPairs ps ρ μ).bind fun l μ1 => if l.length ≤ 15 ∧ l.all (fun p => isK p.1) = true then .ok (.ref μ1.length) (μ1 ++ [.dic (dicOf l)]) else .stuck
@[simp] def mTdic (ps : List (MD × MD)) : MD := fun ρ μ => (mPairs ps ρ μ).bind fun l μ1 => if l.length ≤ 15 ∧ l.all (fun p => isT p.1) = true then .ok (.ref μ1.length) (μ1 ++ [.tdic (dicOf l)]) else .stuck
section
variable {X : Cx} {W : WX}
theorem pairs_red {σ : St} {ρ : Rho} : ∀ {ps : List (MD × MD)} {ι : List Addr} {H : Hp} {μ : Mem} {k : List Addr → Hp → Mem → List (D × D) → Prop} {Q : List (V × V) → Hp → Prop}, EnvOk (gOf X) ι H ρ σ → Rel (gOf X) ι H μ → Post (gOf X) ι H W σ (mPairs ps ρ μ) k →
    (∀ ι' H' μ' l vs, Grow ι H ι' H' → Rel (gOf X) ι' H' μ' → Paired (fun (p : D × D) (q : V × V) => Rep (gOf X) ι' H' p.1 q.1 ∧ Rep (gOf X) ι' H' p.2 q.2) l vs → k ι' H' μ' l → Q vs H') →
    tPairs (ps.map fun p => (tE (gOf X) W p.1, tE (gOf X) W p.2)) σ H Q
  | [], ι, H, μ, k, Q, env, rel, h, f => f ι H μ [] [] .refl rel .nil (h ι H .refl rel)
  | (mk, mv) :: ps, ι, H, μ, k, Q, env, rel, h, f => by
    simp only [mPairs] at h
    refine ⟨ρ, μ, ι, env, rel, (Post.bind h).imp fun ι1 H1 μ1 x _ _ ⟨g1, r1, h1⟩ v rv => ?_⟩
    have env1 := env.ext (g1.ext rel)
    refine ⟨ρ, μ1, ι1, env1, r1, (Post.bind h1).imp fun ι2 H2 μ2 y _ _ ⟨g2, r2, h2⟩ u ru => ?_⟩
    have env2 := env1.ext (g2.ext r1)
    refine pairs_red (ps := ps) env2 r2 (Post.bind h2) fun ι3 H3 μ3 l vs g3 r3 pr ⟨_, _, h3⟩ => ?_
    exact f ι3 H3 μ3 ((x, y) :: l) ((v, u) :: vs) ((g1.trans g2).trans g3) r3 (.cons ⟨(rv.ext (g2.ext r1)).ext (g3.ext r2), ru.ext (g3.ext r2)⟩ pr) (h3 ι3 H3 .refl r3)
theorem dic_fold {G : Gd} {ι : List Addr} {H : Hp} : ∀ {l : List (D × D)} {vs : List (V × V)} {acc : List (D × D)} {kvs : List (Key × V)}, Paired (fun (p : D × D) (q : V × V) => Rep G ι H p.1 q.1 ∧ Rep G ι H p.2 q.2) l vs → l.all (fun p => isK p.1) = true → Paired (RepP G ι H) acc kvs →
    ∃ more : List (Key × V), vs = more.map (fun kv => (kV kv.1, kv.2)) ∧ Paired (RepP G ι H) (l.foldl (fun acc p => dPut acc p.1 p.2) acc) (mergeK kvs more)
  | _, _, acc, kvs, .nil, _, p => ⟨[], rfl, p⟩
  | (k, x) :: l, (u, y) :: vs, acc, kvs, .cons ⟨h1, h2⟩ t, hk, p => by
    rw [List.all_cons, Bool.and_eq_true] at hk
    obtain ⟨kk, ek⟩ := Option.isSome_iff_exists.mp (show (D.key? k).isSome = true from hk.1)
    obtain rfl : u = kV kk := key_rep ek h1
    obtain ⟨more, e1, e2⟩ := dic_fold t hk.2 (dPut_K ek h2 p)
    exact ⟨(kk, y) :: more, by rw [e1]; rfl, e2⟩
theorem Post.bindB {ι ι' : List Addr} {H H' : Hp} {σ : St} {α β : Type} {r : Res α} {f : α → Mem → Res β} {kk : List Addr → Hp → Mem → β → Prop} {G : Gd} (h : Post G ι H W σ (r.bind f) kk) (g : Grow ι H ι' H') :
    Post G ι' H' W σ r fun _ _ μ2 a => Post G ι H W σ (f a μ2) kk := by
  cases r with
  | ok a m => exact fun ι2 H2 g2 r2 => h
  | exc c fs m => exact fun ι2 H2 cls dx g2 r e => h ι2 H2 cls dx (g.trans g2) r e
  | stuck => exact h
theorem se_dic {keys : List (Option Expr)} {values : List Expr} {pos : Pos} {ps : List (MD × MD)} (h : PPs X pos keys values (ps.map fun p => (tE (gOf X) W p.1, tE (gOf X) W p.2))) (hall : keys.all (·.isSome) = true) (hl : keys.length = values.length) (h0 : keys ≠ []) (h15 : keys.length ≤ 15) :
    SE X W (.Dict keys values pos) (mDic ps) :=
  PE.mono (pe_disp h hall hl h0 h15) fun σ H Q ⟨ρ, μ, ι, env, rel, h⟩ p hp => by
    obtain ⟨gD, rD⟩ := grow_laid (o := .dK []) rel hp
    have hpn := rel.notNone hp
    refine pairs_red (env.ext (gD.ext rel)) rD (Post.bindB h gD) fun ι1 H1 μ1 l vs g1 r1 pr h1 => ?_
    have e1 : H1 p = some (.dK []) := g1.keep _ _ upd_same hpn
    have hn1 : p ∉ ι1 := fun z => (g1.new p z).elim hpn fun z => by rw [upd_same] at z; cases z
    split at h1
    · rename_i hc
      obtain ⟨more, e2, e3⟩ := dic_fold (acc := []) (kvs := []) pr hc.2 .nil
      have hlen : l.length = vs.length := Paired.length pr
      refine ⟨e1, more, e2, by rw [e2] at hlen; simp at hlen; omega, ?_⟩
      -- the dict is adopted
      have ex : Ext ι1 H1 (ι1 ++ [p]) (upd H1 p (.dK (mergeK [] more))) := ⟨List.prefix_append _ _, fun a xs z => by rw [upd_ne (fun q => by rw [q, e1] at z; cases z)]; exact z, fun a o u z _ => by rw [upd_ne (fun q => by rw [q, e1] at z; cases z)]; exact z⟩
      have ex1 : Ext ι1 H1 ι1 (upd H1 p (.dK (mergeK [] more))) := ⟨List.prefix_refl _, ex.tup, ex.frz⟩
      have r2 : Rel (gOf X) ι1 (upd H1 p (.dK (mergeK [] more))) μ1 := ⟨r1.len, r1.nd, fun j c a q1 q2 => (r1.cell j c a q1 q2).ext ex1 (upd_ne fun q => hn1 (q ▸ List.mem_of_getElem? q2))⟩
      have r3 := grow_adopt (c := .dic (dicOf l)) r2 hn1 ⟨_, upd_same, Paired.imp' e3 fun _ _ z => ⟨z.1, z.2.ext ex⟩⟩
      have gA := gD.trans g1
      refine h1 (ι1 ++ [p]) _ ⟨gA.pre.trans (List.prefix_append _ _), fun a o z na => ?_, fun a ha => ?_, fun a o u z => by rw [upd_ne (fun q => by rw [q, hp] at z; cases z)]; exact gA.lock a o u z⟩ r3 _ (rep_new (r := r1))
      · rw [upd_ne (fun q => by rw [q, hp] at z; cases z)]; exact gA.keep a o z na
      · rcases List.mem_append.mp ha with z | z
        · exact gA.new a z
        · simp at z; subst z; exact .inr hp
    · exact h1.elim
/-! keys that are tuples -/
def NkL (G : Gd) (H : Hp) : List (V × V) → List (NestedKey × Addr × V) → Prop := Paired fun p x => p.1 = .ref x.2.1 ∧ p.2 = x.2.2 ∧ x.1.depth ≤ 8 ∧ ∃ ι k, Rep G ι H k (.ref x.2.1) ∧ D.nk? k = some x.1
def tDispT (G : Gd) (trs : List (TE × TE)) : TE := fun σ H Q => ∀ p, H p = none → (p == sysModules) = false → tPairs trs σ (upd H p (.ext (tdPhi G p []))) fun ps H2 => H2 p = some (.ext (tdPhi G p [])) ∧ ∃ ks : List (NestedKey × Addr × V), NkL G H2 ps ks ∧ ps.length ≤ 15 ∧
  ∀ ws : List Value, Vals (ks.map fun x => x.2.2) ws → Q (.ref p) (upd H2 p (.ext (tdPhi G p (storedAllH [] (List.zipWith (fun x w => (x.1, x.2.1, w)) ks ws)))))
theorem carriesH_of {pins : List (Addr × Obj)} {σ : St} {H : Hp} {s : Shared} (I : Inv X pins σ H s) : ∀ {ps : List (V × V)} {ks : List (NestedKey × Addr × V)} {vs : List (Value × Value)}, NkL (gOf X) H ps ks → VV ps vs →
    ∃ ws, Vals (ks.map fun x => x.2.2) ws ∧ CarriesH (nestedKind X.prog X.w) s.heap vs (List.zipWith (fun x w => (x.1, x.2.1, w)) ks ws)
  | _, _, _, .nil, .nil => ⟨[], .nil, trivial⟩
  | (k, v) :: ps, (n, a, y) :: ks, (kv, vv) :: vs, .cons ⟨h1, h2, h3, ι, d, h4, h5⟩ t, .cons ⟨r1, r2⟩ rt => by
    obtain ⟨ws, w1, w2⟩ := carriesH_of I t rt
    have h1 : k = .ref a := h1
    have h2 : v = y := h2
    subst h1; subst h2
    cases r1
    exact ⟨vv :: ws, .cons r2 w1, rfl, rfl, ⟨nest_of I d n _ _ h5 h4 rfl, h3⟩, w2⟩
theorem pe_dispT {keys : List (Option Expr)} {values : List Expr} {pos : Pos} {trs : List (TE × TE)} (hu : X.A.units + 64 < cLine) (h : PPs X pos keys values trs) (hall : keys.all (·.isSome) = true) (hl : keys.length = values.length) (h0 : keys ≠ []) (h15 : keys.length ≤ 15) :
    PE X (.Dict keys values pos) (tDispT (gOf X) trs) := by
  refine ⟨fun pins s σ H Q I q => ?_⟩
  have hn := I.hok.fresh (Nat.le_refl s.heap.objs.size)
  have I1 := I.laid (a := s.heap.objs.size) (o := .ext (tdPhi (gOf X) s.heap.objs.size [])) (h' := s.heap.push { cls := .type "dict", data := .dict #[] }) (t' := s.toks) (fun _ _ q => Heap.get?_push_of_some _ q) (Nat.le_refl _) (td_empty s.heap)
  have hnn := pairTrees_length keys values X.env pos hall hl
  rw [arm_eval_Dict, zip_pairTrees keys values X.env pos hall hl, dictDisplay_pairs (pairTrees keys values X.env pos) (fun he => h0 (List.length_eq_zero_iff.mp (by rw [← hnn, he]; rfl))) (by rw [hnn]; omega)]
  refine wpAny_bind (wpAny_standAt (wpAny_bind (wpAny_subDictH (knd := nestedKind X.prog X.w) (Q := fun d s' => wpAny (model X.prog X.w) X.A (pure (Value.ref d)) (EP X pins σ Q) X.xe s') (by show X.A.units + 8 < cLine; omega) (by rw [hnn]; exact h15) ?_)))
  refine thn (h.run pins _ σ _ _ I1 (q _ hn (beq_eq_false_iff_ne.mpr (Ne.symm (Nat.ne_of_lt I.big))))) fun ws s2 ⟨ps, H2, I2, rel, e, ks, hk, hz, q2⟩ => ?_
  obtain ⟨us, u1, u2⟩ := carriesH_of I2 hk rel
  have t0 : TdIs (gOf X) [] H2 s.heap.objs.size [] [] := ⟨.inl e, .nil, by simp, Nat.zero_le _, beq_eq_false_iff_ne.mpr (Ne.symm (Nat.ne_of_lt I.big))⟩
  refine ⟨_, u2, t0.dictOf I2, fun h' tk hm' hs => wpAny_pure ⟨.ref s.heap.objs.size, _, ?_, rfl, q2 us u1⟩⟩
  refine I2.write (x := s.heap.objs.size) (e := s.heap.objs.size) (by rw [e]; trivial) (.inl rfl) (fun b ob hb e => (hs.2 b hb).trans e) ?_ (td_obj (G := gOf X) hm')
  obtain ⟨ob, _, _, e', _⟩ := hm'
  exact ⟨ob, e'⟩
theorem td_fold {G : Gd} {ι : List Addr} {H : Hp} : ∀ {l : List (D × D)} {vs : List (V × V)}, Paired (fun (p : D × D) (q : V × V) => Rep G ι H p.1 q.1 ∧ Rep G ι H p.2 q.2) l vs → l.all (fun p => isT p.1) = true →
    ∃ ks : List (NestedKey × Addr × V), NkL G H vs ks ∧ ∀ ws : List Value, Vals (ks.map fun x => x.2.2) ws → ∀ (acc : List (D × D)) (xs : List (NestedKey × Addr × Value)), Paired (RepT G ι H) acc xs → Paired (RepT G ι H) (l.foldl (fun acc p => dPut acc p.1 p.2) acc) (storedAllH xs (List.zipWith (fun x w => (x.1, x.2.1, w)) ks ws))
  | _, _, .nil, _ => ⟨[], .nil, fun ws h acc xs p => by cases h; exact p⟩
  | (k, x) :: l, (u, y) :: vs, .cons ⟨h1, h2⟩ t, hk => by
    rw [List.all_cons, Bool.and_eq_true] at hk
    obtain ⟨kl, kk, ekl, ek, ek8⟩ := isT_key hk.1
    have ekl : k = .tup kl := ekl
    subst ekl
    obtain ⟨tt, ts, eu, _, _⟩ := id (Rep.tup h1)
    have eu : u = .ref tt := eu
    subst eu
    obtain ⟨ks, k1, k2⟩ := td_fold t hk.2
    refine ⟨(kk, tt, y) :: ks, .cons ⟨rfl, rfl, ek8, ι, _, h1, ek⟩ k1, fun ws hw acc xs p => ?_⟩
    cases hw with
    | cons r rt => exact k2 _ rt _ _ (dPut_T ek ek8 h1 h2 r p)
theorem nodup_storedH {xs : List (NestedKey × Addr × Value)} {kk : NestedKey} {t : Addr} {w : Value} (nd : (xs.map (·.1)).Nodup) : ((storedH xs kk t w).map (·.1)).Nodup := by
  unfold storedH
  split
  · rw [keys_map_putAt]; exact nd
  · rename_i hf
    rw [List.map_append, List.nodup_append]
    refine ⟨nd, by simp, fun b hb c hc => ?_⟩
    simp at hc; subst hc
    rintro rfl
    apply hf
    cases e : atKey xs b with
    | some p => rfl
    | none =>
      exfalso
      obtain ⟨y, hy, rfl⟩ := List.mem_map.mp hb
      unfold atKey at e
      rw [Option.map_eq_none_iff, List.find?_eq_none] at e
      exact e y hy (by simp)
theorem nodup_storedAllH : ∀ (ps xs : List (NestedKey × Addr × Value)), (xs.map (·.1)).Nodup → ((storedAllH xs ps).map (·.1)).Nodup
  | [], _, h => h
  | (k, t, w) :: ps, xs, h => nodup_storedAllH ps _ (nodup_storedH h)
theorem len_storedAllH : ∀ (ps xs : List (NestedKey × Addr × Value)), (storedAllH xs ps).length ≤ xs.length + ps.length
  | [], xs => Nat.le_refl _
  | (k, t, w) :: ps, xs => by
    have h1 := len_storedAllH ps (storedH xs k t w)
    have h2 : (storedH xs k t w).length ≤ xs.length + 1 := by unfold storedH; split <;> simp
    show (storedAllH (storedH xs k t w) ps).length ≤ _
    simp only [List.length_cons]; omega
theorem se_tdic {keys : List (Option Expr)} {values : List Expr} {pos : Pos} {ps : List (MD × MD)} (hu : X.A.units + 64 < cLine) (h : PPs X pos keys values (ps.map fun p => (tE (gOf X) W p.1, tE (gOf X) W p.2))) (hall : keys.all (·.isSome) = true) (hl : keys.length = values.length) (h0 : keys ≠ []) (h15 : keys.length ≤ 15) :
    SE X W (.Dict keys values pos) (mTdic ps) :=
  PE.mono (pe_dispT hu h hall hl h0 h15) fun σ H Q ⟨ρ, μ, ι, env, rel, h⟩ p hp hsys => by
    obtain ⟨gD, rD⟩ := grow_laid (o := .ext (tdPhi (gOf X) p [])) rel hp
    have hpn := rel.notNone hp
    refine pairs_red (env.ext (gD.ext rel)) rD (Post.bindB h gD) fun ι1 H1 μ1 l vs g1 r1 pr h1 => ?_
    have e1 : H1 p = some (.ext (tdPhi (gOf X) p [])) := g1.keep _ _ upd_same hpn
    have hn1 : p ∉ ι1 := fun z => (g1.new p z).elim hpn fun z => by rw [upd_same] at z; cases z
    split at h1
    · rename_i hc
      obtain ⟨ks, k1, k2⟩ := td_fold pr hc.2
      have hlen : l.length = vs.length := Paired.length pr
      refine ⟨e1, ks, k1, by omega, fun ws hw => ?_⟩
      have e3 := k2 ws hw [] [] .nil
      generalize hxs : storedAllH [] (List.zipWith (fun x w => (x.1, x.2.1, w)) ks ws) = xs at e3
      have hnd : (xs.map (·.1)).Nodup := by rw [← hxs]; exact nodup_storedAllH _ _ (by simp)
      have hle : xs.length ≤ sizeLine := by
        have a := len_storedAllH (List.zipWith (fun x w => (x.1, x.2.1, w)) ks ws) []
        have b : ks.length = vs.length := (Paired.length k1).symm
        rw [hxs, List.length_zipWith, List.length_nil] at a
        have : ks.length ≤ 15 := by omega
        rw [sizeLine_eq]; omega
      have ex : Ext ι1 H1 (ι1 ++ [p]) (upd H1 p (.ext (tdPhi (gOf X) p xs))) := ⟨List.prefix_append _ _, fun a xs z => by rw [upd_ne (fun q => by rw [q, e1] at z; cases z)]; exact z, fun a o u z _ => by rw [upd_ne (fun q => by rw [q, e1] at z; cases z)]; exact z⟩
      have ex1 : Ext ι1 H1 ι1 (upd H1 p (.ext (tdPhi (gOf X) p xs))) := ⟨List.prefix_refl _, ex.tup, ex.frz⟩
      have r2 : Rel (gOf X) ι1 (upd H1 p (.ext (tdPhi (gOf X) p xs))) μ1 := ⟨r1.len, r1.nd, fun j c a q1 q2 => (r1.cell j c a q1 q2).ext ex1 (upd_ne fun q => hn1 (q ▸ List.mem_of_getElem? q2))⟩
      have r3 := grow_adopt (c := .tdic (dicOf l)) r2 hn1 ⟨xs, upd_same, Paired.imp' e3 fun _ _ z => ⟨z.1, z.2.1, z.2.2.1.ext ex, let ⟨v, z1, z2⟩ := z.2.2.2; ⟨v, z1.ext ex, z2⟩⟩, hnd, hle, hsys⟩
      have gA := gD.trans g1
      refine h1 (ι1 ++ [p]) _ ⟨gA.pre.trans (List.prefix_append _ _), fun a o z na => ?_, fun a ha => ?_, fun a o u z => by rw [upd_ne (fun q => by rw [q, hp] at z; cases z)]; exact gA.lock a o u z⟩ r3 _ (rep_new (r := r1))
      · rw [upd_ne (fun q => by rw [q, hp] at z; cases z)]; exact gA.keep a o z na
      · rcases List.mem_append.mp ha with z | z
        · exact gA.new a z
        · simp at z; subst z; exact .inr hp
    · exact h1.elim
end

/-! ### d.get(k, x) -/
def isDic : D → Mem → Bool
  | .ref n, μ => (match μ[n]? with
    | some (.dic _) => true
    | some (.tdic _) => true
    | some (.lck _ _) => true
    | _ => false)
  | _, _ => false
def getM : D → List D → Mem → Res D
  | x, [k], μ => (match dictAt x k μ with
    | some o => .ok (o.getD .non) μ
    | none => .stuck)
  | x, [k, y], μ => (match dictAt x k μ with
    | some o => .ok (o.getD y) μ
    | none => .stuck)
  | _, _, _ => .stuck
def DicV (G : Gd) (H : Hp) (x : V) : Prop := ∃ a, x = .ref a ∧ ((∃ kvs, Rd H a (.dK kvs)) ∨ ∃ xs, Rd H a (.ext (tdPhi G a xs)))
section
variable {X : Cx} {W : WX} {pins : List (Addr × Obj)} {σ : St} {H : Hp} {s : Shared}
theorem dicV_at {x : V} {v : Value} (I : Inv X pins σ H s) (d : DicV (gOf X) H x) (r : RelV x v) : s.TypeIs v "dict" ∧ ∀ b, v = .ref b → ∃ ob, s.heap.get? b = some ob ∧ ob.dict = none := by
  obtain ⟨a, rfl, d⟩ := d
  cases r
  rcases d with ⟨kvs, e⟩ | ⟨xs, e⟩
  · obtain ⟨_, hd, vs, _, ob, _, _, h1, h2, _⟩ := dk_rd I.hok e
    exact ⟨⟨ob, h1, h2.1⟩, fun b q => by cases q; exact ⟨ob, h1, h2.2.1⟩⟩
  · obtain ⟨⟨ob, es, ep, h1, h2, _⟩, _⟩ := e.ok I.hok
    exact ⟨⟨ob, h1, h2.1⟩, fun b q => by cases q; exact ⟨ob, h1, h2.2.1⟩⟩
theorem isDic_V {G : Gd} {ι : List Addr} {H : Hp} {μ : Mem} {x : D} {v : V} (r : Rel G ι H μ) (rx : Rep G ι H x v) (h : isDic x μ = true) : DicV G H v := by
  cases x <;> first | (simp [isDic] at h; done) | skip
  rename_i n
  simp only [isDic] at h
  obtain ⟨a, h0, rfl⟩ := rx.ref
  split at h
  · rename_i l em
    obtain ⟨kvs, h1, _⟩ := r.cell n _ a em h0
    exact ⟨a, rfl, .inl ⟨kvs, .inl h1⟩⟩
  · rename_i l em
    obtain ⟨xs, h1, _⟩ := r.cell n _ a em h0
    exact ⟨a, rfl, .inr ⟨xs, .inl h1⟩⟩
  · rename_i t l em
    cases t with
    | false =>
      obtain ⟨od, kvs, h1, _⟩ := r.cell n _ a em h0
      exact ⟨a, rfl, .inl ⟨kvs, .inr ⟨od, h1⟩⟩⟩
    | true =>
      obtain ⟨od, xs, h1, _⟩ := r.cell n _ a em h0
      exact ⟨a, rfl, .inr ⟨xs, .inr ⟨od, h1⟩⟩⟩
  · cases h
/-- get by values -/
def rGet (G : Gd) : V → List V → Hp → VK → Prop := fun x vs H Q => ∃ a y o, x = .ref a ∧ DIs G H a y o ∧ ((vs = [y] ∧ Q (o.getD .non) H) ∨ ∃ z, vs = [y, z] ∧ Q (o.getD z) H)
theorem di_get {a : Addr} {y : V} {u : Value} {o : Option V} {more : List V} {ms : List Value} {Q : Value → Shared → Prop} (hu : X.A.units + 64 < cLine) (I : Inv X pins σ H s) (g : DIs (gOf X) H a y o) (ry : RelV y u) (rm : Vals more ms) (hm : more.length ≤ 1)
    (h : ∀ w' s', Inv X pins σ H s' → RelV (o.getD (more.headD .non)) w' → Q w' s') : wpAny (model X.prog X.w) X.A (call (.builtin "dict.get") (.ref a :: u :: ms)) Q X.xe s := by
  have key : ∀ (d : V) (dv : Value), RelV d dv → (∀ w' s', Inv X pins σ H s' → RelV (o.getD d) w' → Q w' s') → (∃ l xs ι k kk t, TdIs (gOf X) ι H a l xs ∧ Rep (gOf X) ι H k (.ref t) ∧ y = .ref t ∧ D.nk? k = some kk ∧ kk.depth ≤ 8 ∧ AtIs xs kk o) → ∃ (b : Addr) (kk : NestedKey) (xs : List (NestedKey × Addr × Value)), u = .ref b ∧ (nestedKind X.prog X.w).is s.heap kk b ∧ s.heap.DictOfH (nestedKind X.prog X.w) a xs ∧ (a == sysModules) = false ∧ RelV (o.getD d) (((atKey xs kk).map (·.2)).getD dv) := by
    intro d dv rd _ ⟨l, xs, ι, k, kk, t, hd, rk, ey, hk, hk8, hp⟩
    subst ey; cases ry
    refine ⟨t, kk, xs, rfl, ⟨nest_of I k kk _ _ hk rk rfl, hk8⟩, hd.dictOf I, hd.2.2.2.2, ?_⟩
    cases o with
    | none => rw [show atKey xs kk = none from hp]; exact rd
    | some v => obtain ⟨p, e, rp⟩ := hp; rw [e]; exact rp
  cases rm with
  | nil =>
    rcases g with g | ⟨ι, l, xs, k, kk, t, q⟩
    · exact d_get1 (by omega) I g ry h
    · obtain ⟨b, kk', xs', eu, k1, k2, k3, k4⟩ := key .non .none rfl h ⟨l, xs, ι, k, kk, t, q⟩
      subst eu
      exact call_meetsIn PySem.F.slot_dict_get k2.typeIs PySem.F.entry_dict_get (PySem.F.args_dict_get_2 _ _) (meetsH_dict_get (nestedKind X.prog X.w) a b k3) ⟨by show X.A.units + 1 + 8 < cLine; omega, kk', xs', k1, k2, h _ _ (I.tok _) k4⟩
  | @cons d dv _ _ rd rt =>
    cases rt with
    | cons _ _ => simp at hm
    | nil =>
      rcases g with g | ⟨ι, l, xs, k, kk, t, q⟩
      · exact d_get2 (by omega) I g ry rd h
      · obtain ⟨b, kk', xs', eu, k1, k2, k3, k4⟩ := key d dv rd h ⟨l, xs, ι, k, kk, t, q⟩
        subst eu
        exact call_meetsIn PySem.F.slot_dict_get k2.typeIs PySem.F.entry_dict_get (PySem.F.args_dict_get_3 _ _ _) (meetsH_dict_get_default (nestedKind X.prog X.w) a b k3 dv) ⟨by show X.A.units + 1 + 8 < cLine; omega, kk', xs', k1, k2, h _ _ (I.tok _) k4⟩
variable {o e : Expr} {es : List Expr} {mo : MD} {ms : ML} {apos cpos : Pos} {to : TE} {t : TA}
theorem pe_getM (hu : X.A.units + 64 < cLine) (ho : PE X o to) (ha : PA X (e :: es) t)
    (hbase : attributeBase o "get" X.env (eval o X.env) = eval o X.env := by rfl)
    (hfew : ((backTo cpos (starEach (e :: es) X.env)).all (fun x => !x.1) && (backToKw cpos (keywordEach [] X.env)).all (fun x => x.1.isSome)
      && decide ((e :: es).length + ([] : List Keyword).length + (if ([] : List Keyword).isEmpty then 0 else 1) < 30)) = true := by rfl)
    (hline : (apos.endLine == cpos.line) = true := by rfl) (hs : starEach (e :: es) X.env = (false, eval e X.env) :: starEach es X.env := by rfl) (hplain : (backTo cpos (starEach es X.env)).any (·.1) = false := by rfl) :
    PE X (.Call (.Attribute o "get" apos) (e :: es) [] cpos) (fun σ H Q => to σ H fun x H1 => DicV (gOf X) H1 x ∧ t σ H1 fun xs H2 => rGet (gOf X) x xs H2 Q) := by
  refine ⟨fun pins s σ H Q I h => ?_⟩
  refine wpAny_Call_method_late hbase hfew hline rfl (thn (ho.run pins s σ H _ I h) fun v s1 ⟨x, H1, I1, r1, ty, q1⟩ => ?_)
  obtain ⟨h1, h2⟩ := dicV_at I1 ty r1
  refine ⟨"dict", "dict.get", PySem.F.plainAttrs_dict, PySem.F.slot_dict_get, PySem.F.type_dict_get, h1, h2, ?_⟩
  have hA := ha.run cpos pins s1 σ H1 _ I1 q1
  rw [hs] at hA ⊢
  refine Calls.callWith_builtin (by show (false || (backTo cpos (starEach es X.env)).any (·.1)) = false; rw [hplain] <;> rfl) (Calls.evalArgs_plain ?_)
  refine thn hA fun us s2 ⟨vs, H2, I2, r2, a, y, oo, ex, g, q⟩ => ?_
  subst ex; cases r1
  rcases q with ⟨rfl, q⟩ | ⟨z, rfl, q⟩
  · cases r2 with
    | cons ry rt =>
      cases rt
      exact di_get hu I2 g ry .nil (by simp) fun w' s' I' r' => ⟨_, H2, I', r', q⟩
  · cases r2 with
    | cons ry rt =>
      exact di_get hu I2 g ry rt (by simp) fun w' s' I' r' => ⟨_, H2, I', r', q⟩
theorem se_get (hu : X.A.units + 64 < cLine) (ho : SE X W o mo) (ha : SA X W (e :: es) ms)
    (hbase : attributeBase o "get" X.env (eval o X.env) = eval o X.env := by rfl)
    (hfew : ((backTo cpos (starEach (e :: es) X.env)).all (fun x => !x.1) && (backToKw cpos (keywordEach [] X.env)).all (fun x => x.1.isSome)
      && decide ((e :: es).length + ([] : List Keyword).length + (if ([] : List Keyword).isEmpty then 0 else 1) < 30)) = true := by rfl)
    (hline : (apos.endLine == cpos.line) = true := by rfl) (hs : starEach (e :: es) X.env = (false, eval e X.env) :: starEach es X.env := by rfl) (hplain : (backTo cpos (starEach es X.env)).any (·.1) = false := by rfl) :
    SE X W (.Call (.Attribute o "get" apos) (e :: es) [] cpos) (mMt isDic getM mo ms) :=
  PE.mono (pe_getM hu ho ha hbase hfew hline hs hplain) fun σ H Q ⟨ρ, μ, ι, env, rel, h⟩ =>
    ⟨ρ, μ, ι, env, rel, (Post.bind h).imp fun ι1 H1 μ1 x _ _ ⟨g1, r1, h1⟩ v rv => by
      split at h1
      · rename_i ht
        refine ⟨isDic_V r1 rv ht, ρ, μ1, ι1, env.ext (g1.ext rel), r1, (Post.bind h1).imp fun ι2 H2 μ2 xs _ _ ⟨g2, r2, h2⟩ vs rvs => ?_⟩
        have rv2 := rv.ext (g2.ext r1)
        unfold getM at h2
        split at h2
        · split at h2
          · rename_i k o' ed
            obtain ⟨u, rfl, ru⟩ := rvs.one
            obtain ⟨a, w, rfl, q1, q2, q3⟩ := dictAt_is r2 rv2 ru ed
            refine ⟨a, u, w, rfl, q1, .inl ⟨rfl, h2 ι2 H2 .refl r2 _ ?_⟩⟩
            cases o' with
            | none => cases w with
              | none => exact rep_non
              | some _ => simp at q2
            | some d => obtain ⟨z, rfl, rz⟩ := q3 d rfl; exact rz
          · exact h2.elim
        · split at h2
          · rename_i k y o' ed
            obtain ⟨u, u2, rfl, ru, ru2⟩ := rvs.two
            obtain ⟨a, w, rfl, q1, q2, q3⟩ := dictAt_is r2 rv2 ru ed
            refine ⟨a, u, w, rfl, q1, .inr ⟨u2, rfl, h2 ι2 H2 .refl r2 _ ?_⟩⟩
            cases o' with
            | none => cases w with
              | none => exact ru2
              | some _ => simp at q2
            | some d => obtain ⟨z, rfl, rz⟩ := q3 d rfl; exact rz
          · exact h2.elim
        · exact h2.elim
      · exact h1.elim⟩
end
end RW

/-! SEk: enumerate of a tuple or list; a dict walked by its keys, locked meanwhile. -/
namespace RW
open PySem L2 PySem.Spec PyProof.Rows
open Sem (wp)
open AutoSeq1 (wpAny_loadPart')
/-! ### enumerate(tuple) -/
def objEnum (n : Nat) : Obj := { cls := .type "enumerate", data := .fields #[.none, .bool false, .ref n, rawInt 0, .none, .none] }
def objTupIt (t : Addr) : Obj := { cls := .type "tuple_iterator", data := .fields #[.ref t, .int 0 0] }
theorem meets_enumT (t : Addr) (items : Array Value) (n : Nat) (dct : Option Addr) (sl : Array (Option Value)) :
    Meets (Builtin.«enumerate.__new__» ⟨[.type "enumerate", .ref t], []⟩) (fun _ R s => s.heap.get? t = some { cls := .type "tuple", dict := dct, data := .seq items n, slots := sl } ∧
      R (.ok (.ret (.ref (s.heap.push (objTupIt t)).objs.size))) { s with heap := (s.heap.push (objTupIt t)).push (objEnum s.heap.objs.size) }) :=
  .of_wp fun prog w A R s h => by
    obtain ⟨hp, g, d, tk, os⟩ := s; obtain ⟨hl, h⟩ := h
    have hsub := sub_enumerate
    have hT : Heap.IsTuple (Shared.heap ⟨hp, g, d, tk, os⟩) t items := ⟨_, hl, rfl, n, rfl⟩
    wp_walk using wpAny_loadPart' hl
    refine wpAny_stack_any fun st => wpAny_pure ?_
    split
    · rename_i c _ _ _ _ _
      cases (c == Value.type "enumerate") <;> (wp_walk using wpAny_loadPart' hl, wpAny_pyIter_tuple hT; exact ⟨_, rfl, h⟩)
    · wp_walk using wpAny_loadPart' hl, wpAny_pyIter_tuple hT
      exact ⟨_, rfl, h⟩
section
variable {prog : Program} {w : World} {A : Around} {E : Value → Shared → Prop} {s : Shared}
theorem call_enumT {t : Addr} {items : Array Value} {Q : Value → Shared → Prop} (hT : s.heap.IsTuple t items)
    (h : ∀ h', IsEnum h' (s.heap.objs.size + 1) s.heap.objs.size 0 .none → h'.IsTupleIter s.heap.objs.size t 0 → h'.objs.size = s.heap.objs.size + 2 →
      (∀ b o, s.heap.get? b = some o → h'.get? b = some o) → Q (.ref (s.heap.objs.size + 1)) { s with heap := h' }) : wpAny (model prog w) A (call (.type "enumerate") [.ref t]) Q E s := by
  obtain ⟨⟨c, dct, dt, sl⟩, hl, hc, n, hd⟩ := hT
  replace hc : c = .type "tuple" := hc
  replace hd : dt = .seq items n := hd
  subst hc hd
  refine callType_new F.called_enumerate (by decide) (F.typeCall_enumerate_1 _) (F.newCall_enumerate_1 _) (fun ob => F.args_object_init_2 ob _) F.entry_enumerate_new (meets_enumT t items n dct sl) ⟨hl, ?_⟩
  have hz : (s.heap.push (objTupIt t)).objs.size = s.heap.objs.size + 1 := Heap.size_push ..
  show _ ∧ _
  rw [hz]
  have he : IsEnum ((s.heap.push (objTupIt t)).push (objEnum s.heap.objs.size)) (s.heap.objs.size + 1) s.heap.objs.size 0 .none := by
    have q := Heap.get?_push_size (s.heap.push (objTupIt t)) (o := objEnum s.heap.objs.size) rfl
    rw [hz] at q; exact q
  exact ⟨⟨_, he, rfl⟩, h _ he ⟨_, Heap.get?_push_of_some _ (Heap.get?_push_size _ rfl), rfl, rfl⟩ (by rw [Heap.size_push, hz]) fun b o x => Heap.get?_push_of_some _ (Heap.get?_push_of_some _ x)⟩
end
/-- the tuple at a, each item in a new pair with its number -/
def Ent (K : PySem.W.Frag) (a : Addr) : It :=
  ⟨fun i H => ∃ (xs : List V) (x : V), SqT K H a xs ∧ xs[i]? = some x, fun i H v H' => ∃ T x, v = .ref T ∧ H T = none ∧ H' = upd H T (.tup [.int (i : Nat), x]) ∧ ∀ xs, SqT K H a xs → xs[i]? = some x, fun i H => ∃ xs : List V, SqT K H a xs ∧ xs.length = i⟩
theorem turn_entT {P : Program} {w : World} {K : PySem.W.Frag} {elts : List Expr} {kk : Nat} {tpos : Pos} (a e it : Addr) (hai : a ≠ it) (hae : a ≠ e) :
    Turn P w K (.Tuple elts kk tpos) (Ent K a) [e, it] e (fun i h => (∃ old, IsEnum h e it ((i : Nat) : Int) old) ∧ h.IsTupleIter it a i ∧ e ≠ it) where
  mem := by simp
  obj := fun i h st b hb => by
    obtain ⟨⟨old, he⟩, ⟨o, ho, hc, hd⟩, _⟩ := st
    rcases (by simpa using hb : b = e ∨ b = it) with z | z
    · subst z; exact ⟨_, he, fun v q => nomatch q⟩
    · subst z; exact ⟨o, ho, fun v q => by rw [hd] at q; cases q⟩
  keep := fun i h h' st k => by
    obtain ⟨⟨old, he⟩, hi, hne⟩ := st
    exact ⟨⟨old, k e (by simp) _ he⟩, hi.at fun o q => k it (by simp) o q, hne⟩
  item := by
    intro X hP hw hK hc i pins s σ H E I hf st hg
    subst hP hw hK
    obtain ⟨⟨old, he⟩, hit, hne⟩ := st
    obtain ⟨xs, x, hq, hx⟩ := hg
    obtain ⟨its, rv, p, hz⟩ := I.tuple hq
    obtain ⟨u, hu, ru⟩ := rv.get hx
    have hel : e < s.heap.objs.size := Heap.lt_size he
    have hil : it < s.heap.objs.size := by obtain ⟨_, q, _⟩ := hit; exact Heap.lt_size q
    have hT : s.heap.IsTuple a its.toArray := p
    refine wpAny_pyNext_enum_itemD (Draws.tuple (prog := X.prog) (w := X.w) (A := X.A.in1) (I.ok.hd hc) it a hai its.toArray) he ⟨hit, hT⟩ (by simpa using (List.getElem?_eq_some_iff.mp hu).1) hne (by simp [hne, Ne.symm hae]) fun x' h' tk hP ho st' hT' hsz hk => ?_
    obtain rfl : u = x' := by simpa [hu] using hP
    refine ⟨_, rfl, wpAny_letOwnedTupleGo_enum (s := { s with heap := h', toks := tk + 1 }) ho fun h'' he' sb => ?_⟩
    have hT2 : h''.get? s.heap.objs.size = some { cls := .type "tuple", data := .seq #[.int i tk, u] } := (sb.2 _ (Nat.ne_of_gt hel)).trans hT'
    have new : ObjOk X.prog X.w (upd H s.heap.objs.size (.tup [.int (i : Nat), x])) h'' s.heap.objs.size (.tup [.int (i : Nat), x]) :=
      ⟨by show 2 ≤ sizeLine; decide, [.int i tk, u], .cons ⟨_, rfl⟩ (.cons ru .nil), ⟨_, hT2, rfl, _, rfl⟩⟩
    have I1 : Inv X pins σ (upd H s.heap.objs.size (.tup [.int (i : Nat), x])) { s with heap := h'', toks := tk + 1 } :=
      I.turnedNew (ch := [e, it]) (fun b ob hb q => (sb.2 b (fun z => hb (by simp [z]))).trans (hk b ob (fun z => hb (by simp [z])) (fun z => hb (by simp [z])) q)) hf (Nat.le_refl _) new
    refine ⟨.ref s.heap.objs.size, _, I1, rfl, ⟨_, x, rfl, I.hok.fresh (Nat.le_refl _), rfl, fun ys hy => by rw [I.tuple_inj hy hq]; exact hx⟩, ⟨⟨u, ?_⟩, st'.1.at fun o q => (sb.2 it (Ne.symm hne)).trans q, hne⟩, fun b hb => ?_⟩
    · have e1 : ((i + 1 : Nat) : Int) = (i : Int) + 1 := by omega
      rw [e1]; exact he'
    · have hb' : b < s.heap.objs.size := by
        rcases (by simpa using hb : b = e ∨ b = it) with z | z
        · subst z; exact hel
        · subst z; exact hil
      rw [upd_ne (Nat.ne_of_lt hb')]
      exact (hf b hb).1
  done := by
    intro X hP hw hK hc i pins s σ H E I hf st hg
    subst hP hw hK
    obtain ⟨⟨old, he⟩, hit, hne⟩ := st
    obtain ⟨xs, hq, hx⟩ := hg
    obtain ⟨its, rv, p, hz⟩ := I.tuple hq
    obtain ⟨f0, f1, f2, f3, f4, f5⟩ := hf it (by simp)
    have hl := rv.length
    have hT : s.heap.IsTuple a its.toArray := p
    have hn : i = its.toArray.size := by simp; omega
    subst hn
    exact wpAny_pyNext_enum_endD (Draws.tuple (prog := X.prog) (w := X.w) (A := X.A.in1) (I.ok.hd hc) it a hai its.toArray) he ⟨hit, hT⟩ fun h' eb => ⟨rfl, I.turned (t' := s.toks) (fun b o hb q => eb b o hb q) f0 f1 f3 f4 f5⟩
  self := fun A i s Q E st h => wpAny_pyIter_enum st.1.choose_spec h
def enItems (k : Nat) : List D → List D
  | [] => []
  | d :: l => .tup [.int (k : Int), d] :: enItems (k + 1) l
theorem enItems_len : ∀ (l : List D) (k : Nat), (enItems k l).length = l.length
  | [], _ => rfl
  | d :: l, k => by simp [enItems, enItems_len l]
theorem enItems_get : ∀ (l : List D) (k i : Nat) (x : D), (enItems k l)[i]? = some x → ∃ d, l[i]? = some d ∧ x = .tup [.int ((k + i : Nat) : Int), d]
  | [], k, i, x, e => by simp [enItems] at e
  | d :: l, k, 0, x, e => ⟨d, rfl, by simpa [enItems] using e.symm⟩
  | d :: l, k, i + 1, x, e => by
    obtain ⟨d', e1, e2⟩ := enItems_get l (k + 1) i x (by simpa [enItems] using e)
    exact ⟨d', by simpa using e1, by rw [e2]; congr 3; omega⟩
section
variable {G : Gd} {ι : List Addr} {H : Hp} {μ : Mem}
theorem it_pair {i : Nat} {d : D} {x : V} {T : Addr} (r : Rel G ι H μ) (hT : H T = none) (rx : Rep G ι H d x) : Grow ι H ι (upd H T (.tup [.int (i : Nat), x])) ∧ Rel G ι (upd H T (.tup [.int (i : Nat), x])) μ ∧ Rep G ι (upd H T (.tup [.int (i : Nat), x])) (.tup [.int ((0 + i : Nat) : Int), d]) (.ref T) := by
  obtain ⟨g, r2⟩ := grow_laid (o := .tup [.int (i : Nat), x]) r hT
  refine ⟨g, r2, rep_tup (.of upd_same) (.cons ?_ (.cons (rx.ext (g.ext r)) .nil))⟩
  rw [Nat.zero_add]
  unfold Rep; rfl
theorem it_entT {a : Addr} {l : List D} {vs : List V} (rel : Rel G ι H μ) (h1 : SqT G.K H a vs) (h2 : Reps G ι H l vs) : ItOk G ι H (Ent G.K a) (enItems 0 l) (fun _ => True) := by
  have base := it_tup rel h1 h2
  have sq : ∀ {ι' : List Addr} {H' : Hp}, Grow ι H ι' H' → SqT G.K H' a vs := fun {ι' H'} g => by
    have x := g.ext rel
    rcases h1 with (h1 | ⟨o, h1⟩) | h1
    · exact .inl (.inl (x.tup _ _ h1))
    · exact .inl (.inr ⟨o, x.frz _ _ _ h1 ⟨_, .inr rfl⟩⟩)
    · exact .inr h1
  refine ⟨fun i d ι' H' μ' e g r c => ?_, fun i d ι' H' μ' v H2 e g r c ⟨T, x, e1, e2, e3, e4⟩ => ?_, fun ι' H' μ' g r c => ⟨vs, sq g, by rw [enItems_len, h2.length]⟩⟩
  · obtain ⟨d', e1, _⟩ := enItems_get l 0 i d e
    exact base.go i d' ι' H' μ' e1 g r c
  · obtain ⟨d', q1, q2⟩ := enItems_get l 0 i d e
    obtain ⟨_, _, rx⟩ := base.yld i d' ι' H' μ' x H' q1 g r c ⟨rfl, e4⟩
    subst q2 e1 e3
    exact it_pair r e2 rx
theorem it_entL {a : Addr} {l : List D} {chk : Mem → Prop} (base : ItOk G ι H (Itl G.K a) l chk) : ItOk G ι H (Ite G.K a) (enItems 0 l) chk := by
  refine ⟨fun i d ι' H' μ' e g r c => ?_, fun i d ι' H' μ' v H2 e g r c ⟨T, x, e1, e2, e3, e4⟩ => ?_, fun ι' H' μ' g r c => by rw [enItems_len]; exact base.stop ι' H' μ' g r c⟩
  · obtain ⟨d', e1, _⟩ := enItems_get l 0 i d e
    exact base.go i d' ι' H' μ' e1 g r c
  · obtain ⟨d', q1, q2⟩ := enItems_get l 0 i d e
    obtain ⟨_, _, rx⟩ := base.yld i d' ι' H' μ' x H' q1 g r c ⟨rfl, e4⟩
    subst q2 e1 e3
    exact it_pair r e2 rx
end
def enumD : List D → Mem → Res (List D × (Mem → Prop))
  | [x], μ => (itSeq x μ).bind fun p μ1 => .ok (enItems 0 p.1, p.2) μ1
  | _, _ => .stuck
@[simp] def iEnumD (a : ML) : MIt := fun ρ μ => (a ρ μ).bind fun xs μ1 => enumD xs μ1
def iEntT (K : PySem.W.Frag) (ta : TA) : TI := fun σ H R => ta σ H fun vs H1 => ∃ a xs, vs = [.ref a] ∧ SqT K H1 a xs ∧ R (Ent K a) H1
section
variable {X : Cx} {W : WX} {e : Expr} {ms : ML} {p pos tpos : Pos} {elts : List Expr} {kk : Nat}
theorem pi_entT {ta : TA} (hg : Gl X "enumerate") (hm : X.mg "enumerate" = none) (ha : PA X [e] ta) (hs : starEach [e] X.env = [(false, eval e X.env)] := by rfl) :
    PI X (.Tuple elts kk tpos) (.Call (.Name "enumerate" p) [e] [] pos) (iEntT X.K ta) := by
  refine ⟨fun pins s σ H R I h => ?_⟩
  refine Call_ (ld_blt I hg hm boot_enumerate (PyProof.Rows.callWith_type1 (thn (ha.run pos pins s σ H _ I h) fun us s1 ⟨vs, H1, I1, r1, a, xs, ex, hq, q⟩ => ?_) hs rfl))
  subst ex
  cases r1 with
  | cons r rr =>
    cases rr
    cases r
    obtain ⟨its, rv, p', hz⟩ := I1.tuple hq
    have hlt : a < s1.heap.objs.size := by obtain ⟨_, q, _⟩ := p'; exact Heap.lt_size q
    refine call_enumT (t := a) (items := its.toArray) p' fun h' he hit hsz hk => wpAny_pyIter_enum he ?_
    have I2 : Inv X pins σ H1 { s1 with heap := h' } := I1.kept (t' := s1.toks) hk
    refine ⟨s1.heap.objs.size + 1, [s1.heap.objs.size + 1, s1.heap.objs.size], _, _, H1, rfl, I2, turn_entT a (s1.heap.objs.size + 1) s1.heap.objs.size (Nat.ne_of_lt hlt) (Nat.ne_of_lt (Nat.lt_succ_of_lt hlt)), ⟨⟨.none, he⟩, hit, Nat.succ_ne_self _⟩, fun b hb => ?_, q⟩
    have hle : s1.heap.objs.size ≤ b := by
      rcases (by simpa using hb : b = s1.heap.objs.size + 1 ∨ b = s1.heap.objs.size) with z | z
      · rw [z]; exact Nat.le_add_right _ _
      · rw [z]; exact Nat.le_refl _
    exact I1.fpOk hle (I1.hok.fresh hle)
theorem si_enum (hg : Gl X "enumerate") (hm : X.mg "enumerate" = none) (ha : SA X W [e] ms) (hs : starEach [e] X.env = [(false, eval e X.env)] := by rfl) :
    SI X W (.Tuple elts kk tpos) (.Call (.Name "enumerate" p) [e] [] pos) (iEnumD ms) :=
  PI.mono (PI.or (pi_entT hg hm ha hs) (pi_enum hg hm ha hs)) fun σ H R ⟨ρ, μ, ι, env, rel, h⟩ => by
    have h := Post.bind h
    cases hm : ms ρ μ with
    | stuck => rw [hm] at h; exact h.elim
    | exc c fs m => exact .inl ⟨ρ, μ, ι, env, rel, by rw [hm] at h ⊢; exact h⟩
    | ok ds μ1 =>
      rw [hm] at h
      by_cases ht : ∃ l, ds = [.tup l]
      · obtain ⟨l, rfl⟩ := ht
        refine .inl ⟨ρ, μ, ι, env, rel, ?_⟩
        rw [hm]
        intro ι1 H1 g1 r1 vs rvs
        obtain ⟨v, rfl, rv⟩ := rvs.one
        obtain ⟨a, vs, rfl, h1, h2⟩ := rv.tup
        obtain ⟨_, _, h3⟩ := h ι1 H1 g1 r1
        exact ⟨a, vs, rfl, h1, h3 ι1 H1 .refl r1 _ (it_entT r1 h1 h2)⟩
      · refine .inr ⟨ρ, μ, ι, env, rel, ?_⟩
        rw [hm]
        intro ι1 H1 g1 r1 vs rvs
        obtain ⟨_, _, h3⟩ := h ι1 H1 g1 r1
        unfold enumD at h3
        split at h3
        · rename_i d
          obtain ⟨v, rfl, rv⟩ := rvs.one
          cases d with
          | tup l => exact (ht ⟨l, rfl⟩).elim
          | frl l =>
            obtain ⟨a, vs, rfl, h1, h2⟩ := rv.frl
            exact ⟨a, vs, rfl, FrL.sq _ _ h1, h3 ι1 H1 .refl r1 _ (it_entL (it_frl r1 h1 h2))⟩
          | ref n =>
            simp only [itSeq] at h3
            split at h3
            · rename_i l em
              obtain ⟨a, vs, rfl, h0, h1, h2⟩ := r1.lst em rv
              exact ⟨a, vs, rfl, .of h1, h3 ι1 H1 .refl r1 _ (it_entL (it_lst h0))⟩
            · exact h3.elim
          | _ => exact h3.elim
        · exact h3.elim
end
end RW

/-! SEl: a dict walked by its keys, locked meanwhile. -/
namespace RW
open PySem L2 PySem.Spec
open PyProof.Rows hiding St
/-- the keys of the locked dict of tuples at d -/
def Itx (d : Addr) (od : Obj) (φ : Heap → Prop) (ks : List Addr) : It :=
  ⟨fun i H => H d = some (.frz od (.ext φ)) ∧ i < ks.length, fun i H x H' => H' = H ∧ ∃ q, ks[i]? = some q ∧ x = .ref q, fun i H => H d = some (.frz od (.ext φ)) ∧ ks.length ≤ i⟩
section
variable {X : Cx} {pins : List (Addr × Obj)} {σ : St} {H : Hp} {s : Shared} {d : Addr} {o : Obj} {xs : List (NestedKey × Addr × Value)} {G : Gd}
theorem frzX (I : Inv X pins σ H s) (h : H d = some (.frz o (.ext (tdPhi G d xs)))) : s.heap.get? d = some o ∧ o.ExactDict ∧ ∃ (es : Array DictEntry) (ep : Nat), o.data = .dict es ep ∧ es.size = xs.length ∧ ∀ (i : Nat) (hi : i < es.size), ∃ x, xs[i]? = some x ∧ es[i].key = .ref x.2.1 := by
  obtain ⟨hd, ⟨o', es, ep, h1, h2, h3, h4⟩, _⟩ := I.hok d _ h
  rw [hd] at h1; cases h1
  have hz : es.size = xs.length := by
    have q := congrArg List.length h4
    simpa using q
  refine ⟨hd, h2, es, ep, h3, hz, fun i hi => ?_⟩
  have q := congrArg (fun l => l[i]?) h4
  simp only [List.getElem?_map] at q
  rw [show es.toList[i]? = some es[i] by simp [hi], List.getElem?_eq_getElem (by omega : i < xs.length)] at q
  refine ⟨xs[i], List.getElem?_eq_getElem (by omega), ?_⟩
  simp only [Option.map_some, Option.some.injEq] at q
  rw [q]; rfl
end
theorem turn_keysX {P : Program} {w : World} {K : PySem.W.Frag} {tg : Expr} {d : Addr} {o : Obj} {es : Array DictEntry} {ep : Nat} {G : Gd} {xs : List (NestedKey × Addr × Value)} (it : Addr) (hod : o.data = .dict es ep) :
    Turn P w K tg (Itx d o (tdPhi G d xs) (xs.map fun x => x.2.1)) [it] it (fun i h => h.IsKeyIter it d i es.size ep) where
  mem := by simp
  obj := fun i h st b hb => by
    obtain rfl : b = it := by simpa using hb
    obtain ⟨oi, e, c, dd⟩ := st
    exact ⟨oi, e, fun v z => by rw [dd] at z; cases z⟩
  keep := fun i h h' st k => st.at fun oi e => k it (by simp) oi e
  item := by
    intro X hP hw hK hc i pins s σ H E I hf st hg
    subst hP hw hK
    obtain ⟨hd, hi⟩ := hg
    obtain ⟨f0, f1, f2, f3, f4, f5⟩ := hf it (by simp)
    obtain ⟨hgd, hx, es', ep', hdt, hsz, hk⟩ := frzX I hd
    obtain ⟨rfl, rfl⟩ := dict_ep hod hdt
    rw [List.length_map] at hi
    obtain ⟨x, hx1, hx2⟩ := hk i (by omega)
    refine wpAny_pyNext_keys_item_raw st ⟨o, hgd, hx, hdt⟩ (by omega) fun h' st' sb => ?_
    have I1 : Inv X pins σ H { s with heap := h' } := I.turned (t' := s.toks) (fun b ob hb e => (sb.2 b hb).trans e) f0 f1 f3 f4 f5
    obtain ⟨oi, e, c, dd⟩ := id st'
    exact ⟨_, rfl, go_of (s := { s with heap := h' }) e c dd (by decide) ⟨.ref x.2.1, H, I1, hx2, ⟨rfl, x.2.1, by rw [List.getElem?_map, hx1]; rfl, rfl⟩, st', fun b hb => (hf b hb).1⟩⟩
  done := by
    intro X hP hw hK hc i pins s σ H E I hf st hg
    subst hP hw hK
    obtain ⟨hd, hi⟩ := hg
    obtain ⟨f0, f1, f2, f3, f4, f5⟩ := hf it (by simp)
    obtain ⟨hgd, hx, es', ep', hdt, hsz, hk⟩ := frzX I hd
    obtain ⟨rfl, rfl⟩ := dict_ep hod hdt
    rw [List.length_map] at hi
    exact wpAny_pyNext_keys_end_raw (I.ok.hd hc) st ⟨o, hgd, hx, hdt⟩ (by omega) fun h' eb => ⟨rfl, I.turned (t' := s.toks) (fun b o hb e => eb b o hb e) f0 f1 f3 f4 f5⟩
  self := fun A i s Q E st h => wpAny_pyIter_keyiter st h
def iKeysX (G : Gd) (td : TE) : TI := fun σ H R => td σ H fun x H1 => ∃ d o xs, x = .ref d ∧ (d == sysModules) = false ∧ H1 d = some (.frz o (.ext (tdPhi G d xs))) ∧ R (Itx d o (tdPhi G d xs) (xs.map fun x => x.2.1)) H1
section
variable {X : Cx} {W : WX} {tg e : Expr} {me : MD}
theorem pi_keysX {td : TE} {G : Gd} (he : PE X e td) : PI X tg e (iKeysX G td) := by
  refine ⟨fun pins s σ H R I h => thn (he.run pins s σ H _ I h) fun u s1 ⟨x, H1, I1, rx, d, o, xs, ex, hs, hd, q⟩ => ?_⟩
  subst ex
  obtain rfl : u = Value.ref d := rx
  obtain ⟨hgd, hx, es, ep, hdt, hsz, hk⟩ := frzX I1 hd
  exact wpAny_pyIter_dict_raw hs ⟨o, hgd, hx, hdt⟩ (pi_one (tk := s1.toks) I1 _ (turn_keysX (G := G) (xs := xs) _ hdt) ⟨_, Heap.get?_push_size _ rfl, rfl, rfl⟩ q)
/-! mirrors -/
def itKeys : D → Mem → Res (List D × (Mem → Prop))
  | .ref n, μ => (match μ[n]? with
    | some (.lck t l) => .ok (l.map (·.1), fun μ' => μ'[n]? = some (.lck t l)) μ
    | _ => .stuck)
  | _, _ => .stuck
@[simp] def iKeysD (a : MD) : MIt := fun ρ μ => (a ρ μ).bind fun x μ1 => itKeys x μ1
theorem it_keysK {G : Gd} {ι : List Addr} {H : Hp} {n : Nat} {a : Addr} {o : Obj} {kvs : List (Key × V)} {l : List (D × D)} (hn : ι[n]? = some a) (h : H a = some (.frz o (.dK kvs))) (hl : l.length = kvs.length) :
    ItOk G ι H (Itk a o kvs) (l.map (·.1)) (fun μ' => μ'[n]? = some (.lck false l)) := by
  have key : ∀ {ι' : List Addr} {H' : Hp} {μ' : Mem}, Grow ι H ι' H' → Rel G ι' H' μ' → μ'[n]? = some (.lck false l) → Paired (RepP G ι' H') l kvs := fun {ι' H' μ'} g r e => by
    obtain ⟨od, kvs', h1, h2⟩ := r.cell n _ a e (prefix_get g.pre hn)
    rw [g.lock a _ _ h] at h1; cases h1
    exact h2
  refine ⟨fun i d ι' H' μ' e g r c => ⟨g.lock _ _ _ h, ?_⟩, fun i d ι' H' μ' v H2 e g r c ⟨e1, k, w, e2, e3⟩ => ?_, fun ι' H' μ' g r c => ⟨g.lock _ _ _ h, by simp [hl]⟩⟩
  · have := (List.getElem?_eq_some_iff.mp e).1
    simpa [hl] using this
  · subst e1 e3
    have p := key g r c
    rw [List.getElem?_map] at e
    obtain ⟨q, e4, rfl⟩ := Option.map_eq_some_iff.mp e
    obtain ⟨b, e5, q1, q2⟩ := paired_get p e4
    rw [e2] at e5; cases e5
    exact ⟨.refl, r, by have := q1; revert this; cases q.1 <;> simp [D.key?] <;> (intro e; subst e; unfold Rep; rfl)⟩
theorem it_keysX {G : Gd} {ι : List Addr} {H : Hp} {n : Nat} {a : Addr} {o : Obj} {xs : List (NestedKey × Addr × Value)} {l : List (D × D)} {μ : Mem} (rel : Rel G ι H μ) (hn : ι[n]? = some a) (h : H a = some (.frz o (.ext (tdPhi G a xs)))) (hl : Paired (RepT G ι H) l xs) :
    ItOk G ι H (Itx a o (tdPhi G a xs) (xs.map fun x => x.2.1)) (l.map (·.1)) (fun μ' => μ'[n]? = some (.lck true l)) := by
  have hlen : l.length = xs.length := Paired.length hl
  refine ⟨fun i d ι' H' μ' e g r c => ⟨g.lock _ _ _ h, ?_⟩, fun i d ι' H' μ' v H2 e g r c ⟨e1, q, e2, e3⟩ => ?_, fun ι' H' μ' g r c => ⟨g.lock _ _ _ h, by simp [hlen]⟩⟩
  · have := (List.getElem?_eq_some_iff.mp e).1
    simpa [hlen] using this
  · subst e1 e3
    rw [List.getElem?_map] at e e2
    obtain ⟨p, e4, rfl⟩ := Option.map_eq_some_iff.mp e
    obtain ⟨b, e5, q1, q2, q3, q4⟩ := paired_get hl e4
    rw [e5] at e2; cases e2
    exact ⟨.refl, r, q3.ext (g.ext rel)⟩
theorem si_keys (he : SE X W e me) : SI X W tg e (iKeysD me) :=
  PI.mono (PI.or (pi_keysX (G := gOf X) he) (pi_keys he)) fun σ H R ⟨ρ, μ, ι, env, rel, h⟩ => by
    have h := Post.bind h
    cases hm : me ρ μ with
    | stuck => rw [hm] at h; exact h.elim
    | exc c fs m => exact .inl ⟨ρ, μ, ι, env, rel, by rw [hm] at h ⊢; exact h⟩
    | ok d μ1 =>
      rw [hm] at h
      by_cases ht : ∃ n l, d = .ref n ∧ μ1[n]? = some (.lck true l)
      · obtain ⟨n, l, rfl, em⟩ := ht
        refine .inl ⟨ρ, μ, ι, env, rel, ?_⟩
        rw [hm]
        intro ι1 H1 g1 r1 v rv
        obtain ⟨_, _, h3⟩ := h ι1 H1 g1 r1
        simp only [itKeys, em] at h3
        obtain ⟨a, h0, rfl⟩ := rv.ref
        obtain ⟨od, xs, q1, q2, q3, q4, q5⟩ := r1.cell n _ a em h0
        exact ⟨a, od, xs, rfl, q5, q1, h3 ι1 H1 .refl r1 _ (it_keysX r1 h0 q1 q2)⟩
      · refine .inr ⟨ρ, μ, ι, env, rel, ?_⟩
        rw [hm]
        intro ι1 H1 g1 r1 v rv
        obtain ⟨_, _, h3⟩ := h ι1 H1 g1 r1
        unfold itKeys at h3
        split at h3
        · rename_i n
          split at h3
          · rename_i t l em
            cases t with
            | true => exact (ht ⟨n, l, rfl, em⟩).elim
            | false =>
              obtain ⟨a, h0, rfl⟩ := rv.ref
              obtain ⟨od, kvs, q1, q2⟩ := r1.cell n _ a em h0
              exact ⟨a, od, rfl, .inl ⟨kvs, q1, h3 ι1 H1 .refl r1 _ (it_keysK h0 q1 (Paired.length q2))⟩⟩
          · exact h3.elim
        · exact h3.elim
end
/-! ### the lock -/
def lockC : Cell → Option Cell
  | .dic l => some (.lck false l)
  | .tdic l => some (.lck true l)
  | _ => none
/-- which cell slot i names, if it is to be locked -/
def toLock (i : Nat) (ρ : Rho) (μ : Mem) : Option (Nat × Cell × Cell) := match ρ[i]? with
  | some (some (.ref n)) => (match μ[n]? with
    | some c => (lockC c).map fun c' => (n, c, c')
    | none => none)
  | _ => none
def openF (n : Nat) (c : Cell) : Fl → Mem → Res Fl
  | .exc e fs ρ, μ => .ok (.exc e fs ρ) μ
  | f, μ => .ok f (μ.set n c)
@[simp] def sLock (i : Nat) (m : MS) : MS := fun ρ μ => match toLock i ρ μ with
  | some (n, c, c') => (m ρ (μ.set n c')).bind (openF n c)
  | none => m ρ μ
theorem lock_h {G : Gd} {ι : List Addr} {H : Hp} {c c' : Cell} {a : Addr} (h : CellOk G ι H a c) (e : lockC c = some c') : ∃ u, H a = some u ∧ Mut (some u) ∧ (∀ o v, u ≠ .frz o v) ∧ (∀ xs, u ≠ .tup xs) ∧ (∀ xs, u ≠ .lst xs) ∧
    (∀ od ι' H', Ext ι H ι' H' → H' a = some (.frz od u) → CellOk G ι' H' a c') ∧ ∀ ι' H', Ext ι H ι' H' → H' a = some u → CellOk G ι' H' a c := by
  cases c with
  | dic l =>
    cases e
    obtain ⟨kvs, h1, h2⟩ := h
    exact ⟨_, h1, trivial, fun _ _ z => (nomatch z), fun _ z => (nomatch z), fun _ z => (nomatch z), fun od ι' H' x q => ⟨od, kvs, q, Paired.imp' h2 fun _ _ z => ⟨z.1, z.2.ext x⟩⟩, fun ι' H' x q => ⟨kvs, q, Paired.imp' h2 fun _ _ z => ⟨z.1, z.2.ext x⟩⟩⟩
  | tdic l =>
    cases e
    obtain ⟨xs, h1, h2, h3⟩ := h
    exact ⟨_, h1, trivial, fun _ _ z => (nomatch z), fun _ z => (nomatch z), fun _ z => (nomatch z), fun od ι' H' x q => ⟨od, xs, q, Paired.imp' h2 fun _ _ z => ⟨z.1, z.2.1, z.2.2.1.ext x, let ⟨v, z1, z2⟩ := z.2.2.2; ⟨v, z1.ext x, z2⟩⟩, h3⟩,
      fun ι' H' x q => ⟨xs, q, Paired.imp' h2 fun _ _ z => ⟨z.1, z.2.1, z.2.2.1.ext x, let ⟨v, z1, z2⟩ := z.2.2.2; ⟨v, z1.ext x, z2⟩⟩, h3⟩⟩
  | _ => cases e
section
variable {G : Gd} {ι ι' : List Addr} {H H' : Hp} {μ μ' : Mem} {a : Addr} {n : Nat} {c c' : Cell} {u : HO} {od : Obj}
/-- a cell locked -/
theorem grow_lock (r : Rel G ι H μ) (em : μ[n]? = some c) (h0 : ι[n]? = some a) (hc : lockC c = some c') (hu : H a = some u) : Grow ι H ι (upd H a (.frz od u)) ∧ Rel G ι (upd H a (.frz od u)) (μ.set n c') := by
  obtain ⟨u', e, mu, n1, n2, n3, k1, k2⟩ := lock_h (r.cell n c a em h0) hc
  rw [hu] at e; cases e
  exact grow_set r h0 (fun o v z => by rw [hu] at z; cases z; exact n1 _ _ rfl) fun x => k1 od ι _ x upd_same
/-- .. and opened again -/
theorem grow_open (r : Rel G ι H μ) (em : μ[n]? = some c) (h0 : ι[n]? = some a) (hc : lockC c = some c') (hu : H a = some u) (g : Grow ι (upd H a (.frz od u)) ι' H') (r' : Rel G ι' H' μ') :
    H' a = some (.frz od u) ∧ Grow ι H ι' (upd H' a u) ∧ Rel G ι' (upd H' a u) (μ'.set n c) ∧ Ext ι' H' ι' (upd H' a u) := by
  obtain ⟨u', e, mu, n1, n2, n3, k1, k2⟩ := lock_h (r.cell n c a em h0) hc
  rw [hu] at e; cases e
  obtain ⟨gl, rl⟩ := grow_lock (od := od) r em h0 hc hu
  have e1 : H' a = some (.frz od u) := g.lock a _ _ upd_same
  have hm : a ∈ ι := List.mem_of_getElem? h0
  have h0' : ι'[n]? = some a := prefix_get g.pre h0
  have x1 : Ext ι' H' ι' (upd H' a u) := ⟨List.prefix_refl _, fun b xs z => by rw [upd_ne (fun q => by rw [q, e1] at z; cases z)]; exact z,
    fun b o v z q => by
      rw [upd_ne (fun w => ?_)]
      · exact z
      · rw [w, e1] at z
        cases z
        obtain ⟨xs, rfl | rfl⟩ := q
        · exact n3 xs rfl
        · exact n2 xs rfl⟩
  have g2 : Grow ι H ι' (upd H' a u) := by
    have gg := gl.trans g
    refine ⟨gg.pre, fun b o z na => ?_, gg.new, fun b o v z => ?_⟩
    · rw [upd_ne (fun q => na (by rw [q]; exact hm))]; exact gg.keep b o z na
    · rw [upd_ne (fun q => by rw [q, hu] at z; cases z; exact n1 _ _ rfl)]; exact gg.lock b o v z
  refine ⟨e1, g2, ⟨by simp [r'.len], r'.nd, fun i d b h1 h2 => ?_⟩, x1⟩
  have hn : n < μ'.length := by rw [← r'.len]; exact (List.getElem?_eq_some_iff.mp h0').1
  by_cases hi : n = i
  · subst hi
    rw [List.getElem?_set_self hn] at h1
    rw [h0'] at h2
    cases h1; cases h2
    exact k2 ι' _ (g2.ext r) upd_same
  · rw [List.getElem?_set_ne hi] at h1
    refine (r'.cell i d b h1 h2).ext x1 (upd_ne ?_)
    rintro rfl
    have hn' : n < ι'.length := (List.getElem?_eq_some_iff.mp h0').1
    have hi' : i < ι'.length := (List.getElem?_eq_some_iff.mp h2).1
    have e1 : ι'[n] = b := (List.getElem?_eq_some_iff.mp h0').2
    have e2 : ι'[i] = b := (List.getElem?_eq_some_iff.mp h2).2
    exact hi ((List.getElem_inj r'.nd).mp (e1.trans e2.symm))
end
theorem PS.or {X : Cx} {st : Stmt} {t t' : TS} (h : PS X st t) (h' : PS X st t') : PS X st fun D σ H => t D σ H ∨ t' D σ H := ⟨fun pins s σ H D I w => w.elim (h.run pins s σ H D I) (h'.run pins s σ H D I)⟩
theorem ss_lock {X : Cx} {W : WX} {st : Stmt} {i : Nat} {m : MS} (h : SS X W st m) : SS X W st (sLock i m) :=
  PS.mono (PS.or h (ps_lock h)) fun D σ H ⟨ρ, μ, ι, env, rel, h⟩ => by
    simp only [sLock] at h
    split at h
    · rename_i n c c' et
      refine .inr ?_
      unfold toLock at et
      split at et
      · rename_i n' er
        split at et
        · rename_i c0 em
          obtain ⟨c1, hc, e⟩ := Option.map_eq_some_iff.mp et
          cases e
          obtain ⟨v, _, rv⟩ := env.at_ i _ er
          obtain ⟨a, h0, rfl⟩ := rv.ref
          obtain ⟨u, hu, mu, _⟩ := lock_h (rel.cell _ _ a em h0) hc
          refine ⟨a, u, hu, mu, fun od => ?_⟩
          obtain ⟨gl, rl⟩ := grow_lock (od := od) rel em h0 hc hu
          refine ⟨ρ, _, ι, env.ext (gl.ext rel), rl, ?_⟩
          cases hr : m ρ (μ.set n c') with
          | stuck => rw [hr] at h; exact h.elim
          | exc e fs m => rw [hr] at h; exact h.elim
          | ok f μ2 =>
            rw [hr] at h
            intro ι2 H2 g2 r2
            obtain ⟨e1, g3, r3, x3⟩ := grow_open rel em h0 hc hu g2 r2
            cases f with
            | nx ρ' => exact fun σ' env' => ⟨e1, h ι2 _ g3 r3 σ' (env'.ext x3)⟩
            | brk ρ' => exact fun σ' env' => ⟨e1, h ι2 _ g3 r3 σ' (env'.ext x3)⟩
            | cnt ρ' => exact fun σ' env' => ⟨e1, h ι2 _ g3 r3 σ' (env'.ext x3)⟩
            | ret d => exact fun v rv => ⟨e1, h ι2 _ g3 r3 v (rv.ext x3)⟩
            | exc e fs ρ' => exact h ι2 H2 (gl.trans g2) r2
        · cases et
      · cases et
    · exact .inl ⟨ρ, μ, ι, env, rel, h⟩
end RW

/-! SEm: set(list of ints), sorted, min, max, sum, all, any, isinstance. -/
namespace RW
open PySem L2 PySem.Spec
open PyProof.Rows hiding St
/-- the object of a new set -/
abbrev oSet (w : World) : Obj := { cls := .type "set", dict := none, data := .set #[] 0 (.fresh 0 0 (!w.params.followText "set-order")) }
section
variable {P : Program} {w : World} {A : Around} {E : Value → Shared → Prop} {s : Shared}
set_option maxHeartbeats 3200000 in
theorem set_of_list {l : Addr} {us : Array Value} (ns : List Int) {Q : Value → Shared → Prop} (hh : A.handled = none) (hl : s.heap.IsList l us) (hit : IntsAre us.toList ns) (hb : ns.length + 1 < scanBound)
    (h : ∀ (h' : Heap) (tk c : Nat), SetR w h' s.heap.objs.size (fun j => decide (j ∈ ns)) c → c ≤ ns.length → (∀ b o, s.heap.get? b = some o → h'.get? b = some o) → Q (.ref s.heap.objs.size) { s with heap := h', toks := tk }) :
    wpAny (model P w) A (call (.type "set") [.ref l]) Q E s := by
  have hz : us.size = ns.length := by have q := IntsAre.length hit; rwa [Array.length_toList] at q
  obtain ⟨c, tl, hmro⟩ := F.called_set.mro
  have hA := F.called_set.made; have hB := F.called_set.sub
  refine wpAny_call (codeAny_of_tree (wpAny_pure ⟨Code.quiet_builtin _ (by decide +kernel), codeAny_builtin F.entry_type_call ?_⟩))
  rw [Around.under_plain (weight_type_call_type "set" [.ref l] []) rfl]
  have hC := F.called_set.notType; have hD := F.called_set.canCreate; have hE := F.typeCall_set_1 (.ref l)
  repeat (any_goals (first | assumption | wp_step))
  refine codeAny_mono (code_set_led1 (.ref l) (E := E) (Q₁ := fun ob t => ob = .ref s.heap.objs.size ∧ t = { s with heap := s.heap.push (oSet w) }) ⟨rfl, rfl⟩) fun r t hr => ?_
  match r, hr with
  | .error _, hr => exact hr
  | .ok (.ret ob), ⟨e1, e2⟩ =>
    subst e1 e2
    have hS : (s.heap.push (oSet w)).get? s.heap.objs.size = some (oSet w) := Heap.get?_push_size _ rfl
    have hT : Shared.TypeIs { s with heap := s.heap.push (oSet w) } (.ref s.heap.objs.size) "set" := ⟨_, hS, rfl⟩
    have hF := F.called_set.init.lookup; have hG := F.called_set.init.bind (.ref s.heap.objs.size)
    repeat (any_goals (first | assumption | wp_step))
    refine codeAny_mono (codeAny_call_builtin (R := wants (fun r t => r = .none ∧ ∃ h' tk c, t = { s with heap := h', toks := tk } ∧ SetR w h' s.heap.objs.size (fun j => decide (j ∈ ns)) c ∧ c ≤ ns.length ∧
        (∀ b o, s.heap.get? b = some o → h'.get? b = some o)) E) F.called_set.init.plain F.entry_set_init (check_set_init_1 hT ?_)) fun r₂ t₂ hr₂ => ?_
    · obtain ⟨⟨oc, od, dt, sl⟩, hol, hcl, nl, hdl⟩ := hl
      replace hcl : oc = .type "list" := hcl
      replace hdl : dt = .seq us nl := hdl
      subst hcl hdl
      have hol' : (s.heap.push (oSet w)).get? l = some { cls := .type "list", dict := od, data := .seq us nl, slots := sl } := Heap.get?_push_of_some _ hol
      have k1 := F.sub_list_set; have k2 := F.sub_list_frozenset
      have k3 : (Value.type "list" == Value.type "dict") = false := by decide
      have hl1 : (s.heap.push (oSet w)).IsList l us := ⟨_, hol', rfl, nl, rfl⟩
      unfold Builtin.«set.__init__» noKeywords Builtin.Frozenset.updateFrom
      generalize hPI : pyIter = PI
      wp_walk
      subst hPI
      refine wpAny_pyIter_list hl1 (wpAny_bind (wpAny_runValue ?_))
      have hlS : l < s.heap.objs.size := Heap.lt_size hol
      have zz : (s.heap.push (oSet w)).objs.size = s.heap.objs.size + 1 := Heap.size_push ..
      have n1 : l ≠ (s.heap.push (oSet w)).objs.size := by rw [zz]; exact Nat.ne_of_lt (Nat.lt_succ_of_lt hlS)
      have n2 : s.heap.objs.size ∉ [(s.heap.push (oSet w)).objs.size, l] := by
        rw [zz]; simp only [List.mem_cons, List.not_mem_nil, or_false, not_or]
        exact ⟨Nat.ne_of_lt (Nat.lt_succ_self _), Nat.ne_of_gt hlS⟩
      have hval : ∀ (i : Nat) (v : Value), us[i]? = some v → ∃ k t, ns[i]? = some k ∧ v = .int k t := fun i v hv => by
        have hi : i < ns.length := by rw [← hz]; exact (Array.getElem?_eq_some_iff.mp hv).1
        obtain ⟨t, e⟩ := IntsAre.int_at hit i v (by rw [Array.getElem?_toList]; exact hv)
        exact ⟨ns[i], t, List.getElem?_eq_getElem hi, by rw [e, List.getD_eq_getElem?_getD, List.getElem?_eq_getElem hi] <;> rfl⟩
      refine set_update_ints ((Walks.list (by simp [hh]) _ l n1 us).toS) s.heap.objs.size n2 ns hz hb hval (us.size - 0) 0 _ (by omega) (Nat.zero_le _) ⟨⟨_, Heap.get?_push_size _ rfl, rfl, rfl⟩, (hl1.push _)⟩ ⟨0, Nat.le_refl 0, setR_new_at (Heap.get?_push_of_some _ hS)⟩ ?_
      intro t' c' hm hc' hS'
      obtain ⟨h', g2, d', tk', os'⟩ := t'
      obtain rfl : g2 = s.gens := hm.gens
      obtain rfl : d' = s.drawn := hm.drawn
      obtain rfl : os' = s.os := hm.os
      rw [hz] at hc'
      refine wpAny_pure (wpAny_pure ⟨rfl, h', tk', c', rfl, hS', hc', fun b o e => ?_⟩)
      have lb : b < s.heap.objs.size := Heap.lt_size e
      refine hm.heap b o ?_ (Heap.get?_push_of_some _ (Heap.get?_push_of_some _ e))
      simp only [List.mem_cons, List.not_mem_nil, or_false, not_or]
      exact ⟨Nat.ne_of_lt lb, by rw [zz]; exact Nat.ne_of_lt (Nat.lt_succ_of_lt lb)⟩
    · match r₂, hr₂ with
      | .error _, hr₂ => exact hr₂
      | .ok (.ret _), ⟨e1, h', tk, c', e2, hS', hc', hk'⟩ =>
        subst e1 e2
        repeat (any_goals (first | assumption | wp_step))
        exact h _ _ _ hS' hc' hk'
end
/-! ### lists of ints -/
def toInts : List D → Option (List Int)
  | [] => some []
  | .int i :: l => (toInts l).map (i :: ·)
  | _ :: _ => none
theorem toInts_eq : ∀ {l : List D} {ns : List Int}, toInts l = some ns → l = ns.map D.int
  | [], ns, h => by cases h; rfl
  | .int i :: l, ns, h => by
    obtain ⟨r, e, rfl⟩ := Option.map_eq_some_iff.mp h
    rw [toInts_eq e]; rfl
  | .non :: _, _, h => nomatch h
  | .bl _ :: _, _, h => nomatch h
  | .str _ :: _, _, h => nomatch h
  | .tup _ :: _, _, h => nomatch h
  | .frl _ :: _, _, h => nomatch h
  | .ref _ :: _, _, h => nomatch h
  | .fn _ :: _, _, h => nomatch h
@[simp] theorem toInts_map : ∀ ns : List Int, toInts (ns.map D.int) = some ns
  | [] => rfl
  | n :: ns => by simp [toInts, toInts_map ns]
def insI (x : Int) : List Int → List Int
  | [] => [x]
  | y :: l => if x ≤ y then x :: y :: l else y :: insI x l
/-- sorted -/
def isort : List Int → List Int
  | [] => []
  | x :: l => insI x (isort l)
theorem insI_perm (x : Int) : ∀ l, (insI x l).Perm (x :: l)
  | [] => .refl _
  | y :: l => by
    unfold insI
    split
    · exact .refl _
    · exact ((insI_perm x l).cons y).trans (.swap _ _ _)
theorem isort_perm : ∀ l, (isort l).Perm l
  | [] => .refl _
  | x :: l => (insI_perm x _).trans ((isort_perm l).cons x)
theorem insI_sorted (x : Int) : ∀ l, l.Pairwise (· ≤ ·) → (insI x l).Pairwise (· ≤ ·)
  | [], _ => by simp [insI]
  | y :: l, h => by
    unfold insI
    split
    · rename_i hxy
      refine List.pairwise_cons.mpr ⟨fun z hz => ?_, h⟩
      rcases List.mem_cons.mp hz with e | hz
      · omega
      · have := (List.pairwise_cons.mp h).1 z hz; omega
    · rename_i hxy
      have hp := List.pairwise_cons.mp h
      refine List.pairwise_cons.mpr ⟨fun z hz => ?_, insI_sorted x l hp.2⟩
      rcases List.mem_cons.mp ((insI_perm x l).subset hz) with e | hz
      · omega
      · exact hp.1 z hz
theorem isort_sorted : ∀ l, (isort l).Pairwise (· ≤ ·)
  | [] => .nil
  | x :: l => insI_sorted x _ (isort_sorted l)
theorem isort_mem {x : Int} {l : List Int} : x ∈ isort l ↔ x ∈ l := (isort_perm l).mem_iff
theorem sorted_unique {l l' : List Int} (p : l.Perm l') (h : l.Pairwise (· ≤ ·)) (h' : l'.Pairwise (· ≤ ·)) : l = l' :=
  List.Perm.eq_of_pairwise (le := (· ≤ ·)) (fun a b _ _ h1 h2 => by omega) h h' p
/-- without what stands twice, sorted -/
def usort : List Int → List Int
  | [] => []
  | x :: l => if x ∈ l then usort l else insI x (usort l)
theorem usort_mem {x : Int} : ∀ {l : List Int}, x ∈ usort l ↔ x ∈ l
  | [] => Iff.rfl
  | y :: l => by
    unfold usort
    split
    · rename_i h
      rw [usort_mem (l := l), List.mem_cons]
      exact ⟨.inr, fun q => q.elim (fun e => e ▸ h) id⟩
    · rw [(insI_perm y _).mem_iff, List.mem_cons, List.mem_cons, usort_mem (l := l)]
theorem usort_sorted : ∀ l, (usort l).Pairwise (· < ·)
  | [] => .nil
  | y :: l => by
    unfold usort
    split
    · exact usort_sorted l
    · rename_i h
      have hn : (insI y (usort l)).Nodup := by
        rw [(insI_perm y _).nodup_iff, List.nodup_cons]
        exact ⟨fun q => h (usort_mem.mp q), (usort_sorted l).imp fun {a b} q e => by omega⟩
      have hs := insI_sorted y (usort l) ((usort_sorted l).imp fun {a b} q => by omega)
      exact (hs.and hn).imp fun {a b} q => by omega
theorem nodup_len {l l' : List Int} (h : l.Nodup) (h' : l'.Nodup) (e : ∀ x, x ∈ l ↔ x ∈ l') : l.length = l'.length :=
  ((List.perm_ext_iff_of_nodup h h').mpr e).length_eq
def minI : List Int → Int
  | [] => 0
  | [x] => x
  | x :: l => if minI l < x then minI l else x
def maxI : List Int → Int
  | [] => 0
  | [x] => x
  | x :: l => if x < maxI l then maxI l else x
theorem minI_spec : ∀ {l : List Int}, l ≠ [] → minI l ∈ l ∧ ∀ y ∈ l, minI l ≤ y
  | [x], _ => by simp [minI]
  | x :: y :: l, _ => by
    obtain ⟨h1, h2⟩ := minI_spec (l := y :: l) (by simp)
    rw [minI]
    · split
      · exact ⟨List.mem_cons_of_mem _ h1, fun z hz => (List.mem_cons.mp hz).elim (fun e => by omega) (h2 z)⟩
      · exact ⟨List.mem_cons_self, fun z hz => (List.mem_cons.mp hz).elim (fun e => by omega) (fun hz => by have := h2 z hz; omega)⟩
    · simp
theorem maxI_spec : ∀ {l : List Int}, l ≠ [] → maxI l ∈ l ∧ ∀ y ∈ l, y ≤ maxI l
  | [x], _ => by simp [maxI]
  | x :: y :: l, _ => by
    obtain ⟨h1, h2⟩ := maxI_spec (l := y :: l) (by simp)
    rw [maxI]
    · split
      · exact ⟨List.mem_cons_of_mem _ h1, fun z hz => (List.mem_cons.mp hz).elim (fun e => by omega) (h2 z)⟩
      · exact ⟨List.mem_cons_self, fun z hz => (List.mem_cons.mp hz).elim (fun e => by omega) (fun hz => by have := h2 z hz; omega)⟩
    · simp
/-- the ints of a list that lies in a cell, or of the script -/
def intsAt : D → Mem → Option (List Int)
  | .ref n, μ => (match μ[n]? with
    | some (.lst l) => toInts l
    | _ => none)
  | .frl l, _ => toInts l
  | _, _ => none
theorem intsAt_is {G : Gd} {ι : List Addr} {H : Hp} {μ : Mem} {d : D} {v : V} {ns : List Int} (r : Rel G ι H μ) (rv : Rep G ι H d v) (e : intsAt d μ = some ns) : ∃ a, v = .ref a ∧ SqL G.K H a (ns.map V.int) := by
  unfold intsAt at e
  split at e
  · split at e
    · rename_i l em
      obtain ⟨a, vs, rfl, h0, h1, h2⟩ := r.lst em rv
      have q := toInts_eq e
      subst q
      obtain rfl := h2.ints
      exact ⟨a, rfl, .of h1⟩
    · cases e
  · obtain ⟨a, vs, rfl, h1, h2⟩ := rv.frl
    have q := toInts_eq e
    subst q
    obtain rfl := h2.ints
    exact ⟨a, rfl, FrL.sq _ _ h1⟩
  · cases e
def minLL : List D → Mem → Res D
  | [d], μ => (match intsAt d μ with
    | some (x :: ns) => .ok (.int (minI (x :: ns))) μ
    | _ => .stuck)
  | _, _ => .stuck
def maxLL : List D → Mem → Res D
  | [d], μ => (match intsAt d μ with
    | some (x :: ns) => .ok (.int (maxI (x :: ns))) μ
    | _ => .stuck)
  | _, _ => .stuck
def sumL : List D → Mem → Res D
  | [d], μ => (match intsAt d μ with
    | some ns => .ok (.int ns.sum) μ
    | _ => .stuck)
  | _, _ => .stuck
theorem snd_minLL {G : Gd} : SndL G (rMin G.K) minLL := fun ι H μ xs vs W σ Q r rxs h => by
  unfold minLL at h
  split at h
  · split at h
    · rename_i d _ x ns e
      obtain ⟨v, rfl, rv⟩ := rxs.one
      obtain ⟨a, rfl, h1⟩ := intsAt_is r rv e
      obtain ⟨m1, m2⟩ := minI_spec (l := x :: ns) (by simp)
      refine ⟨a, x :: ns, rfl, h1, by simp, fun m q1 q2 => ?_⟩
      have e2 : m = minI (x :: ns) := by have := m2 m q1; have := q2 _ m1; omega
      subst e2
      exact h ι H .refl r _ (rep_int _)
    · exact h.elim
  · exact h.elim
theorem snd_maxLL {G : Gd} : SndL G (rMax G.K) maxLL := fun ι H μ xs vs W σ Q r rxs h => by
  unfold maxLL at h
  split at h
  · split at h
    · rename_i d _ x ns e
      obtain ⟨v, rfl, rv⟩ := rxs.one
      obtain ⟨a, rfl, h1⟩ := intsAt_is r rv e
      obtain ⟨m1, m2⟩ := maxI_spec (l := x :: ns) (by simp)
      refine ⟨a, x :: ns, rfl, h1, by simp, fun m q1 q2 => ?_⟩
      have e2 : m = maxI (x :: ns) := by have := m2 m q1; have := q2 _ m1; omega
      subst e2
      exact h ι H .refl r _ (rep_int _)
    · exact h.elim
  · exact h.elim
theorem snd_sum {G : Gd} : SndL G (rSum G.K) sumL := fun ι H μ xs vs W σ Q r rxs h => by
  unfold sumL at h
  split at h
  · split at h
    · rename_i d _ ns e
      obtain ⟨v, rfl, rv⟩ := rxs.one
      obtain ⟨a, rfl, h1⟩ := intsAt_is r rv e
      exact ⟨a, ns, rfl, h1, h ι H .refl r _ (rep_int _)⟩
    · exact h.elim
  · exact h.elim
/-! ### sets of ints, sorted -/
def setL : List D → Mem → Res D
  | [d], μ => (match intsAt d μ with
    | some ns => if ns.length ≤ 4000 then .ok (.ref μ.length) (μ ++ [.iset (usort ns)]) else .stuck
    | _ => .stuck)
  | _, _ => .stuck
def rSetOfL (G : Gd) : List V → Hp → VK → Prop := fun xs H Q => ∃ (a : Addr) (ns : List Int), xs = [.ref a] ∧ SqL G.K H a (ns.map V.int) ∧ ns.length ≤ 4000 ∧ ∀ p, H p = none → Q (.ref p) (upd H p (SetO G.w p (fun i => decide (i ∈ usort ns)) (usort ns).length))
theorem cr_setOfL {X : Cx} (hc : X.calm = true) : CallR X (.type "set") (rSetOfL (gOf X)) := by
  intro pins s σ H xs us Q I r h
  obtain ⟨a, ns, rfl, hs, h4, q⟩ := h
  obtain ⟨its, rv, hl, _⟩ := I.list hs
  rw [Vals.ref1 r]
  refine set_of_list ns (I.ok.hd hc) hl.isList (by simpa using rv.ints) (by unfold scanBound; omega) fun h' tk c R hcn hk => ?_
  have e1 : (fun j => decide (j ∈ ns)) = fun j => decide (j ∈ usort ns) := funext fun j => by rw [decide_eq_decide]; exact usort_mem.symm
  have e2 : c = (usort ns).length := by
    obtain ⟨o, es, ep, t, _, _, _, _, nd, hm, _, _, hn, _⟩ := R
    rw [← hn, ← Array.length_toList, ← List.length_map]
    refine nodup_len nd ((usort_sorted ns).imp fun {a b} q e => by omega) fun x => ?_
    rw [← hm x, usort_mem]; simp
  rw [e1, e2] at R
  exact ⟨.ref _, _, I.laid (t' := tk) hk (Nat.le_refl _) (setO_new (P := X.prog) R), rfl, q _ (I.hok.fresh (Nat.le_refl _))⟩
theorem snd_setOf {G : Gd} : SndL G (rSetOfL G) setL := fun ι H μ xs vs W σ Q r rxs h => by
  unfold setL at h
  split at h
  · split at h
    · rename_i d _ ns e
      split at h
      · rename_i h4
        obtain ⟨v, rfl, rv⟩ := rxs.one
        obtain ⟨a, rfl, h1⟩ := intsAt_is r rv e
        refine ⟨a, ns, rfl, h1, h4, fun p hp => ?_⟩
        obtain ⟨g2, r2⟩ := grow_cell (o := SetO G.w p (fun i => decide (i ∈ usort ns)) (usort ns).length) (c := .iset (usort ns)) r hp fun x => ⟨upd_same, usort_sorted ns⟩
        exact h _ _ g2 r2 (.ref p) (rep_new (r := r))
      · exact h.elim
    · exact h.elim
  · exact h.elim
def sortedL : List D → Mem → Res D
  | [d], μ => (match d with
    | .ref n => (match μ[n]? with
      | some (.iset l) => if l.length < 64 then .ok (.ref μ.length) (μ ++ [.lst (l.map D.int)]) else .stuck
      | _ => (match intsAt d μ with
        | some ns => .ok (.ref μ.length) (μ ++ [.lst ((isort ns).map D.int)])
        | none => .stuck))
    | _ => (match intsAt d μ with
      | some ns => .ok (.ref μ.length) (μ ++ [.lst ((isort ns).map D.int)])
      | none => .stuck))
  | _, _ => .stuck
def rSortedA (G : Gd) : List V → Hp → VK → Prop := fun xs H Q => rSortedI G.K xs H Q ∨ rSortedSet G.w xs H Q
theorem cr_sortedA {X : Cx} (hc : X.calm = true) : CallR X (.builtin "sorted") (rSortedA (gOf X)) := CallR.or cr_sortedI (cr_sortedSet hc)
theorem snd_sorted {G : Gd} : SndL G (rSortedA G) sortedL := fun ι H μ xs vs W σ Q r rxs h => by
  have key : ∀ {d : D} {ns : List Int}, xs = [d] → intsAt d μ = some ns → Post G ι H W σ (.ok (D.ref μ.length) (μ ++ [.lst ((isort ns).map D.int)])) (fun ι' H' _ d => ∀ v, Rep G ι' H' d v → Q v H') → rSortedA G vs H Q := fun {d ns} ex e k => by
    subst ex
    obtain ⟨v, rfl, rv⟩ := rxs.one
    obtain ⟨a, rfl, h1⟩ := intsAt_is r rv e
    refine .inl ⟨a, ns, rfl, h1, fun ns' p hp hs => ?_⟩
    obtain rfl : ns' = isort ns := sorted_unique (hp.trans (isort_perm ns).symm) hs (isort_sorted ns)
    exact new_lst r (.of_ints _) k p
  unfold sortedL at h
  split at h
  · rename_i d
    split at h
    · rename_i n
      split at h
      · rename_i l em
        split at h
        · rename_i h6
          obtain ⟨v, rfl, rv⟩ := rxs.one
          obtain ⟨a, h0, rfl⟩ := rv.ref
          obtain ⟨h1, h2⟩ := r.cell n _ a em h0
          refine .inr ⟨a, _, _, rfl, h1, h6, fun ns p hs hm hl hp => ?_⟩
          have e : ns = l := by
            have nd : ∀ {l : List Int}, l.Pairwise (· < ·) → l.Nodup := fun h => h.imp fun {a b} q e => by omega
            refine sorted_unique ((List.perm_ext_iff_of_nodup (nd hs) (nd h2)).mpr fun x => ?_) (hs.imp fun {a b} q => by omega) (h2.imp fun {a b} q => by omega)
            rw [hm]; simp
          subst e
          exact new_lst r (.of_ints _) h p hp
        · exact h.elim
      · split at h
        · rename_i e; exact key rfl e h
        · exact h.elim
    · split at h
      · rename_i e; exact key rfl e h
      · exact h.elim
  · exact h.elim
end RW

/-! SEn: isinstance, all, any. -/
namespace RW
open PySem L2
def tyD : D → Mem → Option String
  | .non, _ => some "NoneType"
  | .bl _, _ => some "bool"
  | .int _, _ => some "int"
  | .str _, _ => some "str"
  | .tup _, _ => some "tuple"
  | .frl _, _ => some "list"
  | .ref n, μ => (match μ[n]? with
    | some (.lst _) => some "list"
    | some (.dic _) => some "dict"
    | some (.lck false _) => some "dict"
    | _ => none)
  | .fn _, _ => none
/-- a kind of one of the types below -/
def subT (a b : String) : Bool := a == b || (a == "bool" && b == "int")
def isT1 (c : String) : D → Mem → Res D := fun d μ => match tyD d μ with
  | some t => .ok (.bl (subT t c)) μ
  | none => .stuck
def isT2 (c c2 : String) : D → Mem → Res D := fun d μ => match tyD d μ with
  | some t => .ok (.bl (subT t c || subT t c2)) μ
  | none => .stuck
theorem kitB_tab : (["NoneType", "bool", "int", "str", "tuple", "list", "dict"].all fun a => ["bool", "int", "str", "tuple", "list", "dict"].all fun b => kitB a b == some (subT a b)) = true := by decide +kernel
theorem kitB_is {d : D} {μ : Mem} {t c : String} (h : tyD d μ = some t) (hc : c ∈ ["bool", "int", "str", "tuple", "list", "dict"]) : kitB t c = some (subT t c) := by
  have q := kitB_tab
  rw [List.all_eq_true] at q
  have ht : t ∈ ["NoneType", "bool", "int", "str", "tuple", "list", "dict"] := by
    unfold tyD at h
    split at h <;> first | (cases h; simp; done) | (split at h <;> first | (cases h; simp; done) | cases h) | cases h
  have q2 := q t ht
  rw [List.all_eq_true] at q2
  exact eq_of_beq (q2 c hc)
theorem tyX_of {G : Gd} {ι : List Addr} {H : Hp} {μ : Mem} {d : D} {v : V} {t : String} (r : Rel G ι H μ) (rv : Rep G ι H d v) (h : tyD d μ = some t) : TyX G.K H v (.type t) := by
  cases d with
  | non => cases h; rw [rv.non]; exact .base .non
  | bl b => cases h; rw [rv.bl]; exact .base (.bl b)
  | int i => cases h; rw [rv.int]; exact .base (.int i)
  | str x => cases h; rw [rv.str]; exact .base (.str x)
  | tup l =>
    cases h
    obtain ⟨a, vs, rfl, h1, _⟩ := rv.tup
    rcases h1 with (h1 | ⟨o, h1⟩) | ⟨o, its, n, h1, h2, _⟩
    · exact .base (.tup h1)
    · exact .fTuple h1
    · exact .kTuple h1 h2
  | frl l =>
    cases h
    obtain ⟨a, vs, rfl, h1, _⟩ := rv.frl
    rcases h1 with ⟨o, h1⟩ | ⟨o, its, n, h1, h2, _⟩
    · exact .base (.frz h1)
    · exact .kList h1 h2
  | fn x => cases h
  | ref n =>
    obtain ⟨a, h0, rfl⟩ := rv.ref
    simp only [tyD] at h
    split at h
    · rename_i l em
      cases h
      obtain ⟨vs, h1, _⟩ := r.cell n _ a em h0
      exact .base (.lst h1)
    · rename_i l em
      cases h
      obtain ⟨vs, h1, _⟩ := r.cell n _ a em h0
      exact .base (.dK h1)
    · rename_i l em
      cases h
      obtain ⟨o, vs, h1, _⟩ := r.cell n _ a em h0
      exact .fDict h1
    · cases h
section
variable {X : Cx} {W : WX} {e : Expr} {me : MD} {p p1 p2 tp pos : Pos} {c c2 : Str} {k : Nat}
theorem se_isi1 {t : String} (hg : Gl X "isinstance") (hm : X.mg "isinstance" = none) (he : SE X W e me) (hgc : Gl X c) (hmc : X.mg c = none) (hv : bootBuiltins c = some (.type t)) (ht : t ∈ ["bool", "int", "str", "tuple", "list", "dict"]) (hn : c ≠ "__name__" := by decide) (hd : (c == ("__debug__" : Str)) = false := by decide)
    (h1 : starEach [e, .Name c p1] X.env = (false, eval e X.env) :: starEach [.Name c p1] X.env := by rfl) (h2 : starEach [.Name c p1] X.env = (false, eval (.Name c p1) X.env) :: starEach [] X.env := by rfl)
    (hpl : (backTo pos (starEach [.Name c p1] X.env)).any (·.1) = false := by rfl) : SE X W (.Call (.Name "isinstance" p) [e, .Name c p1] [] pos) (mUn (isT1 t) me) :=
  PE.mono (pe_callB call_isi hg hm PyProof.Rows.boot_isinstance (pa_cons he (pa_cons (pe_bltn (v := .ty t) hgc hmc hv rfl hn hd) pa_nil h2) h1) (by decide) (by decide) h1 hpl) fun σ H Q ⟨ρ, μ, ι, env, rel, h⟩ =>
    ⟨ρ, μ, ι, env, rel, (Post.bind h).imp fun ι1 H1 μ1 x _ _ ⟨g1, r1, h1⟩ v rv => by
      simp only [isT1] at h1
      split at h1
      · rename_i t' et
        exact ⟨v, .ty t, _, _, _, rfl, .ty t, tyX_of r1 rv et, kit_ty (kitB_is et ht), h1 ι1 H1 .refl r1 _ (rep_bl _)⟩
      · exact h1.elim⟩
theorem se_isi2 {t t2 : String} (hg : Gl X "isinstance") (hm : X.mg "isinstance" = none) (he : SE X W e me) (hgc : Gl X c) (hmc : X.mg c = none) (hv : bootBuiltins c = some (.type t)) (ht : t ∈ ["bool", "int", "str", "tuple", "list", "dict"])
    (hgd : Gl X c2) (hmd : X.mg c2 = none) (hv2 : bootBuiltins c2 = some (.type t2)) (ht2 : t2 ∈ ["bool", "int", "str", "tuple", "list", "dict"]) (hn : c ≠ "__name__" := by decide) (hd : (c == ("__debug__" : Str)) = false := by decide) (hn2 : c2 ≠ "__name__" := by decide) (hd2 : (c2 == ("__debug__" : Str)) = false := by decide)
    (h1 : starEach [e, .Tuple [.Name c p1, .Name c2 p2] k tp] X.env = (false, eval e X.env) :: starEach [.Tuple [.Name c p1, .Name c2 p2] k tp] X.env := by rfl)
    (h2 : starEach [.Tuple [.Name c p1, .Name c2 p2] k tp] X.env = (false, eval (.Tuple [.Name c p1, .Name c2 p2] k tp) X.env) :: starEach [] X.env := by rfl)
    (h3 : starEach [.Name c p1, .Name c2 p2] X.env = (false, eval (.Name c p1) X.env) :: starEach [.Name c2 p2] X.env := by rfl) (h4 : starEach [.Name c2 p2] X.env = (false, eval (.Name c2 p2) X.env) :: starEach [] X.env := by rfl)
    (hpl : (backTo pos (starEach [.Tuple [.Name c p1, .Name c2 p2] k tp] X.env)).any (·.1) = false := by rfl) : SE X W (.Call (.Name "isinstance" p) [e, .Tuple [.Name c p1, .Name c2 p2] k tp] [] pos) (mUn (isT2 t t2) me) :=
  PE.mono (pe_callB call_isiT hg hm PyProof.Rows.boot_isinstance (pa_cons he (pa_cons (pe_tup (pa_cons (pe_bltn (v := .ty t) hgc hmc hv rfl hn hd) (pa_cons (pe_bltn (v := .ty t2) hgd hmd hv2 rfl hn2 hd2) pa_nil h4) h3)) pa_nil h2) h1) (by decide) (by decide) h1 hpl) fun σ H Q ⟨ρ, μ, ι, env, rel, h⟩ =>
    ⟨ρ, μ, ι, env, rel, (Post.bind h).imp fun ι1 H1 μ1 x _ _ ⟨g1, r1, h1⟩ v rv => by
      simp only [isT2] at h1
      split at h1
      · rename_i t' et
        refine ⟨by show 2 ≤ sizeLine; decide, fun q hq => ?_⟩
        obtain ⟨g2, r2⟩ := grow_laid (o := .tup [.ty t, .ty t2]) r1 hq
        refine ⟨v, q, _, .type t', [.type t, .type t2], subT t' t || subT t' t2, rfl, upd_same, .cons (.ty t) (.cons (.ty t2) .nil), tyX_of r2 (rv.ext (g2.ext r1)) et, ?_, h1 ι1 _ g2 r2 _ (rep_bl _)⟩
        refine kitAny_cons (kit_ty (kitB_is et ht)) (fun e => ?_) (fun e => by rw [e]; rfl)
        refine kitAny_cons (kit_ty (kitB_is et ht2)) (fun e2 => ?_) (fun e2 => by rw [e2, Bool.or_true])
        rw [e, e2]; rfl
      · exact h1.elim⟩
end
end RW

/-! SEo: what a law's own text needs: defs together, the law's promise. -/
namespace RW
open PySem L2
def iaddD : D → D → Mem → Res D
  | .int i, .int j, μ => .ok (.int (i + j)) μ
  | _, _, _ => .stuck
theorem snd_iadd {G : Gd} : Snd2 G (rI0 fun i j => .int (i + j)) iaddD := snd_int fun x y μ => by cases x <;> cases y <;> rfl
def stuckS : Sem := fun _ _ => .stuck
/-- as s, where it doesn't raise -/
def noX (s : Sem) : Sem := fun ds μ => match s ds μ with
  | .ok d m => .ok d m
  | _ => .stuck
section
variable {P : Program} {w : World} {K : PySem.W.Frag} {mg : Str → Option Value} {base : Heap} {f : Addr} {fd : FuncData} {ps : List Str} {k n : Nat} {sem : Sem} {x c : Str}
theorem fn_stuck (h : ps.length = n) : FnG P w K mg base (L2.CX P w) k f fd ps (spM ⟨P, w, K, mg⟩ n stuckS) :=
  ⟨fun vs H Q E q => (spM_len q).trans h.symm, fun A outer s H args us vs Q E hr he hb hv ⟨ds, μ, ι, _, _, _, q⟩ => q.elim⟩
theorem fn_noX (F : FnG P w K mg base (L2.CX P w) k f fd ps (spM ⟨P, w, K, mg⟩ n sem)) : FnG P w K mg base (L2.CX P w) k f fd ps (spM ⟨P, w, K, mg⟩ n (noX sem)) :=
  F.less fun vs H Q E ⟨ds, μ, ι, h1, h2, h3, h4⟩ => ⟨ds, μ, ι, h1, h2, h3, by
    unfold noX at h4
    split at h4
    · rename_i e; rw [e]; exact h4
    · exact h4.elim⟩
theorem noX_noX (ds : List D) (μ : Mem) : (∃ d m, noX sem ds μ = .ok d m) ∨ noX sem ds μ = .stuck := by
  unfold noX
  split
  · exact .inl ⟨_, _, rfl⟩
  · exact .inr rfl
/-- a class with an own __init__ of n arguments -/
def Mks (G : Gd) (base : Heap) (c : Str) (k n : Nat) (sem : Sem) : Prop := ∃ (C f : Addr) (fd : FuncData) (ps : List Str), G.mg c = some (.ref C) ∧ Mk G.K C f ∧ Binds G.K fd ps [] ∧ FnG G.P G.w G.K G.mg base (L2.CX G.P G.w) k f fd ps (spM G (n + 1) (noX sem))
theorem Fn.le {G : Gd} {j : Nat} (F : Fn G base x j n sem) (h : j ≤ k) : Fn G base x k n sem := by
  obtain ⟨f, fd, ps, h1, h2, h3, h4⟩ := F
  exact ⟨f, fd, ps, h1, h2, h3, h4.le h⟩
end
section
variable {X : Cx} {W : WX} {k n j : Nat} {sem : Sem} {c : Str} {p pos : Pos} {e : Expr} {es : List Expr} {ms : ML}
theorem se_mks (M : Mks (gOf X) X.base c j n sem) (hr : RoomG k X.A) (hj : j + 1 ≤ k) (hg : Gl X c) (ha : SA X W (e :: es) ms) (hn : ∀ ρ μ ds μ', ms ρ μ = .ok ds μ' → ds.length = n) (hdb : (c == ("__debug__" : Str)) = false := by decide)
    (he : starEach (e :: es) X.env = (false, eval e X.env) :: starEach es X.env := by rfl) (hpl : (backTo pos (starEach es X.env)).any (·.1) = false := by rfl) : SE X W (.Call (.Name c p) (e :: es) [] pos) (mMake c (noX sem) ms) := by
  obtain ⟨C, f, fd, ps, h1, h2, h3, h4⟩ := M
  exact se_make h2 h4 hr hj hg h1 h3 noX_noX ha hn hdb he hpl
theorem se_stuck {e : Expr} : SE X W e (fun _ _ => .stuck) := ⟨fun pins s σ H Q I ⟨ρ, μ, ι, env, rel, h⟩ => h.elim⟩
theorem ss_stuck {st : Stmt} : SS X W st (fun _ _ => .stuck) := ⟨fun pins s σ H D I ⟨ρ, μ, ι, env, rel, h⟩ => h.elim⟩
end
/-- a list that nobody changes, by the written part alone -/
def FrL0 (K : PySem.W.Frag) (H : Hp) (a : Addr) (vs : List V) : Prop := (∃ o, H a = some (.frz o (.lst vs))) ∨
  ∃ (o : Obj) (its : Array Value) (n : Nat), K.lookup a = some o ∧ o.cls = .type "list" ∧ o.dict = none ∧ o.data = .seq its n ∧ its.size ≤ sizeLine ∧ Vals vs its.toList
/-- the law's own promise -/
def spLaw (K : PySem.W.Frag) : Sp := fun vs H Q _ => ∃ (a : Addr) (ns : List Int), vs = [.ref a] ∧ FrL0 K H a (ns.map V.int) ∧ ns.length ≤ 63 ∧ ∀ H', Q (.bl true) H'
theorem law_sp {G : Gd} {m : Sem} (h : ∀ ns : List Int, ns.length ≤ 63 → ∃ μ, m [.frl (ns.map D.int)] [] = .ok (.bl true) μ) {vs : List V} {H : Hp} {Q : VK} {E : XK} (q : spLaw G.K vs H Q E) : spM G 1 m vs H Q E := by
  obtain ⟨a, ns, rfl, h1, h2, h3⟩ := q
  obtain ⟨μ, e⟩ := h ns h2
  refine ⟨[.frl (ns.map D.int)], [], [], .cons ?_ .nil, rfl, ⟨rfl, List.nodup_nil, fun i c a e _ => by simp at e⟩, ?_⟩
  · unfold Rep
    exact ⟨a, _, rfl, h1, .of_ints ns⟩
  · rw [e]
    intro ι' H' g r v rv
    rw [rv.bl]
    exact h3 H'
theorem only_frl {K : PySem.W.Frag} {H : Hp} {a : Addr} {vs : List V} (o : Only H) (h : SqL K H a vs) : FrL0 K H a vs := by
  rcases h with (h | ⟨od, h⟩) | h
  · rcases o a with z | ⟨od, xs, z⟩
    · rw [h] at z; cases z
    · rw [h] at z; cases z
  · exact .inl ⟨od, h⟩
  · exact .inr h
end RW

/-! SEp: plain laws of mirrors. -/
namespace RW
open PySem L2
/-- r ends well, with P -/
def Ok {α : Type} (r : Res α) (P : α → Mem → Prop) : Prop := ∃ a μ, r = .ok a μ ∧ P a μ
section
variable {α β : Type} {r : Res α} {P P' : α → Mem → Prop} {Q : β → Mem → Prop} {f : α → Mem → Res β}
theorem Ok.mk {a : α} {μ : Mem} (e : r = .ok a μ) (h : P a μ) : Ok r P := ⟨a, μ, e, h⟩
theorem Ok.pure {a : α} {μ : Mem} (h : P a μ) : Ok (.ok a μ) P := ⟨a, μ, rfl, h⟩
theorem Ok.imp (h : Ok r P) (k : ∀ a μ, P a μ → P' a μ) : Ok r P' := let ⟨a, μ, e, p⟩ := h; ⟨a, μ, e, k a μ p⟩
theorem Ok.bind (h : Ok r P) (k : ∀ a μ, P a μ → Ok (f a μ) Q) : Ok (r.bind f) Q := by
  obtain ⟨a, μ, e, p⟩ := h
  subst e
  exact k a μ p
theorem Ok.pureE (h : Ok r P) (k : ∀ a μ, P a μ → Ok (f a μ) Q) : Ok (pureE r f) Q := by
  obtain ⟨a, μ, e, p⟩ := h
  subst e
  exact k a μ p
theorem Ok.onE {ρ : Rho} {f : α → Mem → Res Fl} {Q : Fl → Mem → Prop} (h : Ok r P) (k : ∀ a μ, P a μ → Ok (f a μ) Q) : Ok (onE r ρ f) Q := by
  obtain ⟨a, μ, e, p⟩ := h
  subst e
  exact k a μ p
end
/-! ### memory -/
/-- but for ex, the cells there were stay -/
def Keep (ex : List Nat) (μ μ' : Mem) : Prop := μ.length ≤ μ'.length ∧ ∀ i, i < μ.length → i ∉ ex → μ'[i]? = μ[i]?
section
variable {ex ex' : List Nat} {μ μ' μ2 : Mem} {i n : Nat} {c : Cell}
theorem Keep.refl : Keep ex μ μ := ⟨Nat.le_refl _, fun _ _ _ => rfl⟩
theorem Keep.trans (h : Keep ex μ μ') (h' : Keep ex μ' μ2) : Keep ex μ μ2 :=
  ⟨Nat.le_trans h.1 h'.1, fun i hi hn => (h'.2 i (Nat.lt_of_lt_of_le hi h.1) hn).trans (h.2 i hi hn)⟩
theorem Keep.mono (h : Keep ex μ μ') (s : ∀ i ∈ ex, i ∈ ex' ∨ μ.length ≤ i) : Keep ex' μ μ' :=
  ⟨h.1, fun i hi hn => h.2 i hi fun z => (s i z).elim hn fun q => by omega⟩
theorem at_lt (h : μ[i]? = some c) : i < μ.length := (List.getElem?_eq_some_iff.mp h).1
theorem Keep.get (h : Keep ex μ μ') (e : μ[i]? = some c) (hn : i ∉ ex) : μ'[i]? = some c := (h.2 i (at_lt e) hn).trans e
theorem Keep.app {cs : List Cell} : Keep ex μ (μ ++ cs) := ⟨by simp, fun i hi _ => List.getElem?_append_left hi⟩
theorem Keep.set (h : n ∈ ex) : Keep ex μ (μ.set n c) := ⟨by simp, fun i hi hn => List.getElem?_set_ne (by rintro rfl; exact hn h)⟩
theorem app_at {cs : List Cell} (e : μ[i]? = some c) : (μ ++ cs)[i]? = some c := (List.getElem?_append_left (at_lt e)).trans e
theorem app_new : (μ ++ [c])[μ.length]? = some c := by simp
theorem set_at (e : n < μ.length) : (μ.set n c)[n]? = some c := List.getElem?_set_self e
theorem set_ne' (h : n ≠ i) : (μ.set n c)[i]? = μ[i]? := List.getElem?_set_ne h
end
/-! ### a[i], a[i] = x -/
section
variable {μ : Mem} {n : Nat} {l : List D} {i : Int} {d x : D}
theorem ixN_pos {k : Nat} (h0 : 0 ≤ i) (h1 : i < k) : ixN k i = some i.toNat := by unfold ixN; rw [if_pos h0, if_pos h1]
theorem atI_pos {α : Type} {l : List α} {d : α} (h0 : 0 ≤ i) (e : l[i.toNat]? = some d) : atI l i = some d := by
  have h1 := (List.getElem?_eq_some_iff.mp e).1
  unfold atI
  rw [ixN_pos h0 (by omega)]
  exact e
theorem ix_lst (h : μ[n]? = some (.lst l)) (h0 : 0 ≤ i) (e : l[i.toNat]? = some d) : idxA (.ref n) (.int i) μ = .ok d μ := by
  simp only [idxA, h, idxD, atI_pos h0 e]
theorem ix_tup (h0 : 0 ≤ i) (e : l[i.toNat]? = some d) : idxA (.tup l) (.int i) μ = .ok d μ := by
  simp only [idxA, idxD, atI_pos h0 e]
theorem set_lst' (h : μ[n]? = some (.lst l)) (h0 : 0 ≤ i) (h1 : i < l.length) : setDD (.ref n) (.int i) d μ = .ok () (μ.set n (.lst (l.set i.toNat d))) := by
  simp only [setDD, h, setLD, ixN_pos h0 h1]
end
/-! ### loops -/
theorem forL_ok {chk : Mem → Prop} {g : MG} {body : MS} : ∀ (items : List D) (I : Nat → Rho → Mem → Prop) (k : Nat) {ρ : Rho} {μ : Mem}, I k ρ μ →
    (∀ i ρ μ, I i ρ μ → chk μ) → (∀ i d ρ μ, items[i]? = some d → I (k + i) ρ μ → Ok (g d ρ μ) fun ρ1 μ1 => Ok (body ρ1 μ1) fun f μ2 => ∃ ρ2, (f = .nx ρ2 ∨ f = .cnt ρ2) ∧ I (k + i + 1) ρ2 μ2) →
    Ok (forL chk g body items ρ μ) fun f μ' => ∃ ρ', f = .nx ρ' ∧ I (k + items.length) ρ' μ'
  | [], I, k, ρ, μ, h0, hc, hs => by
    unfold forL
    rw [if_pos (hc _ _ _ h0)]
    exact .pure ⟨ρ, rfl, h0⟩
  | d :: ds, I, k, ρ, μ, h0, hc, hs => by
    unfold forL
    rw [if_pos (hc _ _ _ h0)]
    refine (hs 0 d ρ μ rfl h0).pureE fun ρ1 μ1 h1 => h1.bind fun f μ2 ⟨ρ2, hf, h2⟩ => ?_
    have ih := forL_ok ds I (k + 1) h2 hc fun i d ρ μ e h => by
      have := hs (i + 1) d ρ μ (by simpa using e) (by rw [show k + (i + 1) = k + 1 + i by omega]; exact h)
      rw [show k + (i + 1) + 1 = k + 1 + i + 1 by omega] at this
      exact this
    rw [show k + 1 + ds.length = k + (d :: ds).length by simp; omega] at ih
    rcases hf with rfl | rfl
    · exact ih
    · exact ih
/-- as forL_ok, where the body may return -/
theorem compL_ok {chk : Mem → Prop} {g : MG} {tt : MB} {te : MD} {ρ0 : Rho} : ∀ (items : List D) (I : Nat → List D → Mem → Prop) (k : Nat) {acc : List D} {μ : Mem}, I k acc μ →
    (∀ i acc μ, I i acc μ → chk μ) →
    (∀ i d acc μ, items[i]? = some d → I (k + i) acc μ → Ok (g d ρ0 μ) fun ρ1 μ1 => Ok (tt ρ1 μ1) fun b μ2 => if b = true then (acc.length < sizeLine ∧ Ok (te ρ1 μ2) fun y μ3 => I (k + i + 1) (acc ++ [y]) μ3) else I (k + i + 1) acc μ2) →
    Ok (compL chk g tt te ρ0 items acc μ) fun l μ' => I (k + items.length) l μ'
  | [], I, k, acc, μ, h0, hc, hs => by
    unfold compL
    rw [if_pos (hc _ _ _ h0)]
    exact .pure h0
  | d :: ds, I, k, acc, μ, h0, hc, hs => by
    unfold compL
    rw [if_pos (hc _ _ _ h0)]
    have step : ∀ {acc μ}, I (k + 1) acc μ → Ok (compL chk g tt te ρ0 ds acc μ) fun l μ' => I (k + (d :: ds).length) l μ' := fun {acc μ} h => by
      have ih := compL_ok ds I (k + 1) h hc fun i d acc μ e h => by
        have := hs (i + 1) d acc μ (by simpa using e) (by rw [show k + (i + 1) = k + 1 + i by omega]; exact h)
        rw [show k + (i + 1) + 1 = k + 1 + i + 1 by omega] at this
        exact this
      rw [show k + 1 + ds.length = k + (d :: ds).length by simp; omega] at ih
      exact ih
    refine (hs 0 d acc μ rfl h0).pureE fun ρ1 μ1 h1 => h1.pureE fun b μ2 h2 => ?_
    cases b with
    | false =>
      rw [if_neg (by simp)] at h2
      simp only [Bool.false_eq_true, if_false]
      exact step h2
    | true =>
      rw [if_pos rfl] at h2
      simp only [if_true]
      refine h2.2.pureE fun y μ3 h3 => ?_
      rw [if_pos h2.1]
      exact step h3
theorem whileL_ok {c : MB} {body : MS} (I : Nat → Rho → Mem → Prop) : ∀ (m : Nat) {n : Nat} {ρ : Rho} {μ : Mem}, m < n → I m ρ μ → (R : Rho → Mem → Prop) →
    (∀ m ρ μ, I m ρ μ → Ok (c ρ μ) fun b μ1 => if b = true then Ok (body ρ μ1) fun f μ2 => ∃ ρ2 m2, (f = .nx ρ2 ∨ f = .cnt ρ2) ∧ m2 < m ∧ I m2 ρ2 μ2 else R ρ μ1) →
    Ok (whileL c body n ρ μ) fun f μ' => ∃ ρ', f = .nx ρ' ∧ R ρ' μ'
  | m, 0, ρ, μ, hm, h0, R, hs => by omega
  | m, n + 1, ρ, μ, hm, h0, R, hs => by
    unfold whileL
    refine (hs m ρ μ h0).onE fun b μ1 h1 => ?_
    cases b with
    | false =>
      rw [if_neg (by simp)] at h1
      exact .pure ⟨ρ, rfl, h1⟩
    | true =>
      rw [if_pos rfl] at h1
      simp only [if_true]
      refine h1.bind fun f μ2 ⟨ρ2, m2, hf, hlt, h2⟩ => ?_
      have ih := whileL_ok (c := c) (body := body) I m2 (n := n) (by omega) h2 R hs
      rcases hf with rfl | rfl
      · exact ih
      · exact ih
  termination_by _ n => n
/-! ### a def -/
theorem run_ret {n : Nat} {m : MS} {ds : List D} {μ : Mem} {P : D → Mem → Prop} (h : Ok (m (startR n ds) μ) fun f μ' => ∃ d, f = .ret d ∧ P d μ') : Ok (runB n m ds μ) P := by
  unfold runB
  refine h.pureE fun f μ' ⟨d, e, p⟩ => ?_
  subst e
  exact .pure p
end RW
namespace RW
open PySem L2
section
variable {ρ : Rho} {μ μ1 : Mem} {d : D} {e : MD} {a b : MS} {i : Nat} {g : MG} {c : MB} {t : Bool}
theorem seq_set (h : e ρ μ = .ok d μ1) : sSeq (sSet i e) b ρ μ = b (ρ.set i (some d)) μ1 := by simp [h]
theorem seq_asg {ρ2 : Rho} {μ2 : Mem} (h : e ρ μ = .ok d μ1) (h2 : g d ρ μ1 = .ok ρ2 μ2) : sSeq (sAsg e g) b ρ μ = b ρ2 μ2 := by simp [h, h2]
theorem seq_expr (h : e ρ μ = .ok d μ1) : sSeq (sExpr e) b ρ μ = b ρ μ1 := by simp [h]
theorem seq_skip {a' : MS} (h : c ρ μ = .ok false μ1) : sSeq (sIf c a' sNil) b ρ μ = b ρ μ1 := by simp [h]
theorem if_t (h : c ρ μ = .ok true μ1) : sIf c a b ρ μ = a ρ μ1 := by simp [h]
theorem if_f (h : c ρ μ = .ok false μ1) : sIf c a b ρ μ = b ρ μ1 := by simp [h]
theorem ret_is (h : e ρ μ = .ok d μ1) : sRet e ρ μ = .ok (.ret d) μ1 := by simp [h]
theorem seq_ret {m : MS} {d : D} (h : m ρ μ = .ok (.ret d) μ1) : sSeq m b ρ μ = .ok (.ret d) μ1 := by simp [h]
theorem Ok.seq {P : Fl → Mem → Prop} (h : Ok (a ρ μ) fun f μ1 => ∃ ρ1, f = .nx ρ1 ∧ Ok (b ρ1 μ1) P) : Ok (sSeq a b ρ μ) P := by
  obtain ⟨f, μ1, e, ρ1, rfl, h2⟩ := h
  simp only [sSeq, e, Res.bind, thenS]
  exact h2
end
theorem run_is {n : Nat} {m : MS} {ds : List D} {μ μ1 : Mem} {d : D} (h : m (startR n ds) μ = .ok (.ret d) μ1) : runB n m ds μ = .ok d μ1 := by
  simp [runB, h]
theorem mul_ok {i j : Int} {μ : Mem} (h : i.natAbs < 18446744073709551616 ∨ j.natAbs < 18446744073709551616) : mulD (.int i) (.int j) μ = .ok (.int (i * j)) μ := by simp only [mulD, if_pos h]
theorem mod_ok {i j : Int} {μ : Mem} (h : 0 < j) : modD (.int i) (.int j) μ = .ok (.int (i % j)) μ := by simp only [modD, if_pos h]
theorem fdiv_ok {i j : Int} {μ : Mem} (h : 0 < j) (h2 : j < 18446744073709551616) : fdivD (.int i) (.int j) μ = .ok (.int (i / j)) μ := by simp only [fdivD, if_pos (And.intro h h2)]
theorem add_ok {i j : Int} {μ : Mem} : addD (.int i) (.int j) μ = .ok (.int (i + j)) μ := rfl
theorem mod_rng {i j : Int} (h : 0 < j) : 0 ≤ i % j ∧ i % j < j := ⟨Int.emod_nonneg _ (by omega), Int.emod_lt_of_pos _ h⟩
end RW
namespace RW
open PySem L2
theorem seq_run {ρ ρ' : Rho} {μ μ' : Mem} {m b : MS} (h : m ρ μ = .ok (.nx ρ') μ') : sSeq m b ρ μ = b ρ' μ' := by simp [h]
theorem set_is {ρ : Rho} {μ μ' : Mem} {i : Nat} {e : MD} {d : D} (h : e ρ μ = .ok d μ') : sSet i e ρ μ = .ok (.nx (ρ.set i (some d))) μ' := by simp [h]
theorem catL_ok {μ : Mem} {n m : Nat} {a b : List D} (h1 : μ[n]? = some (.lst a)) (h2 : μ[m]? = some (.lst b)) (hl : a.length + b.length ≤ 100000) : addD (.ref n) (.ref m) μ = .ok (.ref μ.length) (μ ++ [.lst (a ++ b)]) := by
  have : a.length + b.length ≤ sizeLine := by rw [sizeLine_eq]; omega
  simp [addD, h1, h2, this]
theorem ins_ok {μ : Mem} {n : Nat} {l : List D} {i : Int} {y : D} (h : μ[n]? = some (.lst l)) (h0 : 0 ≤ i) (h1 : i < 1000000) (hl : l.length < 100000) : insertM (.ref n) [.int i, y] μ = .ok .non (μ.set n (.lst (l.take i.toNat ++ [y] ++ l.drop i.toNat))) := by
  have : l.length < sizeLine ∧ 0 ≤ i ∧ i < 2 ^ 63 := by rw [sizeLine_eq]; omega
  simp only [insertM, h, if_pos this]
end RW
namespace RW
open PySem L2
theorem range1_ok {n : Nat} {μ : Mem} (h : n ≤ 1000000) : range1 [.int (n : Int)] μ = .ok (rangeItems 0 n, fun _ => True) μ := by
  have : -4611686018427387904 ≤ (n : Int) ∧ (n : Int) < 4611686018427387904 := by omega
  simp only [range1, if_pos this, Int.toNat_natCast]
theorem range2_ok {m n : Nat} {μ : Mem} (h : n ≤ 1000000) (h2 : m ≤ 1000000) : range2 [.int (m : Int), .int (n : Int)] μ = .ok (rangeItems m (n - m), fun _ => True) μ := by
  have : -4611686018427387904 ≤ (m : Int) ∧ (m : Int) < 4611686018427387904 ∧ -4611686018427387904 ≤ (n : Int) ∧ (n : Int) < 4611686018427387904 := by omega
  have e : ((n : Int) - (m : Int)).toNat = n - m := by omega
  simp only [range2, if_pos this, e]
end RW
namespace RW
open PySem L2
theorem for_run {it : MIt} {g : MG} {body : MS} {ρ ρ' : Rho} {μ μ1 μ' : Mem} {items : List D} {chk : Mem → Prop} (h1 : it ρ μ = .ok (items, chk) μ1) (h2 : forL chk g body items ρ μ1 = .ok (.nx ρ') μ') : sFor it g body ρ μ = .ok (.nx ρ') μ' := by
  simp only [sFor, h1, onE]; exact h2
theorem ir1 {ρ : Rho} {μ : Mem} {e : MD} {n : Nat} (h : e ρ μ = .ok (.int (n : Int)) μ) (hn : n ≤ 1000000) : iRange1 (mCons e mNil) ρ μ = .ok (rangeItems 0 n, fun _ => True) μ := by
  simp only [iRange1, mCons, mNil, h, Res.bind, range1_ok hn]
theorem ir2 {ρ : Rho} {μ : Mem} {e f : MD} {m n : Nat} (h : e ρ μ = .ok (.int (m : Int)) μ) (h' : f ρ μ = .ok (.int (n : Int)) μ) (hn : n ≤ 1000000) (hm : m ≤ 1000000) : iRange2 (mCons e (mCons f mNil)) ρ μ = .ok (rangeItems m (n - m), fun _ => True) μ := by
  simp only [iRange2, mCons, mNil, h, h', Res.bind, range2_ok hn hm]
end RW

/-! SEq: more plain laws of mirrors. -/
namespace RW
open PySem L2
theorem eqI {a b : Int} {μ : Mem} : eqD (.int a) (.int b) μ = .ok (.bl (decide (a = b))) μ := by
  have h1 : SeqAt.shaped (PyData.int a) = true := by rfl
  have h2 : SeqAt.shaped (PyData.int b) = true := by rfl
  simp only [eqD, D.py?, h1, h2, Bool.and_self, if_true, PyData.eqv]
  congr 2
theorem neI {a b : Int} {μ : Mem} : neD (.int a) (.int b) μ = .ok (.bl (!decide (a = b))) μ := by
  have h1 : SeqAt.shaped (PyData.int a) = true := by rfl
  have h2 : SeqAt.shaped (PyData.int b) = true := by rfl
  simp only [neD, D.py?, h1, h2, Bool.and_self, if_true, PyData.eqv]
  congr 2
theorem comp_map {chk : Mem → Prop} {te : MD} {ρ0 : Rho} {i : Nat} (xs : List Int) (f : Int → Int) (μ : Mem) (hc : chk μ) (ht : ∀ x ∈ xs, te (ρ0.set i (some (.int x))) μ = .ok (.int (f x)) μ) (hl : xs.length < 100000) :
    compL chk (gN i) mYes te ρ0 (xs.map D.int) [] μ = .ok ((xs.map f).map D.int) μ := by
  have key := compL_ok (chk := chk) (g := gN i) (tt := mYes) (te := te) (ρ0 := ρ0) (xs.map D.int) (fun j acc μ' => j ≤ xs.length ∧ acc = ((xs.take j).map f).map D.int ∧ μ' = μ) 0 (acc := []) (μ := μ) ⟨Nat.zero_le _, by simp, rfl⟩
    (fun _ _ _ ⟨_, _, e⟩ => e ▸ hc) (fun j d acc μ' e ⟨hj, ea, em⟩ => by
      simp only [Nat.zero_add] at hj ea em ⊢
      subst em
      rw [List.getElem?_map] at e
      obtain ⟨x, ex, rfl⟩ := Option.map_eq_some_iff.mp e
      have hj2 := (List.getElem?_eq_some_iff.mp ex).1
      refine .mk (μ := μ') rfl (.mk (μ := μ') rfl ?_)
      rw [if_pos rfl]
      refine ⟨by rw [ea, List.length_map, List.length_map, List.length_take, sizeLine_eq]; omega, .mk (ht x (List.mem_of_getElem? ex)) ⟨by omega, ?_, rfl⟩⟩
      rw [ea, List.take_add_one, ex]; simp)
  rw [List.length_map, Nat.zero_add] at key
  obtain ⟨l, μ', e, _, rfl, rfl⟩ := key
  rw [e, List.take_length]
theorem comp_is {it : MIt} {g : MG} {tt : MB} {te : MD} {own : List Nat} {ρ : Rho} {μ μ1 μ2 : Mem} {items l : List D} {chk : Mem → Prop} (h1 : it ρ μ = .ok (items, chk) μ1) (h2 : compL chk g tt te (wipeR ρ own) items [] μ1 = .ok l μ2) :
    mComp it g tt te own ρ μ = .ok (.ref μ2.length) (μ2 ++ [.lst l]) := by simp only [mComp, h1, h2, Res.bind]
theorem seq_lst {a : MD} {ρ : Rho} {μ μ1 : Mem} {n : Nat} {l : List D} (h : a ρ μ = .ok (.ref n) μ1) (e : μ1[n]? = some (.lst l)) : iSeq a ρ μ = .ok (l, fun μ' => μ'[n]? = some (.lst l)) μ1 := by simp only [iSeq, h, Res.bind, itSeq, e]
end RW

/-! SEr: pairs stored at once, chains, lists turned about, keys as a list, sorting of data. -/
namespace RW
open PySem L2
section
variable {X : Cx} {W : WX} {a b c e : Expr} {ma mb mc me : MD} {pos : Pos}
/-! a, b = .., .. -/
@[simp] def sPar (i j : Nat) (a : ML) : MS := fun ρ μ => onE (a ρ μ) ρ fun ds μ1 => match ds with
  | [x, y] => .ok (.nx ((ρ.set i (some x)).set j (some y))) μ1
  | _ => .stuck
theorem ss_par {i j : Nat} {x y : Str} {ms : ML} {px py pt pt2 : Pos} {kt k2} (hc : X.calm = true) (hN : X.N.Nodup) (hi : X.N[i]? = some x) (hj : X.N[j]? = some y) (hij : i ≠ j)
    (hx : X.env.scope.names.lookup x = some .local) (hy : X.env.scope.names.lookup y = some .local) (ha : SA X W [a, b] ms)
    (hw : swappedStores [.Tuple [.Name x px, .Name y py] kt pt] (.Tuple [a, b] k2 pt2) X.env = pure (some [x, y]))
    (hs : swapsWithSole [.Tuple [.Name x px, .Name y py] kt pt] (.Tuple [a, b] k2 pt2) pos.line X.env = pure false := by rfl) :
    SS X W (.Assign [.Tuple [.Name x px, .Name y py] kt pt] (.Tuple [a, b] k2 pt2) pos) (sPar i j ms) :=
  PS.mono (ps_par hc hN hi hj hij hx hy ha hw hs) fun D σ H ⟨ρ, μ, ι, env, rel, h⟩ =>
    ⟨ρ, μ, ι, env, rel, (PostS.onE h env ⟨μ, rel⟩).imp fun ι1 H1 μ1 ds _ _ ⟨g1, r1, env1, h1⟩ vs rvs => by
      match ds, rvs, h1 with
      | [x, y], rvs, h1 =>
        obtain ⟨v, w, rfl, rv, rw'⟩ := rvs.two
        exact ⟨v, w, rfl, h1 ι1 H1 .refl r1 _ ((env1.set i rv).set j rw')⟩
      | [], _, h1 => exact h1.elim
      | [_], _, h1 => exact h1.elim
      | _ :: _ :: _ :: _, _, h1 => exact h1.elim⟩
@[simp] def sPar3 (i j l : Nat) (a : ML) : MS := fun ρ μ => onE (a ρ μ) ρ fun ds μ1 => match ds with
  | [x, y, z] => .ok (.nx (((ρ.set i (some x)).set j (some y)).set l (some z))) μ1
  | _ => .stuck
theorem ss_par3 {i j l : Nat} {x y z : Str} {ms : ML} {px py pz pt pt2 : Pos} {kt k2} (hc : X.calm = true) (hN : X.N.Nodup) (hi : X.N[i]? = some x) (hj : X.N[j]? = some y) (hl : X.N[l]? = some z) (hij : i ≠ j) (hil : i ≠ l) (hjl : j ≠ l)
    (hx : X.env.scope.names.lookup x = some .local) (hy : X.env.scope.names.lookup y = some .local) (hz : X.env.scope.names.lookup z = some .local) (ha : SA X W [a, b, c] ms)
    (hw : swappedStores [.Tuple [.Name x px, .Name y py, .Name z pz] kt pt] (.Tuple [a, b, c] k2 pt2) X.env = pure (some [x, y, z]))
    (hs : swapsWithSole [.Tuple [.Name x px, .Name y py, .Name z pz] kt pt] (.Tuple [a, b, c] k2 pt2) pos.line X.env = pure false := by rfl) :
    SS X W (.Assign [.Tuple [.Name x px, .Name y py, .Name z pz] kt pt] (.Tuple [a, b, c] k2 pt2) pos) (sPar3 i j l ms) :=
  PS.mono (ps_par3 hc hN hi hj hl hij hil hjl hx hy hz ha hw hs) fun D σ H ⟨ρ, μ, ι, env, rel, h⟩ =>
    ⟨ρ, μ, ι, env, rel, (PostS.onE h env ⟨μ, rel⟩).imp fun ι1 H1 μ1 ds _ _ ⟨g1, r1, env1, h1⟩ vs rvs => by
      match ds, rvs, h1 with
      | [x, y, z], rvs, h1 =>
        obtain ⟨u, t, rfl, ru, rt⟩ := rvs.cons_inv
        obtain ⟨v, w, rfl, rv, rw'⟩ := rt.two
        exact ⟨u, v, w, rfl, h1 ι1 H1 .refl r1 _ (((env1.set i ru).set j rv).set l rw')⟩
      | [], _, h1 => exact h1.elim
      | [_], _, h1 => exact h1.elim
      | [_, _], _, h1 => exact h1.elim
      | _ :: _ :: _ :: _ :: _, _, h1 => exact h1.elim⟩
/-! a < b < c -/
@[simp] def mChain (f f' : D → D → Mem → Res D) (a b c : MD) : MD := fun ρ μ => (a ρ μ).bind fun x μ1 => (b ρ μ1).bind fun y μ2 => (f x y μ2).bind fun z μ3 => match z with
  | .bl k => if k = true then (c ρ μ3).bind fun w μ4 => f' y w μ4 else .ok (.bl false) μ3
  | _ => .stuck
theorem chain_red {r r' : R2} {f f' : D → D → Mem → Res D} (hf : Snd2 (gOf X) r f) (hf' : Snd2 (gOf X) r' f') {σ : St} {H : Hp} {Q : VK} (h : tE (gOf X) W (mChain f f' ma mb mc) σ H Q) :
    tChain r r' (tE (gOf X) W ma) (tE (gOf X) W mb) (tE (gOf X) W mc) σ H Q := by
  obtain ⟨ρ, μ, ι, env, rel, h⟩ := h
  refine ⟨ρ, μ, ι, env, rel, (Post.bind h).imp fun ι1 H1 μ1 x _ _ ⟨g1, r1, h1⟩ v rv => ?_⟩
  refine ⟨ρ, μ1, ι1, env.ext (g1.ext rel), r1, (Post.bind h1).imp fun ι2 H2 μ2 y _ _ ⟨g2, r2, h2⟩ u ru => ?_⟩
  have env2 := (env.ext (g1.ext rel)).ext (g2.ext r1)
  refine hf ι2 H2 μ2 x y v u W σ _ r2 (rv.ext (g2.ext r1)) ru ((Post.bind h2).imp fun ι3 H3 μ3 z _ _ ⟨g3, r3, h3⟩ w rw' => ?_)
  cases z with
  | bl k =>
    refine ⟨k, rw'.bl, ?_⟩
    cases k with
    | true =>
      refine iteT ⟨ρ, μ3, ι3, env2.ext (g3.ext r2), r3, (Post.bind h3).imp fun ι4 H4 μ4 t _ _ ⟨g4, r4, h4⟩ q rq => ?_⟩
      exact hf' ι4 H4 μ4 y t u q W σ Q r4 ((ru.ext (g3.ext r2)).ext (g4.ext r3)) rq h4
    | false => exact iteF (h3 ι3 H3 .refl r3 _ (rep_bl _))
  | _ => exact h3.elim
theorem se_chain {op op' : CmpOp} {r r' : R2} {f f' : D → D → Mem → Res D} (ho : OpR X (compareOp op) r) (ho' : OpR X (compareOp op') r') (hf : Snd2 (gOf X) r f) (hf' : Snd2 (gOf X) r' f') (ha : SE X W a ma) (hb : SE X W b mb) (hc : SE X W c mc)
    (hm : lastMarks [op, op'] [b, c] = false := by rfl) : SE X W (.Compare a [op, op'] [b, c] pos) (mChain f f' ma mb mc) :=
  PE.mono (pe_chain ho ho' ha hb hc hm) fun σ H Q h => chain_red hf hf' h
theorem st_chain {op op' : CmpOp} {r r' : R2} {f f' : D → D → Mem → Res D} (ho : OpR X (compareOp op) r) (ho' : OpR X (compareOp op') r') (hf : Snd2 (gOf X) r f) (hf' : Snd2 (gOf X) r' f') (ha : SE X W a ma) (hb : SE X W b mb) (hc : SE X W c mc)
    (hm : lastMarks [op, op'] [b, c] = false := by rfl) : ST X W (.Compare a [op, op'] [b, c] pos) (mTest (mChain f f' ma mb mc)) :=
  PT.mono (pt_chain ho ho' ha hb hc hm) fun σ H Q h => test_red (mChain f f' ma mb mc) (fun σ H Q h => chain_red hf hf' h) h
/-! l[::-1], reversed(l) -/
/-- a list's items -/
def lstAt : D → Mem → Option (List D)
  | .frl l, _ => some l
  | .ref n, μ => (match μ[n]? with
    | some (.lst l) => some l
    | _ => none)
  | _, _ => none
theorem lstAt_is {G : Gd} {ι : List Addr} {H : Hp} {μ : Mem} {d : D} {v : V} {l : List D} (r : Rel G ι H μ) (rv : Rep G ι H d v) (e : lstAt d μ = some l) : ∃ p vs, v = .ref p ∧ SqL G.K H p vs ∧ Reps G ι H l vs := by
  cases d with
  | frl l' => cases e; obtain ⟨p, vs, rfl, h1, h2⟩ := rv.frl; exact ⟨p, vs, rfl, FrL.sq _ _ h1, h2⟩
  | ref n =>
    simp only [lstAt] at e
    split at e
    · rename_i l' em
      cases e
      obtain ⟨p, vs, rfl, h0, h1, h2⟩ := r.lst em rv
      exact ⟨p, vs, rfl, .of h1, h2⟩
    · cases e
  | _ => cases e
def revD (x : D) (μ : Mem) : Res D := match lstAt x μ with
  | some l => .ok (.ref μ.length) (μ ++ [.lst l.reverse])
  | none => .stuck
theorem se_rev {k : Nat} {p1 p2 p3 : Pos} (he : SE X W e me) : SE X W (.Subscript e (.Slice none none (some (.UnaryOp .USub (.Constant (.int 1) k p1) p2)) p3) pos) (mUn revD me) :=
  PE.mono (pe_revL he) fun σ H Q ⟨ρ, μ, ι, env, rel, h⟩ =>
    ⟨ρ, μ, ι, env, rel, (Post.bind h).imp fun ι1 H1 μ1 x _ _ ⟨g1, r1, h1⟩ v rv => by
      simp only [revD] at h1
      split at h1
      · rename_i l el
        obtain ⟨p, vs, rfl, h2, h3⟩ := lstAt_is r1 rv el
        exact ⟨p, vs, rfl, h2, new_lst r1 h3.reverse h1⟩
      · exact h1.elim⟩
@[simp] def iRevD (a : ML) : MIt := fun ρ μ => (a ρ μ).bind fun xs μ1 => match xs with
  | [x] => (itSeq x μ1).bind fun p μ2 => .ok (p.1.reverse, p.2) μ2
  | _ => .stuck
theorem it_revL {G : Gd} {ι : List Addr} {H : Hp} {a : Addr} {l : List D} {chk : Mem → Prop} (base : ItOk G ι H (Itl G.K a) l chk) : ItOk G ι H (Itv G.K a l.length) l.reverse chk := by
  have ix : ∀ {i : Nat} {d : D}, l.reverse[i]? = some d → i < l.length ∧ l[l.length - 1 - i]? = some d := fun {i d} e => by
    have hi := (List.getElem?_eq_some_iff.mp e).1
    rw [List.length_reverse] at hi
    rw [List.getElem?_reverse hi] at e
    exact ⟨hi, e⟩
  refine ⟨fun i d ι' H' μ' e g r c => ?_, fun i d ι' H' μ' v H2 e g r c ⟨e1, e2⟩ => ?_, fun ι' H' μ' g r c => by show l.length ≤ l.reverse.length; rw [List.length_reverse]; exact Nat.le_refl _⟩
  · obtain ⟨hi, e⟩ := ix e
    obtain ⟨xs, x, h1, h2⟩ := base.go _ d ι' H' μ' e g r c
    exact ⟨hi, xs, x, h1, h2⟩
  · subst e1
    obtain ⟨hi, e⟩ := ix e
    exact base.yld _ d ι' H2 μ' v H2 e g r c ⟨rfl, e2⟩
theorem it_revT {G : Gd} {ι : List Addr} {H : Hp} {a : Addr} {l : List D} {chk : Mem → Prop} (base : ItOk G ι H (Itt G.K a) l chk) : ItOk G ι H (RT.ItvT G.K a l.length) l.reverse chk := by
  have ix : ∀ {i : Nat} {d : D}, l.reverse[i]? = some d → i < l.length ∧ l[l.length - 1 - i]? = some d := fun {i d} e => by
    have hi := (List.getElem?_eq_some_iff.mp e).1
    rw [List.length_reverse] at hi
    rw [List.getElem?_reverse hi] at e
    exact ⟨hi, e⟩
  refine ⟨fun i d ι' H' μ' e g r c => ?_, fun i d ι' H' μ' v H2 e g r c ⟨e1, e2⟩ => ?_, fun ι' H' μ' g r c => by show l.length ≤ l.reverse.length; rw [List.length_reverse]; exact Nat.le_refl _⟩
  · obtain ⟨hi, e⟩ := ix e
    obtain ⟨xs, x, h1, h2⟩ := base.go _ d ι' H' μ' e g r c
    exact ⟨hi, xs, x, h1, h2⟩
  · subst e1
    obtain ⟨hi, e⟩ := ix e
    exact base.yld _ d ι' H2 μ' v H2 e g r c ⟨rfl, e2⟩
theorem si_rev {tg : Expr} {p : Pos} (hg : Gl X "reversed") (hm : X.mg "reversed" = none) (ha : SE X W a ma) (hs : starEach [a] X.env = (false, eval a X.env) :: starEach [] X.env := by rfl) : SI X W tg (.Call (.Name "reversed" p) [a] [] pos) (iRevD (mCons ma mNil)) :=
  PI.mono (RT.pi_revA hg hm ha hs) fun σ H R ⟨ρ, μ, ι, env, rel, h⟩ => by
    refine ⟨ρ, μ, ι, env, rel, ?_⟩
    simp only [iRevD, mCons, mNil] at h
    cases hm : ma ρ μ with
    | stuck => rw [hm] at h; exact h.elim
    | exc c fs m => rw [hm] at h; exact h
    | ok d μ1 =>
      rw [hm] at h
      intro ι1 H1 g1 r1 v rv
      simp only [Res.bind] at h
      cases d with
      | tup l =>
        obtain ⟨p, vs, rfl, h1, h2⟩ := rv.tup
        have q := h ι1 H1 g1 r1 (RT.ItvT X.K p l.length) (it_revT (it_tup r1 h1 h2))
        rw [← h2.length] at q
        exact ⟨p, vs, rfl, .inr ⟨h1, q⟩⟩
      | frl l =>
        obtain ⟨p, vs, rfl, h1, h2⟩ := rv.frl
        have q := h ι1 H1 g1 r1 (Itv X.K p l.length) (it_revL (it_frl r1 h1 h2))
        rw [← h2.length] at q
        exact ⟨p, vs, rfl, .inl ⟨FrL.sq _ _ h1, q⟩⟩
      | ref n =>
        cases em : μ1[n]? with
        | none => simp only [itSeq, em] at h; exact h.elim
        | some cc =>
          simp only [itSeq, em] at h
          cases cc with
          | lst l =>
            obtain ⟨p, vs, rfl, h0, h1, h2⟩ := r1.lst em rv
            have q := h ι1 H1 g1 r1 (Itv X.K p l.length) (it_revL (it_lst h0))
            rw [← h2.length] at q
            exact ⟨p, vs, rfl, .inl ⟨.of h1, q⟩⟩
          | _ => exact h.elim
      | _ => exact h.elim
end
/-! ### list(d) of a dict -/
def rListX (G : Gd) : List V → Hp → VK → Prop := fun xs H Q => ∃ d ι l ks, xs = [V.ref d] ∧ TdIs G ι H d l ks ∧ ∀ p, H p = none → Q (.ref p) (upd H p (.lst (ks.map fun x => V.ref x.2.1)))
section
variable {X : Cx}
theorem call_listX (hc : X.calm = true) : CallR X (.type "list") (rListX (gOf X)) := by
  intro pins s σ H xs us Q I r h
  obtain ⟨d, ι, l, ks, rfl, td, q⟩ := h
  obtain ⟨u, rfl, rx⟩ := r.one
  cases rx
  obtain ⟨o, es, ep, ho, hx, hdt, he, _, hn⟩ := td.dictOf I
  obtain ⟨_, _, _, z, hs⟩ := td
  have l1 : es.size = ks.length := by
    have := congrArg List.length he
    simpa using this
  refine PySem.W.kdl_call (kdl_raw hs hx hdt) (I.ok.hd hc) ho (by omega) fun h' tk acc' c' kp e it => ?_
  have eb : acc'.toList = (ks.map fun x => x.2.1).map Value.ref := by
    have hl : acc'.toList.length = ks.length := by rw [Array.length_toList, it.1]; exact l1
    apply List.ext_getElem?
    intro j
    rw [List.map_map, List.getElem?_map]
    cases hj : acc'.toList[j]? with
    | none =>
      have h1 := List.getElem?_eq_none_iff.mp hj
      rw [List.getElem?_eq_none (by omega)]
      all_goals rfl
    | some v =>
      obtain ⟨en, hen, hv⟩ := it.2 j v (by rw [← Array.getElem?_toList]; exact hj)
      have qe := congrArg (fun l => l[j]?) he
      simp only [List.getElem?_map, Array.getElem?_toList] at qe
      rw [hen] at qe
      cases hb : ks[j]? with
      | none => rw [hb] at qe; cases qe
      | some b =>
        rw [hb] at qe
        have e2 : en = entryOfKey (nestedKind X.prog X.w) b := Option.some.inj qe
        rw [hv, e2]
        all_goals rfl
  have rv : Vals ((ks.map fun x => x.2.1).map V.ref) acc'.toList := by rw [eb]; exact vals_refs _
  have em : (ks.map fun x => V.ref x.2.1) = (ks.map fun x => x.2.1).map V.ref := by rw [List.map_map]; rfl
  have hz : (ks.map fun x => V.ref x.2.1).length ≤ sizeLine := by rw [List.length_map]; omega
  refine ⟨.ref s.heap.objs.size, _, I.laid (t' := tk) (o := .lst (ks.map fun x => V.ref x.2.1)) kp (Nat.le_refl _) ?_, rfl, q _ (I.hok.fresh (Nat.le_refl _))⟩
  exact ⟨hz, acc'.toList, c', em ▸ rv, by rw [Array.toArray_toList]; exact e⟩
end
/-- a dict's keys -/
def keysAt : D → Mem → Option (List D)
  | .ref n, μ => (match μ[n]? with
    | some (.tdic l) => some (l.map (·.1))
    | some (.lck true l) => some (l.map (·.1))
    | some (.dic l) => some (l.map (·.1))
    | _ => none)
  | _, _ => none
def listA : List D → Mem → Res D := fun xs μ => match listL xs μ with
  | .stuck => (match xs with
    | [x] => (match keysAt x μ with
      | some l => .ok (.ref μ.length) (μ ++ [.lst l])
      | none => .stuck)
    | _ => .stuck)
  | r => r
def rListA (G : Gd) : List V → Hp → VK → Prop := fun xs H Q => (∃ p ys, xs = [.ref p] ∧ (SqL G.K H p ys ∨ SqT G.K H p ys) ∧ ∀ l, H l = none → Q (.ref l) (upd H l (.lst ys))) ∨ rListX G xs H Q ∨ rListD xs H Q
theorem call_listA {X : Cx} (hc : X.calm = true) : CallR X (.type "list") (rListA (gOf X)) := CallR.or call_list_of (CallR.or (call_listX hc) (call_list_dK hc))
theorem reps_refs {G : Gd} {ι : List Addr} {H : Hp} : ∀ {l : List (D × D)} {ks : List (NestedKey × Addr × Value)}, Paired (RepT G ι H) l ks → Reps G ι H (l.map (·.1)) (ks.map fun x => V.ref x.2.1)
  | _, _, .nil => .nil
  | _, _, .cons h t => .cons h.2.2.1 (reps_refs t)
theorem reps_keysK {G : Gd} {ι : List Addr} {H : Hp} : ∀ {l : List (D × D)} {ks : List (Key × V)}, Paired (RepP G ι H) l ks → Reps G ι H (l.map (·.1)) (ks.map fun x => kV x.1)
  | _, _, .nil => .nil
  | (d, _) :: _, (k, _) :: _, .cons h t => by
    refine .cons ?_ (reps_keysK t)
    have h1 : d.key? = some k := h.1
    cases d with
    | int i => cases h1; exact rep_int _
    | str i => cases h1; exact rep_str _
    | _ => cases h1
theorem snd_listA {G : Gd} : SndL G (rListA G) listA := fun ι H μ xs vs W σ Q r rxs h => by
  unfold listA at h
  cases hq : listL xs μ with
  | ok d m => rw [hq] at h; exact .inl (snd_listL ι H μ xs vs W σ Q r rxs (by rw [hq]; exact h))
  | exc c fs m => rw [hq] at h; exact .inl (snd_listL ι H μ xs vs W σ Q r rxs (by rw [hq]; exact h))
  | stuck =>
    rw [hq] at h
    match xs, rxs, h with
    | [x], rxs, h =>
      cases el : keysAt x μ with
      | none => simp only [el] at h; exact h.elim
      | some l =>
        simp only [el] at h
        obtain ⟨v, rfl, rv⟩ := rxs.one
        cases x with
        | ref n =>
          obtain ⟨a, h0, rfl⟩ := rv.ref
          simp only [keysAt] at el
          split at el
          · rename_i l' em
            cases el
            obtain ⟨ks, h1, h2, h3, h4, h5⟩ := r.cell n _ a em h0
            exact .inr (.inl ⟨a, ι, l', ks, rfl, ⟨.inl h1, h2, h3, h4, h5⟩, new_lst r (reps_refs h2) h⟩)
          · rename_i l' em
            cases el
            obtain ⟨od, ks, h1, h2, h3, h4, h5⟩ := r.cell n _ a em h0
            exact .inr (.inl ⟨a, ι, l', ks, rfl, ⟨.inr ⟨od, h1⟩, h2, h3, h4, h5⟩, new_lst r (reps_refs h2) h⟩)
          · rename_i l' em
            cases el
            obtain ⟨ks, h1, h2⟩ := r.cell n _ a em h0
            exact .inr (.inr ⟨a, ks, rfl, h1, new_lst r (reps_keysK h2) h⟩)
          · cases el
        | _ => cases el
    | [], _, h => exact h.elim
    | _ :: _ :: _, _, h => exact h.elim
/-! ### sorted(l) of data -/
def encD (μ : Mem) (d : D) : PyData := (D.py? 8 μ d).getD .none
def isTupD : PyData → Bool
  | .tuple (_ :: _) => true
  | _ => false
def isPlD : PyData → Bool
  | .none => false
  | .tuple _ => false
  | _ => true
def sortOk (μ : Mem) (l : List D) : Bool := l.all (fun d => (D.py? 8 μ d).isSome && decide ((encD μ d).depth ≤ 32)) && (l.all fun d => l.all fun e => PySem.W.alike (encD μ d) (encD μ e)) && (l.all (fun d => isTupD (encD μ d)) || l.all fun d => isPlD (encD μ d)) && decide (l.length ≤ 1000000)
def sortD (μ : Mem) (l : List D) : List D := l.mergeSort (PySem.W.dataLe false (encD μ))
def sortedD : List D → Mem → Res D
  | [x], μ => (match lstAt x μ with
    | some l => if sortOk μ l = true then .ok (.ref μ.length) (μ ++ [.lst (sortD μ l)]) else .stuck
    | none => .stuck)
  | _, _ => .stuck
def sortedA : List D → Mem → Res D := fun xs μ => match sortedL xs μ with
  | .stuck => sortedD xs μ
  | r => r
def rSortedD (G : Gd) : List V → Hp → VK → Prop := fun xs H Q => ∃ (a : Addr) (vs : List V) (l : List D) (ι : List Addr) (μ : Mem), xs = [.ref a] ∧ SqL G.K H a vs ∧ Rel G ι H μ ∧ Reps G ι H l vs ∧ sortOk μ l = true ∧
  ∀ vs' p, Reps G ι H (sortD μ l) vs' → H p = none → Q (.ref p) (upd H p (.lst vs'))
theorem each_of_reps {G : Gd} {ι : List Addr} {H : Hp} : ∀ {l : List D} {vs : List V} {us : List Value}, Reps G ι H l vs → Vals vs us → PySem.W.EachIs (fun u d => ∃ v, Rep G ι H d v ∧ RelV v u) us l
  | [], _, _, h, r => by rw [h.nil_inv] at r; cases r; exact .nil
  | d :: l, _, _, h, r => by
    obtain ⟨v, w, rfl, h1, h2⟩ := h.cons_inv
    cases r with
    | cons r1 r2 => exact .cons ⟨v, h1, r1⟩ (each_of_reps h2 r2)
theorem reps_of_each {G : Gd} {ι : List Addr} {H : Hp} : ∀ {l : List D} {us : List Value}, PySem.W.EachIs (fun u d => ∃ v, Rep G ι H d v ∧ RelV v u) us l → ∃ vs, Reps G ι H l vs ∧ Vals vs us
  | _, _, .nil => ⟨[], .nil, .nil⟩
  | _, _, .cons ⟨v, h1, r1⟩ t => by
    obtain ⟨vs, h2, r2⟩ := reps_of_each t
    exact ⟨v :: vs, .cons h1 h2, .cons r1 r2⟩
theorem cr_sortedD {X : Cx} (hu : X.A.units + 64 < cLine) : CallR X (.builtin "sorted") (rSortedD (gOf X)) := by
  intro pins s σ H xs us Q I r h
  obtain ⟨a, vs, l, ι, μ, rfl, hs, rel, reps, ok, q⟩ := h
  obtain ⟨its, rv, hl, hz⟩ := I.list hs
  rw [Vals.ref1 r]
  simp only [sortOk, Bool.and_eq_true, List.all_eq_true, decide_eq_true_eq, Bool.or_eq_true] at ok
  obtain ⟨⟨⟨o1, o2⟩, o3⟩, o4⟩ := ok
  have hll : l.length = its.length := by rw [← reps.length, rv.length]
  have er : PySem.W.EachIs (fun u d => ∃ as, Reads s.heap u (encD μ d) as) its l := by
    have key : ∀ {l : List D} {us : List Value}, (∀ d ∈ l, (D.py? 8 μ d).isSome = true) → PySem.W.EachIs (fun u d => ∃ v, Rep (gOf X) ι H d v ∧ RelV v u) us l → PySem.W.EachIs (fun u d => ∃ as, Reads s.heap u (encD μ d) as) us l := by
      intro l us hh e
      induction e with
      | nil => exact .nil
      | cons h1 t ih =>
        obtain ⟨v, h1, r1⟩ := h1
        refine .cons ?_ (ih fun d hd => hh d (List.mem_cons_of_mem _ hd))
        obtain ⟨p, hp⟩ := Option.isSome_iff_exists.mp (hh _ List.mem_cons_self)
        unfold encD
        rw [hp]
        exact Dp.reads I p v _ (dp_of rel 8 _ v p h1 hp) r1
    exact key (fun d hd => (o1 d hd).1) (each_of_reps reps rv)
  refine PySem.W.sorted_data (enc := encD μ) hl.isList (each_of_reps reps rv) er ?_ ?_ (by rw [sizeLine_eq]; omega) (fun b hb => ?_) fun out h1 h2 => ?_
  · intro d hd d' hd'
    obtain ⟨b, hb, rfl⟩ := List.mem_map.mp hd
    obtain ⟨b', hb', rfl⟩ := List.mem_map.mp hd'
    exact o2 b hb b' hb'
  · rcases o3 with o3 | o3
    · refine .inl fun d hd => ?_
      obtain ⟨b, hb, rfl⟩ := List.mem_map.mp hd
      have := o3 b hb
      unfold isTupD at this
      split at this
      · rename_i x r e; exact ⟨x, r, e⟩
      · cases this
    · refine .inr fun d hd => ?_
      obtain ⟨b, hb, rfl⟩ := List.mem_map.mp hd
      have := o3 b hb
      refine ⟨fun e => ?_, fun xs e => ?_⟩ <;> (rw [e] at this; cases this)
  · have := (o1 b hb).2
    omega
  · obtain ⟨vs', h3, h4⟩ := reps_of_each h2
    obtain ⟨ep, he'⟩ := PyProof.Rows.sortedAll_at s.heap its out.toArray
    have hlen : vs'.length ≤ sizeLine := by
      rw [h4.length, h1, sizeLine_eq]; omega
    exact ⟨.ref _, upd H (s.heap.objs.size + 1) (.lst vs'), I.laid (t' := s.toks) (fun _ _ => PyProof.Rows.sortedAll_old) (Nat.le_succ _) ⟨hlen, out, ep, h4, he'⟩, rfl, q _ _ h3 (I.hok.fresh (Nat.le_succ _))⟩
def rSortedB (G : Gd) : List V → Hp → VK → Prop := fun xs H Q => rSortedA G xs H Q ∨ rSortedD G xs H Q
theorem cr_sortedB {X : Cx} (hc : X.calm = true) (hu : X.A.units + 64 < cLine) : CallR X (.builtin "sorted") (rSortedB (gOf X)) := CallR.or (cr_sortedA hc) (cr_sortedD hu)
theorem snd_sortedB {G : Gd} : SndL G (rSortedB G) sortedA := fun ι H μ xs vs W σ Q r rxs h => by
  unfold sortedA at h
  cases hq : sortedL xs μ with
  | ok d m => rw [hq] at h; exact .inl (snd_sorted ι H μ xs vs W σ Q r rxs (by rw [hq]; exact h))
  | exc c fs m => rw [hq] at h; exact .inl (snd_sorted ι H μ xs vs W σ Q r rxs (by rw [hq]; exact h))
  | stuck =>
    rw [hq] at h
    match xs, rxs, h with
    | [x], rxs, h =>
      simp only [sortedD] at h
      split at h
      · rename_i l el
        split at h
        · rename_i ok
          obtain ⟨v, rfl, rv⟩ := rxs.one
          obtain ⟨p, vs, rfl, h1, h2⟩ := lstAt_is r rv el
          exact .inr ⟨p, vs, l, ι, μ, rfl, h1, r, h2, ok, fun vs' q h3 hq => new_lst r h3 h q hq⟩
        · exact h.elim
      · exact h.elim
    | [], _, h => exact h.elim
    | _ :: _ :: _, _, h => exact h.elim
end RW

/-! SEs: plain laws of sorting and of other mirrors. -/
namespace RW
open PySem L2
/-! loops whose body may return -/
theorem forL_ret {chk : Mem → Prop} {g : MG} {body : MS} {P : D → Mem → Prop} : ∀ (items : List D) (I : Nat → Rho → Mem → Prop) (k : Nat) {ρ : Rho} {μ : Mem}, I k ρ μ →
    (∀ i ρ μ, I i ρ μ → chk μ) → (∀ i d ρ μ, items[i]? = some d → I (k + i) ρ μ → Ok (g d ρ μ) fun ρ1 μ1 => Ok (body ρ1 μ1) fun f μ2 => (∃ ρ2, (f = .nx ρ2 ∨ f = .cnt ρ2) ∧ I (k + i + 1) ρ2 μ2) ∨ ∃ d, f = .ret d ∧ P d μ2) →
    Ok (forL chk g body items ρ μ) fun f μ' => (∃ ρ', f = .nx ρ' ∧ I (k + items.length) ρ' μ') ∨ ∃ d, f = .ret d ∧ P d μ'
  | [], I, k, ρ, μ, h0, hc, hs => by
    unfold forL
    rw [if_pos (hc _ _ _ h0)]
    exact .pure (.inl ⟨ρ, rfl, h0⟩)
  | d :: ds, I, k, ρ, μ, h0, hc, hs => by
    unfold forL
    rw [if_pos (hc _ _ _ h0)]
    refine (hs 0 d ρ μ rfl h0).pureE fun ρ1 μ1 h1 => h1.bind fun f μ2 h2 => ?_
    rcases h2 with ⟨ρ2, hf, h2⟩ | ⟨d, rfl, h2⟩
    · have ih := forL_ret (P := P) ds I (k + 1) h2 hc fun i d ρ μ e h => by
        have := hs (i + 1) d ρ μ (by simpa using e) (by rw [show k + (i + 1) = k + 1 + i by omega]; exact h)
        rw [show k + (i + 1) + 1 = k + 1 + i + 1 by omega] at this
        exact this
      rw [show k + 1 + ds.length = k + (d :: ds).length by simp; omega] at ih
      rcases hf with rfl | rfl
      · exact ih
      · exact ih
    · exact .pure (.inr ⟨d, rfl, h2⟩)
theorem whileL_ret {c : MB} {body : MS} (I : Nat → Rho → Mem → Prop) : ∀ (m : Nat) {n : Nat} {ρ : Rho} {μ : Mem}, m < n → I m ρ μ → (R : Rho → Mem → Prop) → (P : D → Mem → Prop) →
    (∀ m ρ μ, I m ρ μ → Ok (c ρ μ) fun b μ1 => if b = true then Ok (body ρ μ1) fun f μ2 => (∃ ρ2 m2, (f = .nx ρ2 ∨ f = .cnt ρ2) ∧ m2 < m ∧ I m2 ρ2 μ2) ∨ ∃ d, f = .ret d ∧ P d μ2 else R ρ μ1) →
    Ok (whileL c body n ρ μ) fun f μ' => (∃ ρ', f = .nx ρ' ∧ R ρ' μ') ∨ ∃ d, f = .ret d ∧ P d μ'
  | m, 0, ρ, μ, hm, h0, R, P, hs => by omega
  | m, n + 1, ρ, μ, hm, h0, R, P, hs => by
    unfold whileL
    refine (hs m ρ μ h0).onE fun b μ1 h1 => ?_
    cases b with
    | false =>
      rw [if_neg (by simp)] at h1
      exact .pure (.inl ⟨ρ, rfl, h1⟩)
    | true =>
      rw [if_pos rfl] at h1
      simp only [if_true]
      refine h1.bind fun f μ2 h2 => ?_
      rcases h2 with ⟨ρ2, m2, hf, hlt, h2⟩ | ⟨d, rfl, h2⟩
      · have ih := whileL_ret (c := c) (body := body) I m2 (n := n) (by omega) h2 R P hs
        rcases hf with rfl | rfl
        · exact ih
        · exact ih
      · exact .pure (.inr ⟨d, rfl, h2⟩)
  termination_by _ n => n
section
variable {α : Type} {enc : α → PyData} {l l' : List α}
def sortE (enc : α → PyData) (l : List α) : List α := l.mergeSort (PySem.W.dataLe false enc)
theorem sortE_perm : (sortE enc l).Perm l := List.mergeSort_perm _ _
theorem sortE_eq (hp : l.Perm l') (inj : ∀ a ∈ l, ∀ b ∈ l, PySem.W.keyToks (enc a) = PySem.W.keyToks (enc b) → a = b) : sortE enc l = sortE enc l' := by
  have T := PySem.W.sortLe_total (PyProof.Rows.listOrd PyProof.Rows.itemOrd) false fun b => PySem.W.keyToks (enc b)
  have s1 : (sortE enc l).Pairwise fun a b => PySem.W.dataLe false enc a b = true := PySem.W.sort_pairwise T l
  have s2 : (sortE enc l').Pairwise fun a b => PySem.W.dataLe false enc a b = true := PySem.W.sort_pairwise T l'
  refine List.Perm.eq_of_pairwise (le := fun a b => PySem.W.dataLe false enc a b = true) (fun a b ha hb h1 h2 => ?_) s1 s2 (sortE_perm.trans (hp.trans sortE_perm.symm))
  have ma : a ∈ l := sortE_perm.mem_iff.mp ha
  have mb : b ∈ l := hp.mem_iff.mpr (sortE_perm.mem_iff.mp hb)
  refine inj a ma b mb ((PyProof.Rows.listOrd PyProof.Rows.itemOrd).total _ _ ?_ ?_)
  · have : (!(PyProof.Rows.listOrd PyProof.Rows.itemOrd).blt (PySem.W.keyToks (enc a)) (PySem.W.keyToks (enc b))) = true := h2
    simpa using this
  · have : (!(PyProof.Rows.listOrd PyProof.Rows.itemOrd).blt (PySem.W.keyToks (enc b)) (PySem.W.keyToks (enc a))) = true := h1
    simpa using this
theorem sortD_map {μ : Mem} {f : α → D} (h : ∀ x ∈ l, encD μ (f x) = enc x) : sortD μ (l.map f) = (sortE enc l).map f := by
  unfold sortD sortE
  refine (PySem.W.sort_maps f fun a ha b hb => ?_).symm
  have e : ∀ x y : PyData, encD μ (f a) = x → encD μ (f b) = y → PySem.W.dataLe false (encD μ) (f a) (f b) = PySem.W.dataLe false id x y := fun x y h1 h2 => by subst h1 h2; rfl
  exact (e _ _ (h a ha) (h b hb)).symm
theorem sortOk_tup {μ : Mem} {f : α → D} (hl : l.length ≤ 1000000) (h : ∀ x ∈ l, D.py? 8 μ (f x) = some (enc x) ∧ (enc x).depth ≤ 32 ∧ isTupD (enc x) = true) (ha : ∀ x ∈ l, ∀ y ∈ l, PySem.W.alike (enc x) (enc y) = true) : sortOk μ (l.map f) = true := by
  have he : ∀ x ∈ l, encD μ (f x) = enc x := fun x hx => by unfold encD; rw [(h x hx).1]; rfl
  simp only [sortOk, Bool.and_eq_true, List.all_eq_true, decide_eq_true_eq, Bool.or_eq_true, List.mem_map, List.length_map]
  refine ⟨⟨⟨?_, ?_⟩, .inl ?_⟩, hl⟩
  · rintro _ ⟨x, hx, rfl⟩
    rw [he x hx, (h x hx).1]
    exact ⟨rfl, (h x hx).2.1⟩
  · rintro _ ⟨x, hx, rfl⟩ _ ⟨y, hy, rfl⟩
    rw [he x hx, he y hy]
    exact ha x hx y hy
  · rintro _ ⟨x, hx, rfl⟩
    rw [he x hx]
    exact (h x hx).2.2
theorem sorted_tup {μ : Mem} {n : Nat} {f : α → D} (e : μ[n]? = some (.lst (l.map f))) (hl : l.length ≤ 1000000) (h : ∀ x ∈ l, D.py? 8 μ (f x) = some (enc x) ∧ (enc x).depth ≤ 32 ∧ isTupD (enc x) = true) (ha : ∀ x ∈ l, ∀ y ∈ l, PySem.W.alike (enc x) (enc y) = true) :
    sortedA [.ref n] μ = .ok (.ref μ.length) (μ ++ [.lst ((sortE enc l).map f)]) := by
  have he : ∀ x ∈ l, encD μ (f x) = enc x := fun x hx => by unfold encD; rw [(h x hx).1]; rfl
  cases l with
  | nil => simp [sortedA, sortedL, e, intsAt, toInts, isort, sortE]
  | cons x l =>
  have hi : intsAt (.ref n) μ = none := by
    obtain ⟨h1, _, h3⟩ := h x (by simp)
    simp only [intsAt, e, List.map_cons]
    cases q : f x with
    | int i =>
      rw [q] at h1
      simp only [D.py?, Option.some.injEq] at h1
      rw [← h1] at h3; cases h3
    | _ => simp [toInts]
  have s : sortedL [.ref n] μ = .stuck := by simp only [sortedL, e, hi]
  simp only [sortedA, s, sortedD, lstAt, e, sortOk_tup hl h ha, if_true, sortD_map he]
end
end RW

/-! SEu: repr of data, comparison of texts. -/
namespace RW
open PySem PySem.Spec L2
/-! ### data, empty dicts among them -/
mutual
def D.sh? : Nat → Mem → D → Option PyData
  | _, _, .non => some .none
  | _, _, .bl b => some (.bool b)
  | _, _, .int i => some (.int i)
  | _, _, .str s => some (.str s)
  | n + 1, μ, .tup l => (D.shs? n μ l).map PyData.tuple
  | n + 1, μ, .ref m => match μ[m]? with
    | some (.lst l) => (D.shs? n μ l).map PyData.list
    | some (.dic []) => some (.dict [])
    | _ => none
  | _, _, _ => none
def D.shs? : Nat → Mem → List D → Option (List PyData)
  | _, _, [] => some []
  | n, μ, d :: l => match D.sh? n μ d, D.shs? n μ l with
    | some k, some r => some (k :: r)
    | _, _ => none
end
def showOk (p : PyData) : Bool := p.showable && decide (p.shown.length ≤ sizeLine) && decide (p.depth ≤ 16)
def reprL : List D → Mem → Res D
  | [x], μ => match D.sh? 8 μ x with
    | some p => if showOk p = true then .ok (.str p.shown) μ else .stuck
    | none => .stuck
  | _, _ => .stuck
/-- what is known of a value that shows p -/
structure Shw (P : Program) (w : World) (h : Heap) (u : Value) (p : PyData) : Prop where
  rd : ∃ as, Reads h u p as
  sh : ∃ bs, ReadAtMost h p.depth bs ∧ ReprK P w bs h p.depth u p.shown
  top : ∀ (A : Around) (E : Value → Shared → Prop) (c : Shared) (Q : Value → Shared → Prop), A.guards = some [] → A.units + (p.depth + 1) < cLine → (∀ b o, h.get? b = some o → c.heap.get? b = some o) →
    (∀ k t n, (∀ b o, c.heap.get? b = some o → k.get? b = some o) → Q (.str p.shown t) { c with heap := k, toks := n }) → wpAny (model P w) A (call (.builtin "repr") [u]) Q E c
structure ShwAll (P : Program) (w : World) (h : Heap) (us : List Value) (ps : List PyData) : Prop where
  rd : ∃ as, ReadsAll h us ps as
  sh : ∃ bs, ReadAtMost h (PyData.depthAll ps) bs ∧ ReprAllK P w bs h (PyData.depthAll ps) us (PyData.shownAll ps)
section
variable {P : Program} {w : World} {h : Heap}
theorem shw_none : Shw P w h .none .none := ⟨⟨_, .none⟩, ReprK.of_reads .none rfl (fun z => by cases z) (by decide), fun A E c Q _ _ _ q => PySem.P.repr_of_none (by
  have z := q c.heap c.toks (c.toks + 1) fun _ _ e => e
  simpa only [PyData.shown] using z)⟩
theorem shw_bool (b : Bool) : Shw P w h (.bool b) (.bool b) := ⟨⟨_, .bool b⟩, ReprK.of_reads (.bool b) rfl (fun z => by cases z) (by cases b <;> decide), fun A E c Q _ _ _ q => PySem.P.repr_of_bool (by
  have z := q c.heap c.toks (c.toks + 1) fun _ _ e => e
  simpa only [PyData.shown] using z)⟩
theorem shw_int {i : Int} {t : Tok} (hs : (PyData.int i).showable = true) (hz : (PyData.int i).shown.length ≤ sizeLine) : Shw P w h (.int i t) (.int i) := ⟨⟨_, .int i t⟩, ReprK.of_reads (.int i t) hs (fun z => by cases z) hz, fun A E c Q _ _ _ q => PySem.P.repr_of_int (by simpa [PyData.showable] using hs) (by
  have z := q c.heap c.toks (c.toks + 1) fun _ _ e => e
  simpa only [PyData.shown] using z)⟩
theorem shw_str {x : Str} {t : Tok} (hz : (PyData.str x).shown.length ≤ sizeLine) : Shw P w h (.str x t) (.str x) := ⟨⟨_, .str x t⟩, ReprK.of_reads (.str x t) rfl (fun z => by cases z) hz, fun A E c Q _ _ _ q => PySem.P.repr_of_str (by
  have z := q c.heap c.toks (c.toks + 1) fun _ _ e => e
  simpa only [PyData.shown] using z) (by simpa only [PyData.shown] using hz)⟩
theorem shw_nil : ShwAll P w h [] [] := ⟨⟨_, .nil⟩, [], (fun _ z => nomatch z), by simp only [PyData.shownAll]; exact .nil⟩
theorem shw_cons {u : Value} {us : List Value} {p : PyData} {ps : List PyData} (a : Shw P w h u p) (b : ShwAll P w h us ps) : ShwAll P w h (u :: us) (p :: ps) := by
  obtain ⟨⟨as, r⟩, ⟨bs, b1, k1⟩, -⟩ := a
  obtain ⟨⟨as', r'⟩, ⟨bs', b2, k2⟩⟩ := b
  refine ⟨⟨_, .cons r r'⟩, bs ++ bs', ?_, ?_⟩
  · simp only [PyData.depthAll]
    exact (b1.mono (Nat.le_max_left _ _)).append (b2.mono (Nat.le_max_right _ _))
  · simp only [PyData.depthAll, PyData.shownAll]
    exact .cons ((k1.more fun _ z => List.mem_append_left _ z).level_le (Nat.le_max_left _ _)) (k2.more_le (fun _ z => List.mem_append_right _ z) (Nat.le_max_right _ _))
theorem shw_tuple {a : Addr} {o : Obj} {its : Array Value} {n : Nat} {ps : List PyData} (h1 : h.get? a = some o) (h2 : o.cls = .type "tuple") (h3 : o.data = .seq its n) (b : ShwAll P w h its.toList ps)
    (hz : (PyData.tuple ps).shown.length ≤ sizeLine) : Shw P w h (.ref a) (.tuple ps) := by
  obtain ⟨⟨as, r⟩, ⟨bs, b1, k1⟩⟩ := b
  have rt : Reads h (.ref a) (.tuple ps) _ := .tuple h1 h2 h3 r
  have far : a ∉ bs := not_mem_of_deeper rt (by simp only [PyData.depth]; omega) b1
  simp only [PyData.shown] at hz
  refine ⟨⟨_, rt⟩, ⟨a :: bs, ReadAtMost.cons rt (by simp only [PyData.depth]; omega) b1, ?_⟩, fun A E c Q hg hu hk q => ?_⟩
  · simp only [PyData.depth, PyData.shown]
    exact ReprK.tuple h1 h2 h3 far k1
  · simp only [PyData.depth] at hu
    simp only [PyData.shown] at q
    refine call_repr_slot (by omega) ⟨o, hk _ _ h1, h2⟩ F.slot_tuple_repr ?_
    exact call_tuple_reprK h1 h2 h3 far k1 (A := A.in1) hg (fun b _ => Clear.nil b) (by show A.units + 1 + _ < _; omega) hk (fun k t n z => ⟨_, _, rfl, q k t n z⟩) hz
theorem shw_list {a : Addr} {o : Obj} {its : Array Value} {n : Nat} {ps : List PyData} (h1 : h.get? a = some o) (h2 : o.cls = .type "list") (h3 : o.data = .seq its n) (b : ShwAll P w h its.toList ps)
    (hz : (PyData.list ps).shown.length ≤ sizeLine) : Shw P w h (.ref a) (.list ps) := by
  obtain ⟨⟨as, r⟩, ⟨bs, b1, k1⟩⟩ := b
  have rt : Reads h (.ref a) (.list ps) _ := .list h1 h2 h3 r
  have far : a ∉ bs := not_mem_of_deeper rt (by simp only [PyData.depth]; omega) b1
  simp only [PyData.shown] at hz
  obtain ⟨l⟩ := its
  cases l with
  | nil =>
    cases (show ReadsAll h [] ps _ from r)
    refine ⟨⟨_, rt⟩, ⟨a :: bs, ReadAtMost.cons rt (by simp only [PyData.depth]; omega) b1, ?_⟩, fun A E c Q hg hu hk q => ?_⟩
    · simp only [PyData.shown, PyData.shownAll, listText_nil]
      exact ReprK.listEmpty h1 h2 h3
    · simp only [PyData.shown, PyData.shownAll, listText_nil] at q
      refine call_repr_slot (by omega) ⟨o, hk _ _ h1, h2⟩ F.slot_list_repr.toG ?_
      exact call_list_repr_empty ⟨o, hk _ _ h1, h2⟩ (hk _ _ h1) h3 ⟨_, _, rfl, q c.heap _ _ fun _ _ z => z⟩
  | cons x l =>
    have each : ∀ (i : Nat) (y : Value), (x :: l).toArray[i]? = some y → ∃ t, (PyData.shownAll ps)[i]? = some t ∧ ReprK P w bs h (PyData.depthAll ps) y t := fun i y e => k1.item i y (by simpa using e)
    have long : (PyData.shownAll ps).length = (x :: l).toArray.size := by simpa using k1.length_eq
    refine ⟨⟨_, rt⟩, ⟨a :: bs, ReadAtMost.cons rt (by simp only [PyData.depth]; omega) b1, ?_⟩, fun A E c Q hg hu hk q => ?_⟩
    · simp only [PyData.depth, PyData.shown]
      exact ReprK.list h1 h2 h3 far long each
    · simp only [PyData.depth] at hu
      simp only [PyData.shown] at q
      refine call_repr_slot (by omega) ⟨o, hk _ _ h1, h2⟩ F.slot_list_repr.toG ?_
      exact call_list_reprK h1 h2 h3 far long each (A := A.in1) hg (fun b _ => Clear.nil b) (by show A.units + 1 + _ < _; omega) hk (fun k t n z => ⟨_, _, rfl, q k t n z⟩) hz
theorem shw_dict0 {a : Addr} {o : Obj} {es : Array DictEntry} {n : Nat} (h1 : h.get? a = some o) (h2 : o.cls = .type "dict") (h3 : o.data = .dict es n) (he : es.toList = []) (hs : (a == sysModules) = false) : Shw P w h (.ref a) (.dict []) := by
  have rt : Reads h (.ref a) (.dict []) _ := .dict h1 h2 h3 (by rw [he]; exact .nil) (by rw [he]; exact .nil)
  have k0 : ReprEntriesK P w [] h 0 es.toList [] := by rw [he]; exact .nil
  have nothing : a ∉ ([] : List Addr) := List.not_mem_nil
  refine ⟨⟨_, rt⟩, ⟨[a], ReadAtMost.cons rt (Nat.zero_le _) (fun _ z => nomatch z), ?_⟩, fun A E c Q hg hu hk q => ?_⟩
  · simp only [PyData.depth, PyData.shown, PyData.shownKv, PyData.depthKv]
    exact ReprK.dict h1 h2 h3 hs nothing k0
  · simp only [PyData.depth, PyData.depthKv] at hu
    simp only [PyData.shown, PyData.shownKv] at q
    refine call_repr_slot (by omega) ⟨o, hk _ _ h1, h2⟩ F.slot_dict_repr ?_
    exact call_dict_reprK h1 h2 h3 hs nothing k0 (A := A.in1) hg (fun b _ => Clear.nil b) (by show A.units + 1 + _ < _; omega) hk (fun k t n z => ⟨_, _, rfl, q k t n z⟩) (by decide)
end
/-! ### sizes of the parts -/
theorem shownAll_mem : ∀ {ps : List PyData} {p : PyData}, p ∈ ps → p.shown ∈ PyData.shownAll ps
  | q :: ps, p, hm => by
    simp only [PyData.shownAll]
    rcases List.mem_cons.mp hm with rfl | hm
    · exact List.mem_cons_self
    · exact List.mem_cons_of_mem _ (shownAll_mem hm)
theorem showableAll_mem : ∀ {ps : List PyData}, PyData.showableAll ps = true → ∀ p ∈ ps, p.showable = true
  | q :: ps, e, p, hm => by
    simp only [PyData.showableAll, Bool.and_eq_true] at e
    rcases List.mem_cons.mp hm with rfl | hm
    · exact e.1
    · exact showableAll_mem e.2 p hm
def okP (p : PyData) : Prop := p.showable = true ∧ p.shown.length ≤ sizeLine
theorem okP_tuple {ps : List PyData} (h : okP (.tuple ps)) : ∀ p ∈ ps, okP p := fun p hm => ⟨showableAll_mem (by simpa only [PyData.showable] using h.1) p hm, by
  have z := h.2
  simp only [PyData.shown] at z
  exact Nat.le_trans (tupleText_mem_le (shownAll_mem hm)) z⟩
theorem okP_list {ps : List PyData} (h : okP (.list ps)) : ∀ p ∈ ps, okP p := fun p hm => ⟨showableAll_mem (by simpa only [PyData.showable] using h.1) p hm, by
  have z := h.2
  simp only [PyData.shown] at z
  exact Nat.le_trans (listText_mem_le (shownAll_mem hm)) z⟩
/-! ### what data show -/
section
variable {X : Cx} {pins : List (Addr × Obj)} {σ : St} {H : Hp} {s : Shared} {ι : List Addr} {μ : Mem}
mutual
theorem shw_of (I : Inv X pins σ H s) (r : Rel (gOf X) ι H μ) : ∀ (n : Nat) (d : D) (v : V) (u : Value) (p : PyData), Rep (gOf X) ι H d v → RelV v u → D.sh? n μ d = some p → okP p → Shw X.prog X.w s.heap u p
  | n, .non, v, u, p, h, e, q, k => by
    unfold D.sh? at q
    cases q
    rw [h.non] at e
    cases e
    exact shw_none
  | n, .bl b, v, u, p, h, e, q, k => by
    unfold D.sh? at q
    cases q
    rw [h.bl] at e
    cases e
    exact shw_bool b
  | n, .int i, v, u, p, h, e, q, k => by
    unfold D.sh? at q
    cases q
    rw [h.int] at e
    obtain ⟨t, rfl⟩ := e
    exact shw_int k.1 k.2
  | n, .str x, v, u, p, h, e, q, k => by
    unfold D.sh? at q
    cases q
    rw [h.str] at e
    obtain ⟨t, rfl⟩ := e
    exact shw_str k.2
  | n + 1, .tup l, v, u, p, h, e, q, k => by
    unfold D.sh? at q
    obtain ⟨ps, e1, rfl⟩ := Option.map_eq_some_iff.mp q
    obtain ⟨a, vs, rfl, h1, h2⟩ := h.tup
    cases e
    obtain ⟨its, rv, ⟨o, g1, g2, m, g3⟩, _⟩ := I.tuple h1
    exact shw_tuple g1 g2 g3 (by simpa using shws_of I r n l vs its ps h2 rv e1 (okP_tuple k)) k.2
  | n + 1, .ref m, v, u, p, h, e, q, k => by
    unfold D.sh? at q
    split at q
    · rename_i l em
      obtain ⟨ps, e1, rfl⟩ := Option.map_eq_some_iff.mp q
      obtain ⟨a, vs, rfl, h1, h2, h3⟩ := r.lst em h
      cases e
      obtain ⟨its, rv, ⟨o, m, g1, g2, _, g3⟩, _⟩ := I.list (.of h2)
      exact shw_list g1 g2 g3 (by simpa using shws_of I r n l vs its ps h3 rv e1 (okP_list k)) k.2
    · rename_i em
      cases q
      obtain ⟨a, h0, rfl⟩ := h.ref
      cases e
      obtain ⟨kvs, h1, h2⟩ := r.cell m _ a em h0
      cases h2
      obtain ⟨_, h3, vs, h4, o, es, ep, g1, g2, g3, g4, g5, _⟩ := dk_of I.hok h1
      cases h4
      exact shw_dict0 g1 g2.1 g3 (by revert g5; generalize es.toList = l; intro g5; cases g5; rfl) h3
    · cases q
  | _, .fn _, _, _, _, _, _, q, _ => by unfold D.sh? at q; cases q
  | _, .frl _, _, _, _, _, _, q, _ => by unfold D.sh? at q; cases q
  | 0, .tup _, _, _, _, _, _, q, _ => by unfold D.sh? at q; cases q
  | 0, .ref _, _, _, _, _, _, q, _ => by unfold D.sh? at q; cases q
theorem shws_of (I : Inv X pins σ H s) (r : Rel (gOf X) ι H μ) : ∀ (n : Nat) (l : List D) (vs : List V) (us : List Value) (ps : List PyData), Reps (gOf X) ι H l vs → Vals vs us → D.shs? n μ l = some ps → (∀ p ∈ ps, okP p) → ShwAll X.prog X.w s.heap us ps
  | n, [], vs, us, ps, h, e, q, k => by
    unfold D.shs? at q
    cases q
    rw [h.nil_inv] at e
    cases e
    exact shw_nil
  | n, d :: l, vs, us, ps, h, e, q, k => by
    unfold D.shs? at q
    obtain ⟨v, x, rfl, h1, h2⟩ := h.cons_inv
    cases e with
    | cons r1 r2 =>
      split at q
      · rename_i p q' e1 e2
        cases q
        exact shw_cons (shw_of I r n d v _ p h1 r1 e1 (k _ List.mem_cons_self)) (shws_of I r n l x _ q' h2 r2 e2 fun z hz => k z (List.mem_cons_of_mem _ hz))
      · cases q
end
end
def rRepr (G : Gd) : List V → Hp → VK → Prop := fun xs H Q => ∃ (v : V) (d : D) (ι : List Addr) (μ : Mem) (p : PyData), xs = [v] ∧ Rel G ι H μ ∧ Rep G ι H d v ∧ D.sh? 8 μ d = some p ∧ showOk p = true ∧ Q (.str p.shown) H
theorem cr_repr {X : Cx} (hg : X.A.guards = some []) (hu : X.A.units + 64 < cLine) : CallR X (.builtin "repr") (rRepr (gOf X)) := by
  intro pins s σ H xs us Q I r h
  obtain ⟨v, d, ι, μ, p, rfl, rel, rep, hp, ok, q⟩ := h
  obtain ⟨u, rfl, ru⟩ := vals1 r
  simp only [showOk, Bool.and_eq_true, decide_eq_true_eq] at ok
  have S := shw_of I rel 8 d v u p rep ru hp ⟨ok.1.1, ok.1.2⟩
  exact S.top X.A X.xe s _ hg (by omega) (fun _ _ z => z) fun k t n z => ⟨.str p.shown, H, I.kept z, ⟨t, rfl⟩, q⟩
theorem snd_repr {G : Gd} : SndL G (rRepr G) reprL := fun ι H μ xs vs W σ Q r rxs h => by
  unfold reprL at h
  split at h
  · rename_i x
    obtain ⟨v, w, rfl, h1, h2⟩ := rxs.cons_inv
    rw [h2.nil_inv]
    split at h
    · rename_i p hp
      split at h
      · rename_i hs
        exact ⟨v, x, ι, μ, p, rfl, r, h1, hp, hs, h ι H .refl r _ (rep_str _)⟩
      · exact h.elim
    · exact h.elim
  · exact h.elim
end RW

/-! SEv: t[::-1], t[i::-1] of tuples and lists. -/
namespace RW
open PySem PySem.Spec L2
open PyProof.Rows hiding St
/-- how many items stand up to where the slice begins -/
def upTo (lo : Option Int) (n : Nat) : Nat := ((Builtin.Slice.sliceAdjust lo none (-1) (n : Int)).1 + 1).toNat
theorem adjust_back (lo : Option Int) (n : Nat) : Builtin.Slice.sliceAdjust lo none (-1) (n : Int) = ((upTo lo n : Int) - 1, -1) ∧ upTo lo n ≤ n := by
  have s1 : ((-1 : Int) < 0) := by decide
  unfold upTo Builtin.Slice.sliceAdjust
  simp only [s1, if_true]
  cases lo with
  | none => refine ⟨Prod.ext ?_ rfl, ?_⟩ <;> dsimp only <;> omega
  | some v =>
    by_cases hv : v < 0
    · simp only [if_pos hv]
      refine ⟨Prod.ext ?_ rfl, ?_⟩ <;> (try dsimp only) <;> omega
    · simp only [if_neg hv]
      refine ⟨Prod.ext ?_ rfl, ?_⟩ <;> (try dsimp only) <;> omega
theorem places_back (m : Nat) : Builtin.Slice.slicePlaces ((m : Int) - 1) (-1) (-1) = m := by
  unfold Builtin.Slice.slicePlaces
  have s1 : ¬ ((-1 : Int) > 0) := by decide
  simp only [s1, if_false]
  split
  · rw [show (-(-1 : Int)) = 1 by decide, Int.ediv_one]; omega
  · omega
theorem take_back {α : Type} (xs : List α) : ∀ m, m ≤ xs.length → (List.range m).filterMap (fun (k : Nat) => xs[((m : Int) - 1 + (k : Int) * (-1)).toNat]?) = (xs.take m).reverse
  | 0, _ => rfl
  | m + 1, h => by
    have e : xs.take (m + 1) = xs.take m ++ [xs[m]] := by rw [List.take_succ, List.getElem?_eq_getElem (by omega)]; rfl
    rw [e, List.reverse_append, List.reverse_singleton, List.singleton_append, List.range_succ_eq_map, List.filterMap_cons]
    have h0 : (((m + 1 : Nat) : Int) - 1 + ((0 : Nat) : Int) * (-1)).toNat = m := by omega
    rw [h0, List.getElem?_eq_getElem (by omega)]
    simp only
    rw [List.filterMap_map, ← take_back xs m (by omega)]
    have same : ((fun (k : Nat) => xs[(((m + 1 : Nat) : Int) - 1 + (k : Int) * (-1)).toNat]?) ∘ Nat.succ) = fun (k : Nat) => xs[((m : Int) - 1 + (k : Int) * (-1)).toNat]? := by
      funext k
      have : (((m + 1 : Nat) : Int) - 1 + ((Nat.succ k : Nat) : Int) * (-1)).toNat = ((m : Int) - 1 + (k : Int) * (-1)).toNat := by omega
      simp only [Function.comp_def, this]
    rw [same]
section
variable {prog : Program} {w : World} {A : Around} {E : Value → Shared → Prop} {s : Shared}
theorem item_back {t sl : Addr} {items : List Value} {vl vu vs : Value} {lo : Option Int} {Q : Value → Shared → Prop} (ht : IsTup s.heap t items.toArray) (hs : s.heap.IsSliceOf sl vl vu vs) (pl : IsPart vl lo) (pu : IsPart vu none) (ps : IsPart vs (some (-1)))
    (hz : items.length ≤ sizeLine) (q : Q (.ref s.heap.objs.size) { s with heap := s.heap.push { cls := .type "tuple", data := .seq ((items.take (upTo lo items.length)).reverse).toArray } }) :
    wpAny (model prog w) A (getItem (.ref t) (.ref sl)) Q E s := by
  have room : sizeOk (.seq ((items.take (upTo lo items.length)).reverse).toArray) := by
    show ((items.take (upTo lo items.length)).reverse).toArray.size ≤ sizeLine
    rw [List.size_toArray, List.length_reverse, List.length_take]
    omega
  obtain ⟨os, s1, s2, s3⟩ := id hs
  have ty : s.TypeIs (.ref sl) "slice" := ⟨os, s1, s2⟩
  obtain ⟨ad, le⟩ := adjust_back lo items.length
  unfold getItem
  try with_reducible apply wpAny_holding
  first | refine wpAny_bind (wpAny_pure ?_) | skip
  apply wpAny_bind
  apply wpAny_sequenceKey ht.typeIs (by decide)
  apply wpAny_bind
  apply wpAny_callSpecial?_slot (name := Str.ofString "__getitem__") ht.typeIs PyProof.Rows.slot_tuple_getitem
  refine wpAny_call_entry PyProof.Rows.slot_tuple_getitem ht.typeIs PyProof.Rows.entry_tuple_getitem ?_ (PyProof.Rows.args_tuple_getitem _ _)
  show wpAny _ _ (Builtin.Tuple.tupleItemsOf (.ref t) >>= _) _ _ s
  apply wpAny_bind
  apply PyProof.Rows.tupleItemsOf_ ht
  apply wpAny_bind
  apply wpAny_typeOf ty
  rw [if_pos (by decide)]
  apply wpAny_bind
  show wpAny _ _ (Builtin.Slice.sliceApplied (.ref sl) (pure (items.toArray.size : Int))) _ _ s
  unfold Builtin.Slice.sliceApplied Builtin.Slice.sliceFields
  refine wpAny_bind (wpAny_bind (wpAny_field s1 s3 (x := vl) rfl (wpAny_bind (wpAny_field s1 s3 (x := vu) rfl (wpAny_bind (wpAny_field s1 s3 (x := vs) rfl (wpAny_pure ?_)))))))
  apply wpAny_bind
  apply HT.slicePart_ ps
  show wpAny _ _ (if ((-1 : Int) == 0) = true then _ else _) _ _ s
  rw [if_neg (by decide)]
  apply wpAny_bind
  apply HT.slicePart_ pl
  apply wpAny_bind
  apply HT.slicePart_ pu
  apply wpAny_bind
  apply wpAny_pure
  show wpAny _ _ (match Builtin.Slice.sliceAdjust lo none (-1) (items.toArray.size : Int) with | (lo, hi) => pure (lo, (-1 : Int), Builtin.Slice.slicePlaces lo hi (-1))) _ _ s
  rw [List.size_toArray, ad]
  show wpAny _ _ (pure ((upTo lo items.length : Int) - 1, (-1 : Int), Builtin.Slice.slicePlaces ((upTo lo items.length : Int) - 1) (-1) (-1))) _ _ s
  rw [places_back]
  apply wpAny_pure
  show wpAny _ _ (if ((upTo lo items.length : Int) - 1 == 0 && (-1 : Int) == 1 && upTo lo items.length == items.toArray.size) = true then _ else _) _ _ s
  rw [if_neg (by simp)]
  have pick : ((List.range (upTo lo items.length)).filterMap fun (k : Nat) => items.toArray[((upTo lo items.length : Int) - 1 + (k : Int) * (-1)).toNat]?).toArray = ((items.take (upTo lo items.length)).reverse).toArray := by
    rw [← take_back items _ le]
    simp only [List.getElem?_toArray]
  rw [pick]
  first
    | exact wpAny_bind (m := Builtin.Tuple.tupleExact _) (wpAny_newObj_type (wpAny_pure ⟨_, rfl, wpAny_pure q⟩) room)
    | exact wpAny_bind (wpAny_bind (m := Builtin.Tuple.tupleExact _) (wpAny_newObj_type (wpAny_pure (wpAny_pure ⟨_, rfl, wpAny_pure q⟩)) room))
    | exact wpAny_bind (wpAny_bind (m := Builtin.Tuple.tupleExact _) (wpAny_newObj_type (wpAny_pure ⟨_, rfl, wpAny_pure q⟩) room))
end
def tBack (K : PySem.W.Frag) (te : TE) (tl : TO) : TE := fun σ H Q => te σ H fun x H1 => tl σ H1 fun lo H2 => ∃ a xs, x = .ref a ∧
  ((SqT K H2 a xs ∧ ∀ p, H2 p = none → Q (.ref p) (upd H2 p (.tup (xs.take (upTo lo xs.length)).reverse))) ∨ (SqL K H2 a xs ∧ lo = none ∧ ∀ p, H2 p = none → Q (.ref p) (upd H2 p (.lst xs.reverse))))
section
variable {X : Cx} {W : WX} {e i : Expr} {te : TE} {lo : Option Expr} {tl : TO} {k : Nat} {p1 p2 p3 pos : Pos} {me mi : MD}
theorem pe_back (he : PE X e te) (hl : PO X lo tl) : PE X (.Subscript e (.Slice lo none (some (.UnaryOp .USub (.Constant (.int 1) k p1) p2)) p3) pos) (tBack X.K te tl) := by
  have step : PO X (some (.UnaryOp .USub (.Constant (.int 1) k p1) p2)) (tPart (tUn (rU fun i => .int (-i)) (tC (.int 1)))) := po_some (pe_un un_neg pe_int)
  constructor
  intro pins c τ M R I h
  apply Subscript_
  apply thn (he.run pins c τ M _ I h)
  rintro v c1 ⟨x, M1, I1, rx, q⟩
  apply wpAny_Slice
  apply thn (hl.run pins c1 τ M1 _ I1 q)
  rintro vl c2 ⟨l, M2, I2, pl, q2⟩
  apply thn (po_none.run pins c2 τ M2 (fun o N => o = none ∧ N = M2) I2 ⟨rfl, rfl⟩)
  rintro vu c3 ⟨o3, M3, I3, pu, e1, e2⟩
  rw [e1] at pu
  rw [e2] at I3
  apply thn (step.run pins c3 τ M2 (fun o N => o = some (-1) ∧ N = M2) I3 ⟨1, rfl, -1, rfl, rfl, rfl⟩)
  rintro vs c4 ⟨o4, M4, I4, ps, e3, e4⟩
  rw [e3] at ps
  rw [e4] at I4
  have I5 := I4.kept (h' := c4.heap.push { cls := .type "slice", data := .fields #[vl, vu, vs] }) (t' := c4.toks) fun b o z => Heap.get?_push_of_some _ z
  obtain ⟨a, xs, rfl, q2⟩ := q2
  cases rx
  show wpAny (model X.prog X.w) X.A (subscriptTail e (.Slice lo none (some (.UnaryOp .USub (.Constant (.int 1) k p1) p2)) p3) (.ref a) (.ref c4.heap.objs.size)) _ X.xe { c4 with heap := c4.heap.push { cls := .type "slice", data := .fields #[vl, vu, vs] } }
  rcases q2 with ⟨ht, q2⟩ | ⟨ht, rfl, q2⟩
  · obtain ⟨its, r, tt, hz⟩ := I5.tuple ht
    refine tail_any (ops := [.ref a, .ref c4.heap.objs.size]) tt.typeIs PyProof.Rows.slot_tuple_getitem.lookup ?_ (by with_unfolding_all rfl)
    apply item_back tt (Heap.IsSliceOf.new _ vl vu vs) pl pu ps (by rw [← r.length]; exact hz)
    have e : its.length = xs.length := r.length.symm
    have r2 : Vals (xs.take (upTo l xs.length)).reverse (its.take (upTo l its.length)).reverse := by
      rw [e]
      exact (r.take _).reverse
    have le : (xs.take (upTo l xs.length)).reverse.length ≤ sizeLine := by
      rw [List.length_reverse, List.length_take]
      omega
    exact ⟨.ref _, _, I5.laid (t' := c4.toks) (o := .tup (xs.take (upTo l xs.length)).reverse) (fun b o z => Heap.get?_push_of_some _ z) (Nat.le_refl _) ⟨le, _, r2, IsTup.new _ _⟩, rfl, q2 _ (I5.hok.fresh (Nat.le_refl _))⟩
  · obtain ⟨its, r, tt, hz⟩ := I5.list ht
    refine tail_any (ops := [.ref a, .ref c4.heap.objs.size]) tt.isList.typeIs PySem.slot_list_getitem.lookup ?_ (by with_unfolding_all rfl)
    refine wpAny_getItem_list_slice tt.isList (Heap.IsSliceOf.new _ vl vu vs) pl pu ps (by decide) ?_ (by rw [List.size_toArray, ← r.length]; exact hz)
    rw [PySem.W.krv_pick]
    exact ⟨.ref _, _, I5.laid (t' := c4.toks) (o := .lst xs.reverse) (fun b o z => Heap.get?_push_of_some _ z) (Nat.le_refl _) ⟨by rw [List.length_reverse]; exact hz, _, 0, r.reverse, Heap.get?_push_size _ rfl⟩, rfl, q2 _ (I5.hok.fresh (Nat.le_refl _))⟩
/-- x[::-1] of a list or a tuple -/
def backD (x : D) (μ : Mem) : Res D := match x with
  | .tup l => .ok (.tup l.reverse) μ
  | _ => revD x μ
theorem upTo_none (n : Nat) : upTo none n = n := by
  have := adjust_back none n
  unfold upTo Builtin.Slice.sliceAdjust
  simp
theorem se_back (he : SE X W e me) : SE X W (.Subscript e (.Slice none none (some (.UnaryOp .USub (.Constant (.int 1) k p1) p2)) p3) pos) (mUn backD me) :=
  PE.mono (pe_back he po_none) fun σ H Q ⟨ρ, μ, ι, env, rel, h⟩ =>
    ⟨ρ, μ, ι, env, rel, (Post.bind h).imp fun ι1 H1 μ1 x _ _ ⟨g1, r1, h1⟩ v rv => by
      unfold backD at h1
      split at h1
      · rename_i l
        obtain ⟨a, vs, rfl, h2, h3⟩ := rv.tup
        refine ⟨a, vs, rfl, .inl ⟨h2, ?_⟩⟩
        rw [upTo_none, List.take_length]
        exact new_tup r1 h3.reverse h1
      · simp only [revD] at h1
        split at h1
        · rename_i l el
          obtain ⟨p, vs, rfl, h2, h3⟩ := lstAt_is r1 rv el
          exact ⟨p, vs, rfl, .inr ⟨h2, rfl, new_lst r1 h3.reverse h1⟩⟩
        · exact h1.elim⟩
/-- x[i::-1] of a tuple -/
def backAtD (i : Int) (x : D) (μ : Mem) : Res D := match x with
  | .tup l => .ok (.tup (l.take (upTo (some i) l.length)).reverse) μ
  | _ => .stuck
theorem se_backAt {j : Nat} {i : Int} {p4 : Pos} (he : SE X W e me) : SE X W (.Subscript e (.Slice (some (.Constant (.int i) j p4)) none (some (.UnaryOp .USub (.Constant (.int 1) k p1) p2)) p3) pos) (mUn (backAtD i) me) :=
  PE.mono (pe_back he (po_some pe_int)) fun σ H Q ⟨ρ, μ, ι, env, rel, h⟩ =>
    ⟨ρ, μ, ι, env, rel, (Post.bind h).imp fun ι1 H1 μ1 x _ _ ⟨g1, r1, h1⟩ v rv => by
      unfold backAtD at h1
      split at h1
      · rename_i l
        obtain ⟨a, vs, rfl, h2, h3⟩ := rv.tup
        refine ⟨i, rfl, a, vs, rfl, .inl ⟨h2, ?_⟩⟩
        rw [h3.length]
        exact new_tup r1 (h3.take _).reverse h1
      · exact h1.elim⟩
end
/-! ### texts -/
def eqT (x y : D) (μ : Mem) : Res D := match x, y with
  | .str a, .str b => .ok (.bl (decide (a = b))) μ
  | _, _ => .stuck
def neT (x y : D) (μ : Mem) : Res D := match x, y with
  | .str a, .str b => .ok (.bl (!decide (a = b))) μ
  | _, _ => .stuck
theorem snd_eqT {G : Gd} : Snd2 G rEq eqT := fun ι H μ x y v u W σ Q r rx ry h => by
  unfold eqT at h
  split at h
  · rename_i a b
    rw [rx.str, ry.str]
    refine ⟨rfl, ?_⟩
    have e : decide (V.str a = V.str b) = decide (a = b) := by simp
    rw [e]
    exact h ι H .refl r _ (rep_bl _)
  · exact h.elim
theorem snd_neT {G : Gd} : Snd2 G rNe neT := fun ι H μ x y v u W σ Q r rx ry h => by
  unfold neT at h
  split at h
  · rename_i a b
    rw [rx.str, ry.str]
    refine ⟨rfl, ?_⟩
    have e : decide (V.str a = V.str b) = decide (a = b) := by simp
    rw [e]
    exact h ι H .refl r _ (rep_bl _)
  · exact h.elim
def strL : List D → Mem → Res D
  | [.int i], μ => if i.natAbs.log2 < 1920 then .ok (.str (toString i)) μ else .stuck
  | [.str s], μ => .ok (.str s) μ
  | _, _ => .stuck
theorem call_strA {X : Cx} : CallR X (.type "str") (fun xs H Q => (∃ i, xs = [.int i] ∧ i.natAbs.log2 < 1920 ∧ Q (.str (toString i)) H) ∨ ∃ a, xs = [.str a] ∧ Q (.str a) H) := CallR.or call_str_int SkE.call_str_str
theorem snd_strL {G : Gd} : SndL G (fun xs H Q => (∃ i, xs = [.int i] ∧ i.natAbs.log2 < 1920 ∧ Q (.str (toString i)) H) ∨ ∃ a, xs = [.str a] ∧ Q (.str a) H) strL := fun ι H μ xs vs W σ Q r rxs h => by
  unfold strL at h
  split at h
  · obtain ⟨v, rfl, rv⟩ := rxs.one
    split at h
    · rename_i hi
      exact .inl ⟨_, by rw [rv.int], hi, h ι H .refl r _ (rep_str _)⟩
    · exact h.elim
  · obtain ⟨v, rfl, rv⟩ := rxs.one
    exact .inr ⟨_, by rw [rv.str], h ι H .refl r _ (rep_str _)⟩
  · exact h.elim
end RW

/-! SEw: zip of two lists; dict(list of pairs) with keys that are tuples. -/
namespace RW
open PySem L2 PySem.Spec
open PyProof.Rows hiding St
/-! ### zip -/
def zipItems : List D → List D → List D
  | a :: l, b :: r => .tup [a, b] :: zipItems l r
  | _, _ => []
theorem zipItems_get : ∀ {l r : List D} {i : Nat} {d : D}, (zipItems l r)[i]? = some d → ∃ x y, l[i]? = some x ∧ r[i]? = some y ∧ d = .tup [x, y]
  | [], _, i, d, e => by simp [zipItems] at e
  | a :: l, [], i, d, e => by simp [zipItems] at e
  | a :: l, b :: r, 0, d, e => ⟨a, b, rfl, rfl, by simpa [zipItems] using e.symm⟩
  | a :: l, b :: r, i + 1, d, e => by
    obtain ⟨x, y, h1, h2, h3⟩ := zipItems_get (l := l) (r := r) (i := i) (by simpa [zipItems] using e)
    exact ⟨x, y, by simpa using h1, by simpa using h2, h3⟩
theorem zipItems_len : ∀ {l r : List D}, l.length ≤ (zipItems l r).length ∨ r.length ≤ (zipItems l r).length
  | [], r => .inl (Nat.zero_le _)
  | a :: l, [] => .inr (Nat.zero_le _)
  | a :: l, b :: r => by
    rcases zipItems_len (l := l) (r := r) with h | h
    · exact .inl (by simp [zipItems]; exact h)
    · exact .inr (by simp [zipItems]; exact h)
def zipD : List D → Mem → Res (List D × (Mem → Prop))
  | [.ref n, .ref m], μ => (match μ[n]?, μ[m]? with
    | some (.lst l), some (.lst r) => .ok (zipItems l r, fun μ' => μ'[n]? = some (.lst l) ∧ μ'[m]? = some (.lst r)) μ
    | _, _ => .stuck)
  | _, _ => .stuck
@[simp] def iZipD (a : ML) : MIt := fun ρ μ => (a ρ μ).bind fun xs μ1 => zipD xs μ1
section
variable {G : Gd} {ι : List Addr} {H : Hp} {μ : Mem}
theorem it_zip {a b : Addr} {n m : Nat} {l r : List D} (hn : ι[n]? = some a) (hm : ι[m]? = some b) : ItOk G ι H (Itz G.K a b) (zipItems l r) (fun μ' => μ'[n]? = some (.lst l) ∧ μ'[m]? = some (.lst r)) := by
  have key : ∀ {n : Nat} {a : Addr} {l : List D} {ι' : List Addr} {H' : Hp} {μ' : Mem}, ι[n]? = some a → Grow ι H ι' H' → Rel G ι' H' μ' → μ'[n]? = some (.lst l) → ∃ vs, SqL G.K H' a vs ∧ Reps G ι' H' l vs := fun {n a l ι' H' μ'} hn g r e => by
    obtain ⟨vs, h1, h2⟩ := r.cell n _ a e (prefix_get g.pre hn)
    exact ⟨vs, .of h1, h2⟩
  refine ⟨fun i d ι' H' μ' e g rl c => ?_, fun i d ι' H' μ' v H2 e g rl c hy => ?_, fun ι' H' μ' g rl c => ?_⟩
  · obtain ⟨x, y, ex, ey, rfl⟩ := zipItems_get e
    obtain ⟨vs, h1, h2⟩ := key hn g rl c.1
    obtain ⟨ws, k1, k2⟩ := key hm g rl c.2
    obtain ⟨v, e1, _⟩ := h2.get ex
    obtain ⟨w, e2, _⟩ := k2.get ey
    exact ⟨vs, ws, v, w, h1, k1, e1, e2⟩
  · obtain ⟨T, v1, v2, rfl, hT, rfl, q1, q2⟩ := hy
    obtain ⟨x, y, ex, ey, rfl⟩ := zipItems_get e
    obtain ⟨vs, h1, h2⟩ := key hn g rl c.1
    obtain ⟨ws, k1, k2⟩ := key hm g rl c.2
    obtain ⟨v, e1, r1⟩ := h2.get ex
    obtain ⟨w, e2, r2⟩ := k2.get ey
    rw [q1 vs h1] at e1; cases e1
    rw [q2 ws k1] at e2; cases e2
    obtain ⟨g2, rl2⟩ := grow_laid (o := .tup [v1, v2]) rl hT
    exact ⟨g2, rl2, rep_tup (.of upd_same) (.cons (r1.ext (g2.ext rl)) (.cons (r2.ext (g2.ext rl)) .nil))⟩
  · obtain ⟨vs, h1, h2⟩ := key hn g rl c.1
    obtain ⟨ws, k1, k2⟩ := key hm g rl c.2
    refine ⟨vs, ws, h1, k1, ?_⟩
    rw [h2.length, k2.length]
    exact zipItems_len
end
section
variable {X : Cx} {W : WX} {e e2 : Expr} {ms : ML} {p pos tpos : Pos} {elts : List Expr} {kk : Nat}
theorem si_zip (hg : Gl X "zip") (hm : X.mg "zip" = none) (ha : SA X W [e, e2] ms)
    (hs : starEach [e, e2] X.env = (false, eval e X.env) :: starEach [e2] X.env := by rfl) (hpl : (backTo pos (starEach [e2] X.env)).any (·.1) = false := by rfl) :
    SI X W (.Tuple elts kk tpos) (.Call (.Name "zip" p) [e, e2] [] pos) (iZipD ms) :=
  PI.mono (pi_zip hg hm ha hs hpl) fun σ H R ⟨ρ, μ, ι, env, rel, h⟩ => by
    have h := Post.bind h
    refine ⟨ρ, μ, ι, env, rel, ?_⟩
    cases hm : ms ρ μ with
    | stuck => rw [hm] at h; exact h.elim
    | exc c fs m => rw [hm] at h; exact h
    | ok ds μ1 =>
      rw [hm] at h
      intro ι1 H1 g1 r1 vs rvs
      obtain ⟨_, _, h3⟩ := h ι1 H1 g1 r1
      unfold zipD at h3
      split at h3
      · rename_i n m
        obtain ⟨v, vs', rfl, rv, rvs'⟩ := rvs.cons_inv
        obtain ⟨w, vs'', rfl, rw', rvs''⟩ := rvs'.cons_inv
        obtain rfl := rvs''.nil_inv
        split at h3
        · rename_i l r em em2
          obtain ⟨a, vs, rfl, h0, h1, h2⟩ := r1.lst em rv
          obtain ⟨b, ws, rfl, k0, k1, k2⟩ := r1.lst em2 rw'
          exact ⟨a, b, vs, ws, rfl, .of h1, .of k1, h3 ι1 H1 .refl r1 _ (it_zip h0 k0)⟩
        · exact h3.elim
      · exact h3.elim
end
/-! ### dict(list of pairs) -/
def pairsT : List D → Option (List (D × D))
  | [] => some []
  | d :: l => match d with
    | .tup [k, v] => if isT k = true then (pairsT l).map fun r => (k, v) :: r else none
    | _ => none
def dictL : List D → Mem → Res D
  | [.ref n], μ => (match μ[n]? with
    | some (.lst l) => (match pairsT l with
      | some ps => if ps.length ≤ 100000 then .ok (.ref μ.length) (μ ++ [.tdic (dicOf ps)]) else .stuck
      | none => .stuck)
    | _ => .stuck)
  | _, _ => .stuck
/-- the pairs' keys and values as they lie -/
def KeysAre (G : Gd) (ι : List Addr) (H : Hp) (ps : List (D × D)) (ks : List (NestedKey × Addr × Value)) : Prop := Paired (RepT G ι H) ps ks
def rDictT (G : Gd) : List V → Hp → VK → Prop := fun xs H Q => ∃ (a : Addr) (vs : List V) (ι : List Addr) (μ : Mem) (l : List D) (ps : List (D × D)), xs = [.ref a] ∧ SqL G.K H a vs ∧ Rel G ι H μ ∧ Reps G ι H l vs ∧ pairsT l = some ps ∧ ps.length ≤ 100000 ∧
  ∀ (p : Addr) (ks : List (NestedKey × Addr × Value)), H p = none → (p == sysModules) = false → Paired (RepT G ι H) ps ks → Q (.ref p) (upd H p (.ext (tdPhi G p (storedAllH [] ks))))
theorem pairsT_at {X : Cx} {pins : List (Addr × Obj)} {σ : St} {s : Shared} {ι : List Addr} {H : Hp} (I : Inv X pins σ H s) : ∀ {l : List D} {ps : List (D × D)} {vs : List V} {us : List Value}, pairsT l = some ps → Reps (gOf X) ι H l vs → Vals vs us →
    ∃ (ks : List (NestedKey × Addr × Value)) (ts : List Addr), Paired (RepT (gOf X) ι H) ps ks ∧ us = ts.map Value.ref ∧ ts.length = ks.length ∧ (∀ x ∈ ks, (nestedKind X.prog X.w).is s.heap x.1 x.2.1) ∧ ∀ (j : Nat) (k : NestedKey × Addr × Value), ks[j]? = some k → ∃ t, ts[j]? = some t ∧ PairAt s.heap t (.ref k.2.1) k.2.2
  | [], ps, vs, us, e, r, ru => by
    cases e
    rw [r.nil_inv] at ru; cases ru
    exact ⟨[], [], .nil, rfl, rfl, (fun _ h => nomatch h), fun j k h => by rw [List.getElem?_nil] at h; cases h⟩
  | d :: l, ps, vs, us, e, r, ru => by
    unfold pairsT at e
    obtain ⟨v, w, rfl, h1, h2⟩ := r.cons_inv
    split at e
    · rename_i k x
      split at e
      · rename_i hk
        obtain ⟨ps', e1, rfl⟩ := Option.map_eq_some_iff.mp e
        cases ru with
        | cons ra rb =>
          obtain ⟨ks, ts, p1, rfl, p3, p4, p5⟩ := pairsT_at I e1 h2 rb
          obtain ⟨t, vs2, rfl, s1, s2⟩ := h1.tup
          obtain ⟨kv, w2, rfl, rk, s3⟩ := s2.cons_inv
          obtain ⟨xv, w3, rfl, rx, s4⟩ := s3.cons_inv
          obtain rfl := s4.nil_inv
          obtain ⟨kl, kk, rfl, ek, ek8⟩ := isT_key hk
          obtain ⟨b, bs, rfl, _, _⟩ := id rk.tup
          cases ra
          obtain ⟨its, rv, ⟨o, ho, hc, n, hd⟩, _⟩ := I.tuple s1
          cases rv with
          | cons rv1 rv2 =>
            cases rv2 with
            | cons rv2 rv3 =>
              cases rv3
              cases rv1
              rename_i uv
              refine ⟨(kk, b, uv) :: ks, t :: ts, .cons ⟨ek, ek8, rk, xv, rx, rv2⟩ p1, rfl, by simp [p3], fun y hy => ?_, fun j y hy => ?_⟩
              · rcases List.mem_cons.mp hy with rfl | hy
                · exact ⟨nest_of I _ _ _ _ ek rk rfl, ek8⟩
                · exact p4 y hy
              · cases j with
                | zero =>
                  have : (kk, b, uv) = y := Option.some.inj hy
                  subst this
                  exact ⟨t, rfl, .inl ⟨o, ho, hc, n, hd⟩⟩
                | succ j =>
                  obtain ⟨t', e1, e2⟩ := p5 j y (by simpa using hy)
                  exact ⟨t', by simpa using e1, e2⟩
      · cases e
    · cases e
theorem storedH_nodup {xs : List (NestedKey × Addr × Value)} {k : NestedKey} {a : Addr} {v : Value} (nd : (xs.map (·.1)).Nodup) : ((storedH xs k a v).map (·.1)).Nodup := by
  unfold storedH
  split
  · rw [keys_map_putAt]; exact nd
  · rename_i hf
    rw [List.map_append, List.nodup_append]
    refine ⟨nd, by simp, fun b hb c hc => ?_⟩
    simp at hc; subst hc
    rintro rfl
    apply hf
    cases e : atKey xs b with
    | some p => rfl
    | none =>
      exfalso
      obtain ⟨y, hy, rfl⟩ := List.mem_map.mp hb
      unfold atKey at e
      rw [Option.map_eq_none_iff, List.find?_eq_none] at e
      exact e y hy (by simp)
theorem dictT_paired {G : Gd} {ι : List Addr} {H : Hp} : ∀ {ps acc : List (D × D)} {ks xs : List (NestedKey × Addr × Value)}, Paired (RepT G ι H) ps ks → Paired (RepT G ι H) acc xs → Paired (RepT G ι H) (ps.foldl (fun acc p => dPut acc p.1 p.2) acc) (storedAllH xs ks)
  | _, _, _, _, .nil, q => q
  | _, _, _, _, .cons (a := p) (b := k) h t, q => by
    obtain ⟨h1, h2, h3, v, h4, h5⟩ := h
    have := dictT_paired t (dPut_T h1 h2 h3 h4 h5 q)
    exact this
section
variable {X : Cx}
theorem call_dictT (hc : X.calm = true) (hu : X.A.units + 64 < cLine) : CallR X (.type "dict") (rDictT (gOf X)) := by
  intro pins s σ H xs us Q I r h
  obtain ⟨a, vs, ι, μ, l, ps, rfl, hq, rel, rl, hp, hl, q⟩ := h
  obtain ⟨u, rfl, rx⟩ := r.one
  cases rx
  obtain ⟨its, rv, ⟨o, n, ho, hcl, hd, hdat⟩, hz⟩ := I.list hq
  obtain ⟨ks, ts, p1, p2, p3, p4, p5⟩ := pairsT_at I hp rl rv
  subst p2
  have hkl : ps.length = ks.length := Paired.length p1
  let prs : List (Value × Value) := ks.map fun k => (Value.ref k.2.1, k.2.2)
  have P := PairArg.list (prog := X.prog) (w := X.w) a (ts.map Value.ref).toArray (fun j => ts.getD j 0) prs
  refine call_dict_pairsH (knd := nestedKind X.prog X.w) (ps := ks) P (I.ok.hd hc) (by show X.A.units + 1 + 1 + 8 < cLine; omega) ⟨⟨o, n, ho, hcl, hd, hdat⟩, ?_, fun j k v e => ?_⟩ ⟨by simp [prs], fun i key v hr => ?_⟩ (fun h' hk x hx => ?_) (by simp only [prs, List.length_map]; rw [sizeLine_eq]; omega) fun h' tk hd' hk => ?_
  · simp [prs, p3]
  · obtain ⟨x, ex, e2⟩ := Option.map_eq_some_iff.mp ((List.getElem?_map ..).symm.trans e)
    cases e2
    obtain ⟨t, e1, e3⟩ := p5 j x ex
    have : ts.getD j 0 = t := by simp [List.getD, e1]
    show _ = some (Value.ref (ts.getD j 0)) ∧ PairAt s.heap (ts.getD j 0) _ _
    rw [this]
    exact ⟨by simp [e1], e3⟩
  · obtain ⟨x, ex, e2⟩ := Option.map_eq_some_iff.mp ((List.getElem?_map ..).symm.trans hr)
    cases e2
    exact ⟨x.1, x.2.1, ex, rfl⟩
  · exact nestedKind_stays.stays (fun b o vs m e _ => hk b o (fun z => by subst z; exact absurd (Heap.lt_size e) (Nat.lt_irrefl _)) (fun z => nomatch z) e) (p4 x hx)
  · have hm : (s.heap.objs.size == sysModules) = false := beq_eq_false_iff_ne.mpr (Nat.ne_of_gt I.big)
    exact ⟨.ref s.heap.objs.size, _, I.laid (t' := tk) (fun b o e => hk b o (fun z => nomatch z) e) (Nat.le_refl _) (td_obj (G := gOf X) hd'), rfl, q _ ks (I.hok.fresh (Nat.le_refl _)) hm p1⟩
theorem snd_dictT {G : Gd} : SndL G (rDictT G) dictL := fun ι H μ xs vs W σ Q r rxs h => by
  unfold dictL at h
  split at h
  · rename_i n
    obtain ⟨v, rfl, rv⟩ := rxs.one
    split at h
    · rename_i l em
      obtain ⟨a, vs, rfl, h0, h1, h2⟩ := r.lst em rv
      split at h
      · rename_i ps ep
        split at h
        · rename_i hl
          refine ⟨a, vs, ι, μ, l, ps, rfl, .of h1, r, h2, ep, hl, fun p ks hp hs pk => ?_⟩
          have pp := dictT_paired pk (.nil (F := RepT G ι H))
          have hn : ∀ {ks xs : List (NestedKey × Addr × Value)}, (xs.map (·.1)).Nodup → ((storedAllH xs ks).map (·.1)).Nodup := fun {ks} => by
            induction ks with
            | nil => exact fun h => h
            | cons k ks ih => exact fun {xs} h => ih (xs := storedH xs k.1 k.2.1 k.2.2) (storedH_nodup h)
          have hlen := storedAllH_length ks []
          have hkl : ps.length = ks.length := Paired.length pk
          obtain ⟨g2, r2⟩ := grow_cell (o := .ext (tdPhi G p (storedAllH [] ks))) (c := .tdic (dicOf ps)) r hp fun x => ⟨_, upd_same, Paired.imp' pp fun _ _ z => ⟨z.1, z.2.1, z.2.2.1.ext x, let ⟨v, z1, z2⟩ := z.2.2.2; ⟨v, z1.ext x, z2⟩⟩, hn (by simp), by rw [sizeLine_eq]; simp at hlen; omega, hs⟩
          exact h _ _ g2 r2 _ (rep_new (r := r))
        · exact h.elim
      · exact h.elim
    · exact h.elim
  · exact h.elim
end
end RW

/-! SEx: sorted and len of a dict with keys that are tuples; x in a row of flat things. -/
namespace RW
open PySem L2 PySem.Spec
open PyProof.Rows hiding St
/-! ### a dict of any keys, collected -/
section
variable {prog : Program} {w : World} {A : Around}
theorem walks_raw (hh : A.handled = none) (I d : Addr) (hne : d ≠ I) (es : Array DictEntry) (ep : Nat) :
    Walks prog w A I [I, d] [I] es.size (fun i v => ∃ hi : i < es.size, v = es[i].key) (fun i h => h.IsKeyIter I d i es.size ep ∧ h.DictRaw d es ep) where
  sub := fun b hb => by simp at hb; simp [hb]
  frame := fun _ _ _ st hk => ⟨st.1.at fun o e => hk I (by simp) o e, let ⟨o, h1, h2, h3⟩ := st.2; ⟨o, hk d (by simp) o h1, h2, h3⟩⟩
  item := fun i s Q E hi st hQ => wpAny_pyNext_keys_item_raw st.1 st.2 hi fun h' st' sb => by
    obtain ⟨o, h1, h2, h3⟩ := st.2
    exact hQ _ h' s.toks ⟨hi, rfl⟩ ⟨st', o, (sb.2 d hne).trans h1, h2, h3⟩ fun b o hb e => (sb.2 b (fun h => hb (by simp [h]))).trans e
  done := fun s Q E st hQ => wpAny_pyNext_keys_end_raw hh st.1 st.2 (Nat.le_refl _) fun h' eb => hQ h' s.toks fun b o hb e => eb b o (fun h => hb (by simp [h])) e
  self := fun _ _ _ _ st hQ => wpAny_pyIter_keyiter st.1 hQ
theorem raw_lt {h : Heap} {d : Addr} {es : Array DictEntry} {ep : Nat} (m : h.DictRaw d es ep) : d < h.objs.size := let ⟨_, h1, _⟩ := m; Heap.lt_size h1
theorem kdl_raw {d : Addr} {es : Array DictEntry} {ep : Nat} (lo : (d == sysModules) = false) : PySem.W.KdlSrc prog w "dict" d d es.size (fun i v => ∃ hi : i < es.size, v = es[i].key) (fun h => h.DictRaw d es ep) where
  type := fun _ hm => hm.typeIs
  there := fun _ hm => ⟨raw_lt hm, raw_lt hm⟩
  keep := fun _ _ hm hk => let ⟨o, h1, h2, h3⟩ := hm; ⟨o, hk d (.inl rfl) o h1, h2, h3⟩
  notList := by decide
  notTuple := by decide
  hint := fun _ _ _ _ hm hq => PySem.W.kdl_hint_dict hm.typeIs hq
  iter := fun A s hh hm => ⟨_, _, fun _ _ hq => wpAny_pyIter_dict_raw lo hm hq, walks_raw hh _ d (Nat.ne_of_lt (raw_lt hm)) es ep, ⟨⟨_, Heap.get?_push_size _ rfl, rfl, rfl⟩, let ⟨o, h1, h2, h3⟩ := hm; ⟨o, Heap.get?_push_of_some _ h1, h2, h3⟩⟩⟩
end
/-! ### sorted of a dict of tuples -/
def rSortedT (G : Gd) : List V → Hp → VK → Prop := fun xs H Q => ∃ (a : Addr) (ι : List Addr) (μ : Mem) (l : List (D × D)) (ks : List (NestedKey × Addr × Value)), xs = [.ref a] ∧ TdIs G ι H a l ks ∧ Rel G ι H μ ∧ sortOk μ (l.map (·.1)) = true ∧
  ∀ vs' p, Reps G ι H (sortD μ (l.map (·.1))) vs' → H p = none → Q (.ref p) (upd H p (.lst vs'))
theorem cr_sortedT {X : Cx} (hc : X.calm = true) (hu : X.A.units + 64 < cLine) : CallR X (.builtin "sorted") (rSortedT (gOf X)) := by
  intro pins s σ H xs us Q I r h
  obtain ⟨a, ι, μ, l, ks, rfl, T, rel, ok, q⟩ := h
  rw [Vals.ref1 r]
  simp only [sortOk, Bool.and_eq_true, List.all_eq_true, decide_eq_true_eq, Bool.or_eq_true] at ok
  obtain ⟨⟨⟨o1, o2⟩, o3⟩, o4⟩ := ok
  obtain ⟨h1, h2, h3, h4, h5⟩ := T
  obtain ⟨⟨o, es, ep, e1, e2, e3, e4⟩, _⟩ := h1.ok I.hok
  have hz : es.size = ks.length := by
    have q := congrArg List.length e4
    simpa using q
  have hll : l.length = ks.length := Paired.length h2
  have raw : s.heap.DictRaw a es ep := ⟨o, e1, e2, e3⟩
  refine Calls.call_function_entry PyProof.Rows.kind_sorted PyProof.Rows.plain_sorted PyProof.Rows.entry_sorted (PyProof.Rows.args_sorted1 _) ?_
  unfold Builtin.«sorted»
  refine wpAny_bind (m := checkCount "sorted" 1 1 _) (wpAny_pure ?_)
  refine wpAny_bind (PySem.W.kdu_collect (A := X.A.in1) (kdl_raw h5) (I.ok.hd hc) raw (by rw [hz]; exact h4) fun h' tk acc hk hacc => ?_)
  have hal : acc.toList.length = l.length := by rw [Array.length_toList, hacc.1, hz, hll]
  have ech : PySem.W.EachIs (fun u d => ∃ v, Rep (gOf X) ι H d v ∧ RelV v u) acc.toList (l.map (·.1)) := by
    have key : ∀ {l : List (D × D)} {ks : List (NestedKey × Addr × Value)} {us : List Value}, Paired (RepT (gOf X) ι H) l ks → us.length = l.length → (∀ (j : Nat) (u : Value), us[j]? = some u → ∃ x, ks[j]? = some x ∧ u = .ref x.2.1) → PySem.W.EachIs (fun u d => ∃ v, Rep (gOf X) ι H d v ∧ RelV v u) us (l.map (·.1)) := by
      intro l ks us P
      induction P generalizing us with
      | nil => intro hl _; cases us with
        | nil => exact .nil
        | cons _ _ => simp at hl
      | cons hr t ih =>
        intro hl hj
        cases us with
        | nil => simp at hl
        | cons u us =>
          obtain ⟨x, ex, eu⟩ := hj 0 u rfl
          simp at ex; subst ex
          refine .cons ⟨.ref _, hr.2.2.1, eu⟩ (ih (by simpa using hl) fun j u e => ?_)
          obtain ⟨x, ex, eu⟩ := hj (j + 1) u (by simpa using e)
          exact ⟨x, by simpa using ex, eu⟩
    refine key h2 hal fun j u e => ?_
    obtain ⟨hi, ev⟩ := hacc.2 j u (by rw [← Array.getElem?_toList]; exact e)
    have q := congrArg (fun l => l[j]?) e4
    simp only [List.getElem?_map] at q
    rw [show es.toList[j]? = some es[j] by simp [hi], List.getElem?_eq_getElem (by omega : j < ks.length)] at q
    refine ⟨ks[j], List.getElem?_eq_getElem (by omega), ?_⟩
    simp only [Option.map_some, Option.some.injEq] at q
    rw [ev, q]; rfl
  have er : PySem.W.EachIs (fun u d => ∃ as, Reads s.heap u (encD μ d) as) acc.toList (l.map (·.1)) := by
    have key : ∀ {l : List D} {us : List Value}, (∀ d ∈ l, (D.py? 8 μ d).isSome = true) → PySem.W.EachIs (fun u d => ∃ v, Rep (gOf X) ι H d v ∧ RelV v u) us l → PySem.W.EachIs (fun u d => ∃ as, Reads s.heap u (encD μ d) as) us l := by
      intro l us hh e
      induction e with
      | nil => exact .nil
      | cons h1 t ih =>
        obtain ⟨v, h1, r1⟩ := h1
        refine .cons ?_ (ih fun d hd => hh d (List.mem_cons_of_mem _ hd))
        obtain ⟨p, hp⟩ := Option.isSome_iff_exists.mp (hh _ List.mem_cons_self)
        unfold encD
        rw [hp]
        exact Dp.reads I p v _ (dp_of rel 8 _ v p h1 hp) r1
    exact key (fun d hd => (o1 d hd).1) ech
  have I1 : Inv X pins σ H { s with heap := h', toks := tk } := I.kept hk
  have hsz : acc.toList.length ≤ sizeLine := by rw [hal, hll]; exact h4
  refine wpAny_bind (wpAny_newList ?_ hsz)
  have hoL : (h'.push (seqObj "list" acc.toList.toArray 0)).get? h'.objs.size = some (seqObj "list" acc.toList.toArray 0) := Heap.get?_push_size _ rfl
  show wpAny _ _ _ _ _ { s with heap := h'.push (seqObj "list" acc.toList.toArray 0), toks := tk }
  have er' : PySem.W.EachIs (fun u d => ∃ as, Reads (PySem.W.sortingHeap (h'.push (seqObj "list" acc.toList.toArray 0)) h'.objs.size acc.toList) u (encD μ d) as) acc.toList (l.map (·.1)) := er.mono fun _ _ ⟨as, r⟩ => ⟨as, PyProof.Rows.Reads.keeps (fun b o e => by
    have := hk b o e
    exact PySem.W.sortingHeap_old (Nat.ne_of_lt (Heap.lt_size this)) (Heap.get?_push_of_some _ this)) r⟩
  have hal2 : PySem.W.AllAlike ((l.map (·.1)).map (encD μ)) := by
    intro d hd d' hd'
    obtain ⟨b, hb, rfl⟩ := List.mem_map.mp hd
    obtain ⟨b', hb', rfl⟩ := List.mem_map.mp hd'
    exact o2 b hb b' hb'
  have hsr : PySem.W.Sortable ((l.map (·.1)).map (encD μ)) := by
    rcases o3 with o3 | o3
    · refine .inl fun d hd => ?_
      obtain ⟨b, hb, rfl⟩ := List.mem_map.mp hd
      have := o3 b hb
      unfold isTupD at this
      split at this
      · rename_i x r e; exact ⟨x, r, e⟩
      · cases this
    · refine .inr fun d hd => ?_
      obtain ⟨b, hb, rfl⟩ := List.mem_map.mp hd
      have := o3 b hb
      refine ⟨fun e => ?_, fun xs e => ?_⟩ <;> (rw [e] at this; cases this)
  let sL : Shared := { s with heap := PySem.W.sortingHeap (h'.push (seqObj "list" acc.toList.toArray 0)) h'.objs.size acc.toList, toks := tk }
  refine wpAny_bind (wpAny_holding (wpAny_call_entry PyProof.Rows.slot_list_sort ⟨_, hoL, rfl⟩ PyProof.Rows.entry_list_sort
    (PySem.W.list_sort_vals (κ := PySem.W.dataKind sL.heap ((l.map (·.1)).map (encD μ))) (s := { s with heap := h'.push (seqObj "list" acc.toList.toArray 0), toks := tk }) hoL
      (PySem.W.SortsAt.data (s := sL) (PySem.W.each_map (R := fun v d => ∃ as, Reads sL.heap v d as) (encD μ) er') hal2 hsr (PySem.W.bound_map fun b hb => ?_)) hsz ⟨_, rfl, ?_⟩)
    (PyProof.Rows.args_list_sort _)))
  · have := (o1 b hb).2
    show X.A.units + 1 + 1 + _ < cLine
    omega
  have eo := PySem.W.sortVals_data (R := fun u d => ∃ v, Rep (gOf X) ι H d v ∧ RelV v u) (h' := sL.heap) (enc := encD μ) false ech er' hal2
  obtain ⟨vs', g3, g4⟩ := reps_of_each eo
  obtain ⟨e', he'⟩ := PyProof.Rows.sortedHeap_at (vs := acc.toList) (out := (PySem.W.sortVals (PySem.W.dataKind sL.heap ((l.map (·.1)).map (encD μ))) false acc.toList acc.toList).toArray) hoL
  have hlen : vs'.length ≤ sizeLine := by
    rw [g4.length, PySem.W.sortVals_length false rfl]; exact hsz
  refine wpAny_pure ⟨_, rfl, .ref h'.objs.size, upd H h'.objs.size (.lst vs'), I1.laid (t' := tk) (fun b u e => ?_) (Nat.le_refl _)
    (show ObjOk X.prog X.w _ _ _ (.lst vs') from ⟨hlen, _, e', g4, he'⟩), rfl, q _ _ g3 (I1.hok.fresh (Nat.le_refl _))⟩
  have hb : b < h'.objs.size := Heap.lt_size e
  rw [PyProof.Rows.sortedHeap_old (Nat.ne_of_lt hb) (by rw [size_push']; exact Nat.lt_succ_of_lt hb)]
  exact Heap.get?_push_of_some _ e
def sortedX : List D → Mem → Res D := fun xs μ => match xs with
  | [.ref n] => (match μ[n]? with
    | some (.tdic l) => if sortOk μ (l.map (·.1)) = true then .ok (.ref μ.length) (μ ++ [.lst (sortD μ (l.map (·.1)))]) else .stuck
    | _ => sortedA xs μ)
  | _ => sortedA xs μ
def rSortedX (G : Gd) : List V → Hp → VK → Prop := fun xs H Q => rSortedB G xs H Q ∨ rSortedT G xs H Q
theorem cr_sortedX {X : Cx} (hc : X.calm = true) (hu : X.A.units + 64 < cLine) : CallR X (.builtin "sorted") (rSortedX (gOf X)) := CallR.or (cr_sortedB hc hu) (cr_sortedT hc hu)
/-- what is known of a dict of tuples -/
theorem td_is {G : Gd} {ι : List Addr} {H : Hp} {μ : Mem} {n : Nat} {l : List (D × D)} {v : V} (r : Rel G ι H μ) (rv : Rep G ι H (.ref n) v) (e : μ[n]? = some (.tdic l)) : ∃ a ks, v = .ref a ∧ TdIs G ι H a l ks := by
  obtain ⟨a, h0, rfl⟩ := rv.ref
  obtain ⟨xs, q1, q2, q3, q4, q5⟩ := r.cell n _ a e h0
  exact ⟨a, xs, rfl, .inl q1, q2, q3, q4, q5⟩
theorem snd_sortedX {G : Gd} : SndL G (rSortedX G) sortedX := fun ι H μ xs vs W σ Q r rxs h => by
  unfold sortedX at h
  split at h
  · rename_i n
    split at h
    · rename_i l e
      split at h
      · rename_i ok
        obtain ⟨v, rfl, rv⟩ := rxs.one
        obtain ⟨a, ks, rfl, T⟩ := td_is r rv e
        exact .inr ⟨a, ι, μ, l, ks, rfl, T, r, ok, fun vs' q h3 hq => new_lst r h3 h q hq⟩
      · exact h.elim
    · exact .inl (snd_sortedB ι H μ _ vs W σ Q r rxs h)
  · exact .inl (snd_sortedB ι H μ _ vs W σ Q r rxs h)
/-! ### len of a dict of tuples -/
def rLenT (G : Gd) : List V → Hp → VK → Prop := fun xs H Q => ∃ (a : Addr) (ι : List Addr) (l : List (D × D)) (ks : List (NestedKey × Addr × Value)), xs = [.ref a] ∧ TdIs G ι H a l ks ∧ Q (.int l.length) H
theorem cr_lenT {X : Cx} : CallR X (.builtin "len") (rLenT (gOf X)) := by
  intro pins s σ H xs us Q I r h
  obtain ⟨a, ι, l, ks, rfl, T, q⟩ := h
  rw [Vals.ref1 r]
  obtain ⟨h1, h2, h3, h4, h5⟩ := T
  obtain ⟨⟨o, es, ep, e1, e2, e3, e4⟩, _⟩ := h1.ok I.hok
  have hz : es.size = ks.length := by
    have q := congrArg List.length e4
    simpa using q
  have hll : l.length = ks.length := Paired.length h2
  have raw : s.heap.DictRaw a es ep := ⟨o, e1, e2, e3⟩
  have hn := line63
  refine Calls.call_function_entry kind_len plain_len entry_len (args_len1 _) ?_
  unfold Builtin.«len»
  refine wpAny_bind (m := oneArg "len" _) (wpAny_pure ?_)
  refine wpAny_bind (m := callSpecial? (.ref a) (Str.ofString "__len__")) (wpAny_callSpecial?_slot (name := Str.ofString "__len__") raw.typeIs F.slot_dict_len (call_len_raw h5 raw ?_))
  show wpAny _ _ _ _ _ { s with toks := s.toks + 1 }
  refine wpAny_bind (wpAny_holding (wpAny_pure ?_))
  refine wpAny_bind (wpAny_letGo ?_)
  show wpAny _ _ (if ((es.size : Nat) : Int) < 0 then _ else _) _ _ _
  rw [if_neg (by omega)]
  show wpAny _ _ (if ((es.size : Nat) : Int) ≥ 2 ^ 63 then _ else _) _ _ _
  rw [if_neg (by omega)]
  exact wpAny_bind (wpAny_mkInt (wpAny_pure ⟨_, rfl, .int l.length, H, I.tok _, ⟨s.toks + 1, by rw [hz, ← hll]⟩, q⟩))
def lenX : List D → Mem → Res D := fun xs μ => match xs with
  | [.ref n] => (match μ[n]? with
    | some (.tdic l) => .ok (.int l.length) μ
    | _ => lenL xs μ)
  | _ => lenL xs μ
def rLenX (G : Gd) : List V → Hp → VK → Prop := fun xs H Q => rLenA G.K xs H Q ∨ rLenT G xs H Q
theorem cr_lenX {X : Cx} : CallR X (.builtin "len") (rLenX (gOf X)) := CallR.or call_lenA cr_lenT
theorem snd_lenX {G : Gd} : SndL G (rLenX G) lenX := fun ι H μ xs vs W σ Q r rxs h => by
  unfold lenX at h
  split at h
  · rename_i n
    split at h
    · rename_i l e
      obtain ⟨v, rfl, rv⟩ := rxs.one
      obtain ⟨a, ks, rfl, T⟩ := td_is r rv e
      exact .inr ⟨a, ι, l, ks, rfl, T, h ι H .refl r _ (rep_int _)⟩
    · exact .inl (snd_len ι H μ _ vs W σ Q r rxs h)
  · exact .inl (snd_len ι H μ _ vs W σ Q r rxs h)
/-! ### x in a row of flat things -/
def flatI : D → Option V
  | .non => some .non
  | .bl b => some (.bl b)
  | .int i => some (.int i)
  | .str z => some (.str z)
  | _ => none
def flatsI : List D → Option (List V)
  | [] => some []
  | d :: l => (flatI d).bind fun v => (flatsI l).map fun vs => v :: vs
def rowI (x : D) (μ : Mem) : Option (List D) := match x with
  | .tup l => some l
  | .ref n => (match μ[n]? with
    | some (.lst l) => some l
    | _ => none)
  | _ => none
def inX (x y : D) (μ : Mem) : Res D := match rowI y μ with
  | some l => (match flatI x, flatsI l with
    | some v, some vs => .ok (.bl (inV v vs)) μ
    | _, _ => .stuck)
  | none => inDD x y μ
def notInX (x y : D) (μ : Mem) : Res D := match rowI y μ with
  | some l => (match flatI x, flatsI l with
    | some v, some vs => .ok (.bl (!inV v vs)) μ
    | _, _ => .stuck)
  | none => notInDD x y μ
section
variable {G : Gd} {ι : List Addr} {H : Hp} {μ : Mem}
theorem flatI_is {d : D} {v w : V} (r : Rep G ι H d v) (e : flatI d = some w) : v = w ∧ flatV w = true := by
  cases d <;> simp [flatI] at e <;> subst e
  · exact ⟨r.non, rfl⟩
  · exact ⟨r.bl, rfl⟩
  · exact ⟨r.int, rfl⟩
  · exact ⟨r.str, rfl⟩
theorem flatsI_is : ∀ {l : List D} {vs ws : List V}, Reps G ι H l vs → flatsI l = some ws → vs = ws ∧ ws.all flatV = true
  | [], vs, ws, r, e => by
    simp [flatsI] at e; subst e
    rw [r.nil_inv]; exact ⟨rfl, rfl⟩
  | d :: l, vs, ws, r, e => by
    obtain ⟨v, w, rfl, h1, h2⟩ := r.cons_inv
    simp only [flatsI] at e
    obtain ⟨v', e1, e2⟩ := Option.bind_eq_some_iff.mp e
    obtain ⟨vs', e3, rfl⟩ := Option.map_eq_some_iff.mp e2
    obtain ⟨rfl, f1⟩ := flatI_is h1 e1
    obtain ⟨rfl, f2⟩ := flatsI_is h2 e3
    exact ⟨rfl, by rw [List.all_cons, f1, f2]; rfl⟩
theorem rowI_is {y : D} {u : V} {l : List D} (r : Rel G ι H μ) (ry : Rep G ι H y u) (e : rowI y μ = some l) : ∃ p vs, u = .ref p ∧ (SqL G.K H p vs ∨ SqT G.K H p vs) ∧ Reps G ι H l vs := by
  unfold rowI at e
  split at e
  · cases e
    obtain ⟨a, vs, rfl, h1, h2⟩ := ry.tup
    exact ⟨a, vs, rfl, .inr h1, h2⟩
  · split at e
    · rename_i n l' em
      cases e
      obtain ⟨a, vs, rfl, h0, h1, h2⟩ := r.lst em ry
      exact ⟨a, vs, rfl, .inl (.of h1), h2⟩
    · cases e
  · cases e
end
def rInX (G : Gd) : R2 := fun x y H Q => rIn G.K false x y H Q ∨ rInD G x y H Q
def rNotInX (G : Gd) : R2 := fun x y H Q => rIn G.K true x y H Q ∨ rNotInD G x y H Q
theorem op_inX {X : Cx} (hu : X.A.units + 64 < cLine) : OpR X (compareOp .In) (rInX (gOf X)) := OpR.or op_in_seq (op_inD hu)
theorem op_notInX {X : Cx} (hu : X.A.units + 64 < cLine) : OpR X (compareOp .NotIn) (rNotInX (gOf X)) := OpR.or op_notIn_seq (op_notInD hu)
theorem snd_inX {G : Gd} : Snd2 G (rInX G) inX := fun ι H μ x y v u W σ Q r rx ry h => by
  unfold inX at h
  split at h
  · rename_i l el
    split at h
    · rename_i w ws e1 e2
      obtain ⟨p, vs, rfl, h1, h2⟩ := rowI_is r ry el
      obtain ⟨rfl, f1⟩ := flatI_is rx e1
      obtain ⟨rfl, f2⟩ := flatsI_is h2 e2
      exact .inl ⟨p, vs, rfl, h1, f1, f2, h ι H .refl r _ (rep_bl _)⟩
    · exact h.elim
  · exact .inr (snd_inD ι H μ x y v u W σ Q r rx ry h)
theorem snd_notInX {G : Gd} : Snd2 G (rNotInX G) notInX := fun ι H μ x y v u W σ Q r rx ry h => by
  unfold notInX at h
  split at h
  · rename_i l el
    split at h
    · rename_i w ws e1 e2
      obtain ⟨p, vs, rfl, h1, h2⟩ := rowI_is r ry el
      obtain ⟨rfl, f1⟩ := flatI_is rx e1
      obtain ⟨rfl, f2⟩ := flatsI_is h2 e2
      exact .inl ⟨p, vs, rfl, h1, f1, f2, h ι H .refl r _ (rep_bl _)⟩
    · exact h.elim
  · exact .inr (snd_notInD ι H μ x y v u W σ Q r rx ry h)
end RW

/-! SEy: own exceptions with fields that nobody reads: raise, try .. except. -/
namespace RW
open PySem L2 PySem.Spec
open PyProof.Rows hiding St
/-! ### __init__ of one or two fields -/
/-- what __init__ of an exception does: n fields are kept -/
def spExc (C : Addr) (n : Nat) : Sp := fun vs H Q _ => ∃ (a : Addr) (ws : List V) (H1 : Hp), vs = .ref a :: ws ∧ ws.length = n ∧ H = upd H1 a (exo a C none) ∧ H1 a = none ∧
  ∀ d fs, H1 d = none → d ≠ a → Q .non (upd (upd H1 d (exd d fs)) a (exo a C (some d)))
theorem upd_upd {H : Hp} {a : Addr} {o u : HO} : upd (upd H a o) a u = upd H a u := by
  funext b
  by_cases h : b = a
  · subst h; rw [upd_same, upd_same]
  · rw [upd_ne h, upd_ne h, upd_ne h]
theorem upd_swap {H : Hp} {a b : Addr} {o u : HO} (h : a ≠ b) : upd (upd H a o) b u = upd (upd H b u) a o := by
  funext c
  by_cases ha : c = a
  · subst ha; rw [upd_ne h, upd_same, upd_same]
  · rw [upd_ne ha]
    by_cases hb : c = b
    · subst hb; rw [upd_same, upd_same]
    · rw [upd_ne hb, upd_ne ha, upd_ne hb]
section
variable {P : Program} {w : World} {K : PySem.W.Frag} {mg : Str → Option Value} {base : Heap} {x qual f1 f2 : Str} {st : Stmt} {f C : Addr} {fd : FuncData} {p p1 p2 p3 p4 p5 p6 p7 : Pos} {k : Nat}
theorem exc_init1 (F : L2.Fun K x qual st f fd) (S : FnScope ["self", f1] ["self", f1] (defScope st)) (hb : defBody st = [.Assign [.Attribute (.Name "self" p) f1 p1] (.Name f1 p2) p3])
    (T : OexC K C) (hn : PySem.W.findIn K (.ref C) f1 = some none) (v0 : Vis (defScope st) "self") (v1 : Vis (defScope st) f1) (d1 : (f1 == ("__debug__" : Str)) = false) (d2 : (f1 == ("__classdict__" : Str)) = false) :
    FnOk P w K mg base (L2.CX P w) (k + 1) f fd ["self", f1] (spExc C 1) := by
  obtain ⟨oc, od, kV, doc, pm, an, cdv, ct, osl, rfl, lk, hcd⟩ := F.ex
  refine fn_of lk hcd S (fun vs H Q E ⟨a, ws, H1, e1, e2, _⟩ => by rw [e1, List.length_cons, e2]; rfl) fun A outer s H vs Q E hr ⟨a, ws, H1, e1, e2, e3, e4, q⟩ => ?_
  obtain ⟨y, rfl⟩ : ∃ y, ws = [y] := by
    cases ws with
    | nil => cases e2
    | cons y ws => cases ws with
      | nil => exact ⟨y, rfl⟩
      | cons _ _ => cases e2
  subst e1 e3
  rw [hb]
  refine ⟨_, pss_one (ps_ost (f := f1) (pe_var (i := 0) rfl v0) (pe_var (i := 1) rfl v1 d1 d2) rfl), ?_⟩
  refine ⟨y, rfl, .ref a, rfl, a, C, rfl, T, hn, .inl ⟨upd_same, fun dx hd hne => ?_⟩⟩
  rw [upd_ne hne] at hd
  have := q dx [(f1, y)] hd hne
  show Q .non _
  rw [upd_swap (fun e => hne e.symm), upd_upd]
  exact this
theorem exc_init2 (F : L2.Fun K x qual st f fd) (S : FnScope ["self", f1, f2] ["self", f1, f2] (defScope st)) (hb : defBody st = [.Assign [.Attribute (.Name "self" p) f1 p1] (.Name f1 p2) p3, .Assign [.Attribute (.Name "self" p4) f2 p5] (.Name f2 p6) p7])
    (T : OexC K C) (hn : PySem.W.findIn K (.ref C) f1 = some none) (hn2 : PySem.W.findIn K (.ref C) f2 = some none) (v0 : Vis (defScope st) "self") (v1 : Vis (defScope st) f1) (v2 : Vis (defScope st) f2) (d1 : (f1 == ("__debug__" : Str)) = false) (d2 : (f1 == ("__classdict__" : Str)) = false) (d3 : (f2 == ("__debug__" : Str)) = false) (d4 : (f2 == ("__classdict__" : Str)) = false) :
    FnOk P w K mg base (L2.CX P w) (k + 1) f fd ["self", f1, f2] (spExc C 2) := by
  obtain ⟨oc, od, kV, doc, pm, an, cdv, ct, osl, rfl, lk, hcd⟩ := F.ex
  refine fn_of lk hcd S (fun vs H Q E ⟨a, ws, H1, e1, e2, _⟩ => by rw [e1, List.length_cons, e2]; rfl) fun A outer s H vs Q E hr ⟨a, ws, H1, e1, e2, e3, e4, q⟩ => ?_
  obtain ⟨y, z, rfl⟩ : ∃ y z, ws = [y, z] := by
    match ws, e2 with
    | [y, z], _ => exact ⟨y, z, rfl⟩
  subst e1 e3
  rw [hb]
  refine ⟨_, pss_cons (ps_ost (f := f1) (pe_var (i := 0) rfl v0) (pe_var (i := 1) rfl v1 d1 d2) rfl) (pss_one (ps_ost (f := f2) (pe_var (i := 0) rfl v0) (pe_var (i := 2) rfl v2 d3 d4) rfl)), ?_⟩
  refine ⟨y, rfl, .ref a, rfl, a, C, rfl, T, hn, .inl ⟨upd_same, fun dx hd hne => ?_⟩⟩
  rw [upd_ne hne] at hd
  rw [upd_swap (fun e => hne e.symm), upd_upd]
  refine ⟨z, rfl, .ref a, rfl, a, C, rfl, T, hn2, .inr ⟨dx, [(f1, y)], upd_same, by rw [upd_ne hne, upd_same], by simp, ?_⟩⟩
  have := q dx [(f2, z), (f1, y)] hd hne
  show Q .non _
  rw [upd_swap (fun e => hne e.symm), upd_upd]
  exact this
end
/-! ### raise -/
def ExnOk (G : Gd) (base : Heap) (c : Str) (k n : Nat) : Prop := ∃ (C fI : Addr) (fd : FuncData) (ps : List Str), G.mg c = some (.ref C) ∧ OexC G.K C ∧ PySem.W.findIn G.K (.ref C) "__init__" = some (some (.ref fI)) ∧
  PySem.W.typeIn G.K (.ref fI) = some (.type "function") ∧ Binds G.K fd ps [] ∧ FnOk G.P G.w G.K G.mg base (L2.CX G.P G.w) k fI fd ps (spExc C n)
@[simp] def sRaise (c : Str) (a : ML) : MS := fun ρ μ => onE (a ρ μ) ρ fun _ μ1 => .ok (.exc c [] ρ) μ1
theorem ss_raise {X : Cx} {W : WX} {c : Str} {j k n : Nat} {p pos pos2 : Pos} {e : Expr} {es : List Expr} {ms : ML} (F : ExnOk (gOf X) X.base c j n) (hr : RoomG k X.A) (hj : j + 1 ≤ k) (hc : X.calm = true) (hg : Gl X c) (tk : Takes X W) (ha : SA X W (e :: es) ms)
    (hn : ∀ ρ μ ds μ', ms ρ μ = .ok ds μ' → ds.length = n) (hz : n ≤ 1000 := by decide) (hdb : (c == ("__debug__" : Str)) = false := by decide) (he : starEach (e :: es) X.env = (false, eval e X.env) :: starEach es X.env := by rfl) (hpl : (backTo pos (starEach es X.env)).any (·.1) = false := by rfl) :
    SS X W (.Raise (some (.Call (.Name c p) (e :: es) [] pos)) none pos2) (sRaise c ms) := by
  obtain ⟨C, fI, fd, ps, hm, T, iC, tI, hb, F1⟩ := F
  refine PS.mono (ps_raise hc tk (pmk_oex T iC tI F1 (hr.toRoom.mono hj) hb (dvs := []) .nil passL hg hm ha hdb he hpl)) fun D σ H ⟨ρ, μ, ι, env, rel, h⟩ => ?_
  refine ⟨ρ, μ, ι, env, rel, ?_⟩
  cases hms : ms ρ μ with
  | stuck => 
    simp only [sRaise, hms, onE] at h
    exact h.elim
  | exc c' fs m =>
    have h := PostS.onE h env ⟨μ, rel⟩
    rw [hms] at h
    exact h
  | ok ds μ1 =>
    have h := PostS.onE h env ⟨μ, rel⟩
    rw [hms] at h
    intro ι1 H1 g1 r1 vs rvs
    obtain ⟨_, _, env1, h1⟩ := h ι1 H1 g1 r1
    have hl : vs.length = n := by rw [rvs.length]; exact hn ρ μ ds μ1 hms
    refine ⟨by omega, fun a hna => ⟨a, vs ++ [], H1, rfl, by rw [List.append_nil]; exact hl, rfl, hna, fun d fs hd hne => ⟨rfl, d, fs, upd_same, (upd_ne hne).trans upd_same, hd, ?_⟩⟩⟩
    have eH : upd (L2.del (upd (upd H1 d (exd d fs)) a (exo a C (some d))) a) d (.xd fs) = upd H1 d (.xd fs) := by
      funext b
      by_cases hbd : b = d
      · subst hbd; rw [upd_same, upd_same]
      · rw [upd_ne hbd, upd_ne hbd]
        by_cases hba : b = a
        · subst hba; rw [del_same, hna]
        · rw [del_ne hba, upd_ne hba, upd_ne hbd]
    rw [eH]
    obtain ⟨g2, r2⟩ := grow_laid (o := .xd fs) r1 hd
    exact h1 ι1 _ g2 r2 σ _ _ (env1.ext (g2.ext r1)) ⟨C, hm, rfl, rfl⟩
/-! ### try .. except X: -/
open Classical in
noncomputable def sTry (cs : List Str) (b s : MS) : MS := fun ρ μ => (b ρ μ).bind fun f μ1 => match f with
  | .exc c _ ρ1 => if c ∈ cs then s ρ1 μ1 else .stuck
  | f => .ok f μ1
theorem ss_try_only {X : Cx} {W : WX} {x : Str} {Cx' : Addr} {cs : List Str} {body suite : List Stmt} {b₀ : Stmt} {np pos pos' : Pos} {mb ms : MS} (hs : X.stack = X.env :: X.outer) (hf : X.env.frame = some X.env.locals) (hc : Names X x (.ref Cx')) (tk : Takes X W)
    (hx : ∀ c ∈ cs, ∀ C, X.mg c = some (.ref C) → PySem.W.exmOne X.K (.ref C) (.ref Cx') = some true)
    (hb : ∀ (W' : WX) (pn : List (Addr × Obj)) (xe : Value → Shared → Prop), Takes (X.tr pn xe) W' → PassesOwn (model X.prog X.w) X.A X.env xe → SSs (X.tr pn xe) W' body mb)
    (hsu : ∀ (a : Addr) (oe : Obj) (cls : Value) (d : Option Addr) (pn : List (Addr × Obj)), Zc cls d oe → (∃ vs, oe.data = .fields vs) → SSs (X.suite a ((a, oe) :: pn)) W (b₀ :: suite) ms) :
    SS X W (.Try body [.ExceptHandler (some (.Name x np)) none (b₀ :: suite) pos'] [] [] pos) (sTry cs mb ms) := by
  refine PS.mono (ps_try_only hs hf hc tk (tb := fun W' => tS (gOf X) W' mb) (ts := fun _ _ _ => tS (gOf X) W ms) hb hsu) fun D σ H ⟨ρ, μ, ι, env, rel, h⟩ => ?_
  refine ⟨ρ, μ, ι, env, rel, ?_⟩
  unfold sTry at h
  cases hm : mb ρ μ with
  | stuck => rw [hm] at h; exact h.elim
  | exc c fs m => rw [hm] at h; exact h.elim
  | ok f μ1 =>
    rw [hm] at h
    intro ι1 H1 g1 r1
    cases f with
    | nx ρ1 => exact h ι1 H1 g1 r1
    | brk ρ1 => exact h ι1 H1 g1 r1
    | cnt ρ1 => exact h ι1 H1 g1 r1
    | ret d => exact h ι1 H1 g1 r1
    | exc c fs ρ1 =>
      intro σ' cls dx env' ⟨C, e1, e2, e3⟩
      subst e2
      simp only [Res.bind] at h
      split at h
      · rename_i hcc
        refine ⟨true, hx c hcc C e1, fun _ a hna => ⟨ρ1, μ1, ι1, env', r1, PostS.grow h g1⟩, fun z => by cases z⟩
      · exact h.elim
/-! ### two tests of a comprehension -/
theorem sts_two {X : Cx} {W : WX} {c d : Expr} {m n : MB} (h1 : ST X W c m) (h2v : ST X W d n) : PTs X [c, d] (tB (gOf X) W (mAnd m n)) := ⟨fun pins s σ H Q I ⟨ρ, μ, ι, env, rel, h⟩ => by
  simp only [List.forIn_cons, List.forIn_nil, if_true]
  have h := Post.bind h
  have q1 := h1.run pins s σ H (fun b H1 => ∃ μ1 ι1, Rel (gOf X) ι1 H1 μ1 ∧ Grow ι H ι1 H1 ∧ Post (gOf X) ι1 H1 W σ (if b = true then n ρ μ1 else .ok false μ1) fun ι' H' _ b => Q b H') I
    ⟨ρ, μ, ι, env, rel, h.imp fun ι1 H1 μ1 b _ _ ⟨g1, r1, h1⟩ => ⟨μ1, ι1, r1, g1, h1⟩⟩
  refine wpAny_bind (wpAny_bind (wpAny_mono q1 (fun b s' ⟨H1, I1, μ1, ι1, r1, g1, h2⟩ => wpAny_pure ?_) fun _ _ x => x))
  cases b with
  | true =>
    simp only [if_true] at h2 ⊢
    have q2 := h2v.run pins s' σ H1 Q I1 ⟨ρ, μ1, ι1, env.ext (g1.ext rel), r1, h2⟩
    exact wpAny_bind (wpAny_bind (wpAny_mono q2 (fun b s'' hb => wpAny_pure (wpAny_pure hb)) fun _ _ x => x))
  | false =>
    simp only [Bool.false_eq_true, if_false] at h2 ⊢
    exact wpAny_bind (wpAny_pure (wpAny_pure ⟨H1, I1, h2 ι1 H1 .refl r1⟩))⟩
/-! ### what the written part says of such a class -/
def oexO (C : Addr) (o : Obj) : Bool := match o with
  | ⟨.type "type", _, .cls cd, sl⟩ => (match cd.mro, sl.toList with
    | .ref C' :: bm, [_, _, _, _, some (.builtin n), _] => C' == C && n == "ValueError.__new__" && !cd.hasDel && cd.hasDict && PySem.HandSPX.refsVE bm
    | _, _ => false)
  | _ => false
theorem oex_of {K : PySem.W.Frag} {C : Addr} {o : Obj} (ho : K.lookup C = some o) (q : oexO C o = true) (sa : PySem.W.findIn K (.ref C) "__setattr__" = some (some (.builtin "object.__setattr__"))) (xb : PySem.W.subIn K (.ref C) (.type "BaseException") = some true)
    (ty : PySem.W.typeIn K (.ref C) = some (.type "type")) (kc : PySem.W.keepIn K (.ref C) = true) : OexC K C := by
  refine ⟨?_, sa, xb, ty, kc⟩
  unfold oexO at q
  split at q
  · rename_i dd cd sl
    split at q
    · rename_i C' bm k0 k1 k2 k3 n k5 hm hs
      simp only [Bool.and_eq_true, beq_iff_eq, Bool.not_eq_true'] at q
      obtain ⟨⟨⟨⟨rfl, rfl⟩, hdel⟩, hd⟩, ht⟩ := q
      obtain ⟨nm, bs, mro, ns, qn, hdd, sn, sub, ab, col, del⟩ := cd
      dsimp only at hm hdel hd
      subst hm hdel hd
      have hsl : sl = #[k0, k1, k2, k3, some (.builtin "ValueError.__new__"), k5] := by
        obtain ⟨l⟩ := sl
        simp only at hs
        rw [hs]
      subst hsl
      exact ⟨nm, qn, ns, bs, bm, sn, sub, ab, col, dd, k0, k1, k2, k3, k5, ho, ht⟩
    · cases q
  · cases q
theorem exm_of {K : PySem.W.Frag} {C W : Addr} (h1 : PySem.W.subIn K (.ref W) (.type "BaseException") = some true) (h2 : PySem.W.isClsIn K W = true) (h3 : PySem.W.typeIn K (.ref W) = some (.type "type")) (h4 : PySem.W.subIn K (.ref C) (.ref W) = some true) : PySem.W.exmOne K (.ref C) (.ref W) = some true := by
  unfold PySem.W.exmOne PySem.W.kitCls
  unfold PySem.W.isClsIn at h2
  simp [h1, h2, h3, h4]
/-! ### min of a list of alike data -/
def minIx (μ : Mem) (l : List D) : Nat := argBest (fun i j => PySem.W.dataLt ((l.map (encD μ)).getD i .none) ((l.map (encD μ)).getD j .none)) (l.length - 1)
def minOk (μ : Mem) (l : List D) : Bool := l.all (fun d => (D.py? 8 μ d).isSome && decide ((encD μ d).depth ≤ 32)) && (l.all fun d => l.all fun e => PySem.W.alike (encD μ d) (encD μ e)) && l.all fun d => isTupD (encD μ d)
def rMinT (G : Gd) : List V → Hp → VK → Prop := fun xs H Q => ∃ (a : Addr) (vs : List V) (l : List D) (ι : List Addr) (μ : Mem) (v : V), xs = [.ref a] ∧ SqL G.K H a vs ∧ Rel G ι H μ ∧ Reps G ι H l vs ∧ minOk μ l = true ∧ vs[minIx μ l]? = some v ∧ Q v H
theorem reads_all {X : Cx} {pins : List (Addr × Obj)} {σ : St} {H : Hp} {s : Shared} {ι : List Addr} {μ : Mem} (I : Inv X pins σ H s) (rel : Rel (gOf X) ι H μ) : ∀ {l : List D} {us : List Value}, (∀ d ∈ l, (D.py? 8 μ d).isSome = true) → PySem.W.EachIs (fun u d => ∃ v, Rep (gOf X) ι H d v ∧ RelV v u) us l → ∃ as, ReadsAll s.heap us (l.map (encD μ)) as
  | _, _, _, .nil => ⟨[], .nil⟩
  | _, _, hh, .cons ⟨v, h1, r1⟩ t => by
    obtain ⟨as, ih⟩ := reads_all I rel (fun d hd => hh d (List.mem_cons_of_mem _ hd)) t
    obtain ⟨p, hp⟩ := Option.isSome_iff_exists.mp (hh _ List.mem_cons_self)
    obtain ⟨bs, rb⟩ := Dp.reads I p v _ (dp_of rel 8 _ v p h1 hp) r1
    refine ⟨bs ++ as, ?_⟩
    rw [List.map_cons]
    refine .cons ?_ ih
    unfold encD
    rw [hp]
    exact rb
theorem depth_all {μ : Mem} : ∀ {l : List D}, (∀ d ∈ l, (encD μ d).depth ≤ 32) → PyData.depthAll (l.map (encD μ)) ≤ 32
  | [], _ => by simp [PyData.depthAll]
  | d :: l, h => by
    have h1 := h d (by simp)
    have h2 := depth_all (l := l) fun e he => h e (List.mem_cons_of_mem _ he)
    simp only [List.map_cons, PyData.depthAll]; omega
theorem cr_minT {X : Cx} (hc : X.calm = true) (hu : X.A.units + 64 < cLine) : CallR X (.builtin "min") (rMinT (gOf X)) := by
  intro pins s σ H xs us Q I r h
  obtain ⟨a, vs, l, ι, μ, v, rfl, hs, rel, reps, ok, hv, q⟩ := h
  obtain ⟨its, rv, hl, hz⟩ := I.list hs
  rw [Vals.ref1 r]
  simp only [minOk, Bool.and_eq_true, List.all_eq_true, decide_eq_true_eq] at ok
  obtain ⟨⟨o1, o2⟩, o3⟩ := ok
  have hll : l.length = its.length := by rw [← reps.length, rv.length]
  obtain ⟨as, hr⟩ := reads_all I rel (fun d hd => (o1 d hd).1) (each_of_reps reps rv)
  have hne : l ≠ [] := fun e => by
    subst e
    have := (List.getElem?_eq_some_iff.mp hv).1
    rw [reps.nil_inv] at this
    simp at this
  obtain ⟨d0, l0, rfl⟩ := List.exists_cons_of_ne_nil hne
  have hal : PySem.W.AlikeAll ((d0 :: l0).map (encD μ)) := by
    refine ⟨fun d hd d' hd' => ?_, fun d hd => ?_⟩
    · obtain ⟨b, hb, rfl⟩ := List.mem_map.mp hd
      obtain ⟨b', hb', rfl⟩ := List.mem_map.mp hd'
      exact o2 b hb b' hb'
    · obtain ⟨b, hb, rfl⟩ := List.mem_map.mp hd
      have := o3 b hb
      intro e
      rw [e] at this
      cases this
  have hdep := depth_all (μ := μ) (l := d0 :: l0) fun d hd => (o1 d hd).2
  have hhd := I.ok.hd hc
  refine call_min_walkH (PySem.W.iter_listW (A := X.A.in1) hhd hl.isList fun s₂ e W st hfp hw hk => ?_)
  have hn : its.toArray.size = l0.length + 1 := by rw [List.size_toArray, ← hll]; rfl
  refine ⟨_, _, _, _, _, _, _, s.heap, _, rfl, W, st, hfp, by omega, hw, hk, PySem.W.cmpIn_lt (A := X.A.in1) (xs := (d0 :: l0).map (encD μ)) (by simpa using hr) hal (by show X.A.units + 1 + _ < _; omega), fun u s' hP m => ?_⟩
  obtain ⟨h', tk, rfl, hk'⟩ := PySem.W.moved_old e rfl m
  have I1 : Inv X pins σ H { s with heap := h', toks := tk } := I.kept hk'
  refine ⟨v, H, I1, ?_, q⟩
  have e1 : its.toArray.size - 1 = (d0 :: l0).length - 1 := by rw [hn]; rfl
  rw [e1] at hP
  have hP : its[minIx μ (d0 :: l0)]? = some u := by
    rw [← List.getElem?_toArray]
    exact hP
  have key : ∀ {vs : List V} {us : List Value} {i : Nat} {v : V} {u : Value}, Vals vs us → vs[i]? = some v → us[i]? = some u → RelV v u := fun {vs us i v u} h => by
    induction h generalizing i with
    | nil => intro e; simp at e
    | cons h1 t ih =>
      intro e1 e2
      cases i with
      | zero => simp at e1 e2; subst e1 e2; exact h1
      | succ i => exact ih (by simpa using e1) (by simpa using e2)
  exact key rv hv hP
def minX : List D → Mem → Res D := fun xs μ => match minLL xs μ with
  | .stuck => (match xs with
    | [x] => (match lstAt x μ with
      | some l => if minOk μ l = true then (match l[minIx μ l]? with
        | some d => .ok d μ
        | none => .stuck) else .stuck
      | none => .stuck)
    | _ => .stuck)
  | r => r
def rMinX (G : Gd) : List V → Hp → VK → Prop := fun xs H Q => rMin G.K xs H Q ∨ rMinT G xs H Q
theorem cr_minX {X : Cx} (hc : X.calm = true) (hu : X.A.units + 64 < cLine) : CallR X (.builtin "min") (rMinX (gOf X)) := CallR.or (cr_min hc) (cr_minT hc hu)
theorem snd_minX {G : Gd} : SndL G (rMinX G) minX := fun ι H μ xs vs W σ Q r rxs h => by
  unfold minX at h
  cases hq : minLL xs μ with
  | ok d m => rw [hq] at h; exact .inl (snd_minLL ι H μ xs vs W σ Q r rxs (by rw [hq]; exact h))
  | exc c fs m => rw [hq] at h; exact .inl (snd_minLL ι H μ xs vs W σ Q r rxs (by rw [hq]; exact h))
  | stuck =>
    rw [hq] at h
    match xs, rxs, h with
    | [x], rxs, h =>
      simp only at h
      split at h
      · rename_i l el
        split at h
        · rename_i ok
          split at h
          · rename_i d ed
            obtain ⟨v, rfl, rv⟩ := rxs.one
            obtain ⟨p, vs, rfl, h1, h2⟩ := lstAt_is r rv el
            obtain ⟨w, e1, rw1⟩ := h2.get ed
            exact .inr ⟨p, vs, l, ι, μ, w, rfl, h1, r, h2, ok, e1, h ι H .refl r _ rw1⟩
          · exact h.elim
        · exact h.elim
      · exact h.elim
    | [], _, h => exact h.elim
    | _ :: _ :: _, _, h => exact h.elim
end RW

/-! SEz: texts: join, split, strip, endswith, f-strings, int(text), slices; all, any of a list of truths. -/
namespace RW
open PySem PySem.Spec L2
open PyProof.Rows hiding St
/-! ### methods of texts, of one thing -/
@[simp] def mTx (f : D → D → Mem → Res D) (o e : MD) : MD := fun ρ μ => (o ρ μ).bind fun x μ1 => match x with
  | .str a => (e ρ μ1).bind fun y μ2 => f (.str a) y μ2
  | _ => .stuck
def SndX (G : Gd) (r : V → List V → Hp → VK → Prop) (f : D → D → Mem → Res D) : Prop := ∀ (ι : List Addr) (H : Hp) (μ : Mem) (a : Str) (y : D) (u : V) (W : WX) (σ : St) (Q : VK), Rel G ι H μ → Rep G ι H y u →
  Post G ι H W σ (f (.str a) y μ) (fun ι' H' _ d => ∀ v, Rep G ι' H' d v → Q v H') → r (.str a) [u] H Q
section
variable {X : Cx} {W : WX} {o e : Expr} {mo me : MD} {name : Str} {apos pos : Pos} {id : String} {r : V → List V → Hp → VK → Prop} {f : D → D → Mem → Res D}
theorem se_tx (slot : Slot "str" name id) (ty : typeOf (.builtin id) = pure (.type "method_descriptor")) (rule : MtR X id r) (hf : SndX (gOf X) r f) (ho : SE X W o mo) (he : SE X W e me)
    (hs : starEach [e] X.env = [(false, eval e X.env)] := by rfl) (hbase : attributeBase o name X.env (eval o X.env) = eval o X.env := by rfl) (hline : (apos.endLine == pos.line) = true := by rfl) :
    SE X W (.Call (.Attribute o name apos) [e] [] pos) (mTx f mo me) :=
  PE.mono (pe_m1 slot ty rule ho he hs hbase hline) fun σ H Q ⟨ρ, μ, ι, env, rel, h⟩ =>
    ⟨ρ, μ, ι, env, rel, (Post.bind h).imp fun ι1 H1 μ1 x _ _ ⟨g1, r1, h1⟩ v rv => by
      cases x with
      | str a =>
        cases rv.str
        exact ⟨⟨a, rfl⟩, ρ, μ1, ι1, env.ext (g1.ext rel), r1, (Post.bind h1).imp fun ι2 H2 μ2 y _ _ ⟨g2, r2, h2⟩ u ru => hf ι2 H2 μ2 a y u W σ Q r2 ru h2⟩
      | _ => exact h1.elim⟩
end
def splitX (x y : D) (μ : Mem) : Res D := match x, y with
  | .str a, .str b => if (b.length == 0) = false ∧ a.length + 2 ≤ sizeLine then .ok (.ref μ.length) (μ ++ [.lst ((Txt.split a b).map D.str)]) else .stuck
  | _, _ => .stuck
theorem snd_splitX {G : Gd} : SndX G (fun x xs H Q => ∃ a b, x = .str a ∧ xs = [.str b] ∧ (b.length == 0) = false ∧ a.length + 2 ≤ sizeLine ∧ rNewStrs (Txt.split a b) H Q) splitX := fun ι H μ a y u W σ Q r ru h => by
  cases y with
  | str b =>
    simp only [splitX] at h
    split at h
    · rename_i c
      cases ru.str
      exact ⟨a, b, rfl, rfl, c.1, c.2, new_lst r (Reps.of_strs _) h⟩
    · exact h.elim
  | _ => exact h.elim
def strsD : List D → Option (List Str)
  | [] => some []
  | .str a :: r => (strsD r).map (a :: ·)
  | _ :: _ => none
theorem strsD_is {G : Gd} {ι : List Addr} {H : Hp} : ∀ {l : List D} {vs : List V} {ys : List Str}, Reps G ι H l vs → strsD l = some ys → vs = ys.map V.str
  | [], vs, ys, r, e => by cases e; exact r.nil_inv
  | d :: l, vs, ys, r, e => by
    cases d with
    | str a =>
      simp only [strsD, Option.map_eq_some_iff] at e
      obtain ⟨zs, e1, rfl⟩ := e
      obtain ⟨v, t, rfl, rv, rt⟩ := r.cons_inv
      rw [rv.str, strsD_is rt e1]; rfl
    | _ => cases e
theorem strsD_map (l : List Str) : strsD (l.map D.str) = some l := by
  induction l with
  | nil => rfl
  | cons a l ih => rw [List.map_cons, strsD, ih]; rfl
def joinX (x y : D) (μ : Mem) : Res D := match x with
  | .str a => (match rowI y μ with
    | some l => (match strsD l with
      | some ys => if (ys.map (·.length)).sum + ys.length * a.length ≤ 16777216 then .ok (.str (Txt.join a ys)) μ else .stuck
      | none => .stuck)
    | none => .stuck)
  | _ => .stuck
theorem snd_joinX {G : Gd} : SndX G (fun x xs H Q => ∃ a p, ∃ ys : List Str, x = .str a ∧ xs = [.ref p] ∧ (SqL G.K H p (ys.map V.str) ∨ SqT G.K H p (ys.map V.str)) ∧ (ys.map (·.length)).sum + ys.length * a.length ≤ 16777216 ∧ Q (.str (Txt.join a ys)) H) joinX := fun ι H μ a y u W σ Q r ru h => by
  simp only [joinX] at h
  split at h
  · rename_i l el
    split at h
    · rename_i ys ey
      split at h
      · rename_i c
        obtain ⟨p, vs, rfl, h1, h2⟩ := rowI_is r ru el
        cases strsD_is h2 ey
        exact ⟨a, p, ys, rfl, rfl, h1, c, h ι H .refl r _ (rep_str _)⟩
      · exact h.elim
    · exact h.elim
  · exact h.elim
def stripX (x y : D) (μ : Mem) : Res D := match x, y with
  | .str a, .str b => if a.length ≤ sizeLine then .ok (.str (Txt.stripChars a b)) μ else .stuck
  | _, _ => .stuck
theorem snd_stripX {G : Gd} : SndX G (fun x xs H Q => ∃ a b, x = .str a ∧ xs = [.str b] ∧ a.length ≤ sizeLine ∧ Q (.str (Txt.stripChars a b)) H) stripX := fun ι H μ a y u W σ Q r ru h => by
  cases y with
  | str b =>
    simp only [stripX] at h
    split at h
    · rename_i c
      cases ru.str
      exact ⟨a, b, rfl, rfl, c, h ι H .refl r _ (rep_str _)⟩
    · exact h.elim
  | _ => exact h.elim
def endsX (x y : D) (μ : Mem) : Res D := match x, y with
  | .str a, .str b => .ok (.bl (Txt.endswith a b)) μ
  | _, _ => .stuck
theorem snd_endsX {G : Gd} : SndX G (fun x xs H Q => ∃ a b, x = .str a ∧ xs = [.str b] ∧ Q (.bl (Txt.endswith a b)) H) endsX := fun ι H μ a y u W σ Q r ru h => by
  cases y with
  | str b =>
    cases ru.str
    exact ⟨a, b, rfl, rfl, h ι H .refl r _ (rep_bl _)⟩
  | _ => exact h.elim
/-! ### f-strings -/
def fmtD (x : D) (μ : Mem) : Res D := match x with
  | .str y => if y.length ≤ sizeLine then .ok (.str y) μ else .stuck
  | .int i => if i.natAbs.log2 < 1920 then .ok (.str (toString i)) μ else .stuck
  | _ => .stuck
def mJs : List MD → Str → MD
  | [], acc => fun _ μ => .ok (.str acc) μ
  | m :: ms, acc => fun ρ μ => (m ρ μ).bind fun x μ1 => match x with
    | .str y => if (acc ++ y).length ≤ sizeLine then mJs ms (acc ++ y) ρ μ1 else .stuck
    | _ => .stuck
section
variable {X : Cx} {W : WX} {e v1 v2 : Expr} {rest : List Expr} {me : MD} {pos : Pos}
theorem se_fmt (he : SE X W e me) : SE X W (.FormattedValue e (-1) none pos) (mUn fmtD me) :=
  PE.mono (pe_fmt he) fun σ H Q ⟨ρ, μ, ι, env, rel, h⟩ =>
    ⟨ρ, μ, ι, env, rel, (Post.bind h).imp fun ι1 H1 μ1 x _ _ ⟨g1, r1, h1⟩ v rv => by
      cases x with
      | str y =>
        simp only [fmtD] at h1
        split at h1
        · rename_i c
          cases rv.str
          exact .inl ⟨y, rfl, c, h1 ι1 H1 .refl r1 _ (rep_str _)⟩
        · exact h1.elim
      | int i =>
        simp only [fmtD] at h1
        split at h1
        · rename_i c
          cases rv.int
          exact .inr ⟨i, rfl, c, h1 ι1 H1 .refl r1 _ (rep_str _)⟩
        · exact h1.elim
      | _ => exact h1.elim⟩
theorem js_run {σ : St} {Q : VK} : ∀ (ms : List MD) (acc : Str) (ρ : Rho) (μ : Mem) (ι : List Addr) (H : Hp), EnvOk (gOf X) ι H ρ σ → Rel (gOf X) ι H μ →
    Post (gOf X) ι H W σ (mJs ms acc ρ μ) (fun ι' H' _ d => ∀ v, Rep (gOf X) ι' H' d v → Q v H') → tJs (ms.map (tE (gOf X) W)) acc σ H (fun out H1 => Q (.str out) H1)
  | [], acc, ρ, μ, ι, H, env, rel, h => h ι H .refl rel _ (rep_str _)
  | m :: ms, acc, ρ, μ, ι, H, env, rel, h => ⟨ρ, μ, ι, env, rel, (Post.bind h).imp fun ι1 H1 μ1 x _ _ ⟨g1, r1, h1⟩ v rv => by
      cases x with
      | str y =>
        simp only at h1
        split at h1
        · rename_i c
          cases rv.str
          exact ⟨y, rfl, c, js_run ms _ ρ μ1 ι1 H1 (env.ext (g1.ext rel)) r1 h1⟩
        · exact h1.elim
      | _ => exact h1.elim⟩
theorem se_joined {ms : List MD} (h : PJ X (v1 :: v2 :: rest) (ms.map (tE (gOf X) W))) : SE X W (.JoinedStr (v1 :: v2 :: rest) pos) (mJs ms Str.empty) :=
  PE.mono (pe_joined h) fun σ H Q ⟨ρ, μ, ι, env, rel, h⟩ => js_run ms _ ρ μ ι H env rel h
end
/-! ### int(text) -/
def intX : List D → Mem → Res D := fun xs μ => match xs with
  | [.str a] => (match intText? a with
    | some n => if a.length ≤ 640 then .ok (.int n) μ else .stuck
    | none => .stuck)
  | _ => intL xs μ
theorem call_intX {X : Cx} : CallR X (.type "int") (fun xs H Q => ((∃ i, xs = [.int i] ∧ Q (.int i) H) ∨ ∃ k, xs = [.bl k] ∧ Q (.int (if k then 1 else 0)) H) ∨ ∃ a n, xs = [.str a] ∧ PySem.intText? a = some n ∧ a.length ≤ 640 ∧ Q (.int n) H) := CallR.or call_int1 call_int_str
theorem snd_intX {G : Gd} : SndL G (fun xs H Q => ((∃ i, xs = [.int i] ∧ Q (.int i) H) ∨ ∃ k, xs = [.bl k] ∧ Q (.int (if k then 1 else 0)) H) ∨ ∃ a n, xs = [.str a] ∧ PySem.intText? a = some n ∧ a.length ≤ 640 ∧ Q (.int n) H) intX := fun ι H μ xs vs W σ Q r rxs h => by
  unfold intX at h
  split at h
  · rename_i a
    split at h
    · rename_i n en
      split at h
      · rename_i c
        obtain ⟨v, rfl, rv⟩ := rxs.one
        cases rv.str
        exact .inr ⟨a, n, rfl, en, c, h ι H .refl r _ (rep_int _)⟩
      · exact h.elim
    · exact h.elim
  · exact .inl (snd_intL ι H μ _ vs W σ Q r rxs h)
/-! ### all, any of a list of truths -/
def bsD : List D → Option (List Bool)
  | [] => some []
  | .bl a :: r => (bsD r).map (a :: ·)
  | _ :: _ => none
theorem bsD_is {G : Gd} {ι : List Addr} {H : Hp} : ∀ {l : List D} {vs : List V} {ys : List Bool}, Reps G ι H l vs → bsD l = some ys → vs = ys.map V.bl
  | [], vs, ys, r, e => by cases e; exact r.nil_inv
  | d :: l, vs, ys, r, e => by
    cases d with
    | bl a =>
      simp only [bsD, Option.map_eq_some_iff] at e
      obtain ⟨zs, e1, rfl⟩ := e
      obtain ⟨v, t, rfl, rv, rt⟩ := r.cons_inv
      rw [rv.bl, bsD_is rt e1]; rfl
    | _ => cases e
theorem bsD_map (l : List Bool) : bsD (l.map D.bl) = some l := by
  induction l with
  | nil => rfl
  | cons a l ih => rw [List.map_cons, bsD, ih]; rfl
def allL : List D → Mem → Res D
  | [x], μ => (match lstAt x μ with
    | some l => (match bsD l with
      | some bs => .ok (.bl (bs.all id)) μ
      | none => .stuck)
    | none => .stuck)
  | _, _ => .stuck
def anyL : List D → Mem → Res D
  | [x], μ => (match lstAt x μ with
    | some l => (match bsD l with
      | some bs => .ok (.bl (bs.any id)) μ
      | none => .stuck)
    | none => .stuck)
  | _, _ => .stuck
theorem snd_all {G : Gd} : SndL G (rAll G.K) allL := fun ι H μ xs vs W σ Q r rxs h => by
  unfold allL at h
  split at h
  · split at h
    · rename_i l el
      split at h
      · rename_i bs eb
        obtain ⟨v, rfl, rv⟩ := rxs.one
        obtain ⟨p, ws, rfl, h1, h2⟩ := lstAt_is r rv el
        cases bsD_is h2 eb
        exact ⟨p, bs, rfl, h1, h ι H .refl r _ (rep_bl _)⟩
      · exact h.elim
    · exact h.elim
  · exact h.elim
theorem snd_any {G : Gd} : SndL G (rAny G.K) anyL := fun ι H μ xs vs W σ Q r rxs h => by
  unfold anyL at h
  split at h
  · split at h
    · rename_i l el
      split at h
      · rename_i bs eb
        obtain ⟨v, rfl, rv⟩ := rxs.one
        obtain ⟨p, ws, rfl, h1, h2⟩ := lstAt_is r rv el
        cases bsD_is h2 eb
        exact ⟨p, bs, rfl, h1, h ι H .refl r _ (rep_bl _)⟩
      · exact h.elim
    · exact h.elim
  · exact h.elim
/-! ### slices of texts -/
def slcX (x : D) (lo hi : Option Int) (μ : Mem) : Res D := match x with
  | .str z => if z.length ≤ sizeLine then .ok (.str (cutS z lo hi)) μ else .stuck
  | _ => slcD x lo hi μ
@[simp] def mSlcX (a : MD) (lo hi : MO) : MD := fun ρ μ => (a ρ μ).bind fun x μ1 => (lo ρ μ1).bind fun l μ2 => (hi ρ μ2).bind fun u μ3 => slcX x l u μ3
section
variable {X : Cx} {W : WX} {a : Expr} {ma : MD} {p2 pos : Pos}
theorem se_slcX {lo hi : Option Expr} {ml mh : MO} (ha : SE X W a ma) (hl : PO X lo (tO (gOf X) W ml)) (hh : PO X hi (tO (gOf X) W mh)) : SE X W (.Subscript a (.Slice lo hi none p2) pos) (mSlcX ma ml mh) :=
  PE.mono (pe_slice (SlR.or sl_str (SlR.or sl_tupA sl_list)) ha hl hh) fun σ H Q ⟨ρ, μ, ι, env, rel, h⟩ => by
    refine ⟨ρ, μ, ι, env, rel, (Post.bind h).imp fun ι1 H1 μ1 x _ _ ⟨g1, r1, h1⟩ v rv => ?_⟩
    refine ⟨ρ, μ1, ι1, env.ext (g1.ext rel), r1, (Post.bind h1).imp fun ι2 H2 μ2 l _ _ ⟨g2, r2, h2⟩ => ?_⟩
    refine ⟨ρ, μ2, ι2, (env.ext (g1.ext rel)).ext (g2.ext r1), r2, (Post.bind h2).imp fun ι3 H3 μ3 u _ _ ⟨g3, r3, h3⟩ => ?_⟩
    have rv := (rv.ext (g2.ext r1)).ext (g3.ext r2)
    cases x with
    | str z =>
      simp only [slcX] at h3
      split at h3
      · rename_i c
        cases rv.str
        exact .inl ⟨z, rfl, c, h3 ι3 H3 .refl r3 _ (rep_str _)⟩
      · exact h3.elim
    | tup t =>
      obtain ⟨a, vs, rfl, q1, q2⟩ := rv.tup
      refine .inr (.inl ⟨a, vs, rfl, q1, fun hw => ?_, fun _ => new_tup r3 (q2.cut l u) h3⟩)
      rw [q2.length] at hw
      exact h3 ι3 H3 .refl r3 _ (by rw [cutD_whole hw]; exact rv)
    | frl t =>
      obtain ⟨a, vs, rfl, q1, q2⟩ := rv.frl
      exact .inr (.inr ⟨a, vs, rfl, FrL.sq _ _ q1, new_lst r3 (q2.cut l u) h3⟩)
    | ref n =>
      simp only [slcX, slcD] at h3
      split at h3
      · rename_i t em
        obtain ⟨a, vs, rfl, q0, q1, q2⟩ := r3.lst em rv
        exact .inr (.inr ⟨a, vs, rfl, .of q1, new_lst r3 (q2.cut l u) h3⟩)
      · exact h3.elim
    | _ => exact h3.elim
end
end RW

/-! SEzb: plain laws of mirrors of calls, comprehensions, texts of numbers. -/
namespace RW
open PySem L2
section
variable {ρ : Rho} {μ μ1 μ2 μ3 : Mem} {p q d : D}
theorem call1k {f : Sem} {x : MD} (h1 : x ρ μ = .ok p μ1) (h : f [p] μ1 = .ok d μ2) : mB f (mCons x mNil) ρ μ = .ok d μ2 := by
  simp only [mB, mCons, mNil, h1, Res.bind]; exact h
theorem call2k {f : Sem} {x y : MD} (h1 : x ρ μ = .ok p μ1) (h2 : y ρ μ1 = .ok q μ2) (h : f [p, q] μ2 = .ok d μ3) : mB f (mCons x (mCons y mNil)) ρ μ = .ok d μ3 := by
  simp only [mB, mCons, mNil, h1, h2, Res.bind]; exact h
theorem bin_k {f : D → D → Mem → Res D} {x y : MD} (h1 : x ρ μ = .ok p μ1) (h2 : y ρ μ1 = .ok q μ2) (h : f p q μ2 = .ok d μ3) : mBin f x y ρ μ = .ok d μ3 := by
  simp only [mBin, h1, h2, Res.bind]; exact h
theorem un_k {f : D → Mem → Res D} {x : MD} (h1 : x ρ μ = .ok p μ1) (h : f p μ1 = .ok d μ2) : mUn f x ρ μ = .ok d μ2 := by
  simp only [mUn, h1, Res.bind]; exact h
theorem tx_k {f : D → D → Mem → Res D} {x y : MD} {a : Str} (h1 : x ρ μ = .ok (.str a) μ1) (h2 : y ρ μ1 = .ok q μ2) (h : f (.str a) q μ2 = .ok d μ3) : mTx f x y ρ μ = .ok d μ3 := by
  simp only [mTx, h1, h2, Res.bind]; exact h
theorem test_k {x : MD} {b : Bool} (h : x ρ μ = .ok (.bl b) μ1) : mTest x ρ μ = .ok b μ1 := by simp only [mTest, h, Res.bind]
theorem not_k {x : MB} {b : Bool} (h : x ρ μ = .ok b μ1) : mNot x ρ μ = .ok (!b) μ1 := by simp only [mNot, h, Res.bind]
theorem or_f {x y : MB} {b : Bool} (h : x ρ μ = .ok false μ1) (h2 : y ρ μ1 = .ok b μ2) : mOr x y ρ μ = .ok b μ2 := by simp only [mOr, h, Res.bind, Bool.false_eq_true, if_false]; exact h2
theorem or_t {x y : MB} (h : x ρ μ = .ok true μ1) : mOr x y ρ μ = .ok true μ1 := by simp only [mOr, h, Res.bind, if_true]
theorem and_t {x y : MB} {b : Bool} (h : x ρ μ = .ok true μ1) (h2 : y ρ μ1 = .ok b μ2) : mAnd x y ρ μ = .ok b μ2 := by simp only [mAnd, h, Res.bind, if_true]; exact h2
theorem and_f {x y : MB} (h : x ρ μ = .ok false μ1) : mAnd x y ρ μ = .ok false μ1 := by simp only [mAnd, h, Res.bind, Bool.false_eq_true, if_false]
theorem andV_t {x y : MD} (h : x ρ μ = .ok (.bl true) μ1) (h2 : y ρ μ1 = .ok d μ2) : mAndV x y ρ μ = .ok d μ2 := by simp only [mAndV, h, Res.bind]; exact h2
end
/-- a comprehension without a test: of each thing what the text makes of it, cells but ex stay -/
theorem comp_keep {α : Type} {chk : Mem → Prop} {g : MG} {te : MD} {ρ0 : Rho} {ex : List Nat} (enc f : α → D) (xs : List α) (μ : Mem) (hc : ∀ μ', Keep ex μ μ' → chk μ') (hl : xs.length < 100000)
    (ht : ∀ x ∈ xs, ∀ μ', Keep ex μ μ' → ∃ ρ' μ2, g (enc x) ρ0 μ' = .ok ρ' μ' ∧ te ρ' μ' = .ok (f x) μ2 ∧ Keep ex μ' μ2) :
    ∃ μ', compL chk g mYes te ρ0 (xs.map enc) [] μ = .ok (xs.map f) μ' ∧ Keep ex μ μ' := by
  have key := compL_ok (chk := chk) (g := g) (tt := mYes) (te := te) (ρ0 := ρ0) (xs.map enc) (fun j acc μ' => j ≤ xs.length ∧ acc = (xs.take j).map f ∧ Keep ex μ μ') 0 (acc := []) (μ := μ) ⟨Nat.zero_le _, by simp, .refl⟩
    (fun _ _ _ ⟨_, _, k⟩ => hc _ k) (fun j d acc μ' e ⟨hj, ea, k⟩ => by
      simp only [Nat.zero_add] at hj ea ⊢
      rw [List.getElem?_map] at e
      obtain ⟨x, ex', rfl⟩ := Option.map_eq_some_iff.mp e
      have hj2 := (List.getElem?_eq_some_iff.mp ex').1
      obtain ⟨ρ', μ2, h1, h2, k2⟩ := ht x (List.mem_of_getElem? ex') μ' k
      refine .mk h1 (.mk (μ := μ') rfl ?_)
      rw [if_pos rfl]
      refine ⟨by rw [ea, List.length_map, List.length_take, sizeLine_eq]; omega, .mk h2 ⟨by omega, ?_, k.trans k2⟩⟩
      rw [ea, List.take_add_one, ex']; simp)
  rw [List.length_map, Nat.zero_add] at key
  obtain ⟨l, μ', e, _, rfl, k⟩ := key
  rw [List.take_length] at e
  exact ⟨μ', e, k⟩
theorem comp_k {α : Type} {it : MIt} {chk : Mem → Prop} {g : MG} {te : MD} {own : List Nat} {ρ : Rho} {ex : List Nat} {μ0 μ : Mem} (enc f : α → D) (xs : List α) (h1 : it ρ μ0 = .ok (xs.map enc, chk) μ) (hc : ∀ μ', Keep ex μ μ' → chk μ') (hl : xs.length < 100000)
    (ht : ∀ x ∈ xs, ∀ μ', Keep ex μ μ' → ∃ ρ' μ2, g (enc x) (wipeR ρ own) μ' = .ok ρ' μ' ∧ te ρ' μ' = .ok (f x) μ2 ∧ Keep ex μ' μ2) :
    ∃ μ', mComp it g mYes te own ρ μ0 = .ok (.ref μ'.length) (μ' ++ [.lst (xs.map f)]) ∧ Keep ex μ μ' := by
  obtain ⟨μ', e, k⟩ := comp_keep (chk := chk) (g := g) (te := te) (ρ0 := wipeR ρ own) enc f xs μ hc hl ht
  exact ⟨μ', comp_is h1 e, k⟩
theorem seq_tup {a : MD} {ρ : Rho} {μ μ1 : Mem} {l : List D} (h : a ρ μ = .ok (.tup l) μ1) : iSeq a ρ μ = .ok (l, fun _ => True) μ1 := by simp only [iSeq, h, Res.bind, itSeq]
/-! ### comparisons of texts -/
theorem eqS {a b : Str} {μ : Mem} (ha : PyData.strOk a = true) (hb : PyData.strOk b = true) : eqD (.str a) (.str b) μ = .ok (.bl (decide (a = b))) μ := by
  have h1 : SeqAt.shaped (PyData.str a) = true := by simp [SeqAt.shaped, PyData.canLay0, PyData.depth, ha]
  have h2 : SeqAt.shaped (PyData.str b) = true := by simp [SeqAt.shaped, PyData.canLay0, PyData.depth, hb]
  simp only [eqD, D.py?, h1, h2, Bool.and_self, if_true, PyData.eqv]
  by_cases h : a = b
  · subst h; simp
  · simp [h]
theorem neS {a b : Str} {μ : Mem} (ha : PyData.strOk a = true) (hb : PyData.strOk b = true) : neD (.str a) (.str b) μ = .ok (.bl (!decide (a = b))) μ := by
  have h1 : SeqAt.shaped (PyData.str a) = true := by simp [SeqAt.shaped, PyData.canLay0, PyData.depth, ha]
  have h2 : SeqAt.shaped (PyData.str b) = true := by simp [SeqAt.shaped, PyData.canLay0, PyData.depth, hb]
  simp only [neD, D.py?, h1, h2, Bool.and_self, if_true, PyData.eqv]
  by_cases h : a = b
  · subst h; simp
  · simp [h]
/-! ### numbers as texts -/
abbrev num (n : Int) : Str := Str.ofString (toString n)
theorem num_tl {n : Int} (h : 0 ≤ n) : TL.tl (num n) = TL.numL n.toNat := by
  have e : n = ((n.toNat : Nat) : Int) := by omega
  rw [show num n = num ((n.toNat : Nat) : Int) by rw [← e]]
  exact TL.tl_num _
theorem num_dig {n : Int} (h : 0 ≤ n) {c : Nat} (hc : c ∈ TL.tl (num n)) : 48 ≤ c ∧ c ≤ 57 := by
  rw [num_tl h] at hc
  exact TL.numL_digits _ c hc
theorem num_free {n : Int} (h : 0 ≤ n) {s : Nat} (hs : s < 48 ∨ 57 < s) : s ∉ TL.tl (num n) := fun hm => by have := num_dig h hm; omega
theorem num_len {n : Int} (h : 0 ≤ n) (h1 : n < 1000000000000000) : 1 ≤ (num n).length ∧ (num n).length ≤ 15 := by
  rw [TL.len_tl, num_tl h]
  refine ⟨?_, TL.numL_len (by decide) (by omega)⟩
  have := TL.numL_ne n.toNat
  cases hl : TL.numL n.toNat with
  | nil => exact absurd hl this
  | cons a l => simp
theorem num_int {n : Int} (h : 0 ≤ n) (h1 : n < 1000000000000000) : intText? (num n) = some n := by
  have e : n = ((n.toNat : Nat) : Int) := by omega
  rw [show num n = num ((n.toNat : Nat) : Int) by rw [← e]]
  have := TL.int_num (n := n.toNat) (by have := TL.numL_len (n := n.toNat) (k := 15) (by decide) (by omega); omega)
  rw [this, ← e]
theorem numL_head : ∀ n : Nat, 1 ≤ n → ∃ c r, TL.numL n = c :: r ∧ c ≠ 48 := by
  intro n
  induction n using Nat.strongRecOn with
  | _ n ih =>
    intro hn
    by_cases h : n < 10
    · exact ⟨48 + n, [], TL.numL_lt h, by omega⟩
    · obtain ⟨c, r, e, hc⟩ := ih (n / 10) (by omega) (by omega)
      exact ⟨c, r ++ [48 + n % 10], by rw [TL.numL_step (by omega), e]; rfl, hc⟩
theorem num_head {n : Int} (h : 0 ≤ n) (hl : 1 < (num n).length) : ∃ c r, TL.tl (num n) = c :: r ∧ c ≠ 48 := by
  rw [num_tl h]
  by_cases hn : n.toNat < 1
  · rw [TL.len_tl, num_tl h, TL.numL_lt (by omega)] at hl
    simp at hl
  · exact numL_head _ (by omega)
theorem figures {c : Nat} (h1 : 48 ≤ c) (h2 : c ≤ 57) : ("0123456789" : Str).cps.contains c = true := by
  have : c = 48 ∨ c = 49 ∨ c = 50 ∨ c = 51 ∨ c = 52 ∨ c = 53 ∨ c = 54 ∨ c = 55 ∨ c = 56 ∨ c = 57 := by omega
  rcases this with rfl | rfl | rfl | rfl | rfl | rfl | rfl | rfl | rfl | rfl <;> decide +kernel
theorem takeWhile_all' {α : Type} (p : α → Bool) : ∀ l : List α, (∀ c ∈ l, p c = true) → l.takeWhile p = l
  | [], _ => rfl
  | a :: l, h => by rw [List.takeWhile_cons, if_pos (h a (List.mem_cons_self ..)), takeWhile_all' p l fun c hc => h c (List.mem_cons_of_mem _ hc)]
theorem num_strip {n : Int} (h : 0 ≤ n) : Txt.stripChars (num n) ("0123456789" : Str) = ("" : Str) := by
  unfold Txt.stripChars
  rw [PyProof.Rows.stripBy_eq]
  refine TL.ext_tl ?_
  rw [TL.tl_strSub]
  have lo : stripLo (("0123456789" : Str).cps.contains) true (num n) = (TL.tl (num n)).length := by
    unfold stripLo
    rw [if_pos rfl]
    show ((TL.tl (num n)).takeWhile _).length = _
    rw [takeWhile_all' _ _ fun c hc => figures (num_dig h hc).1 (num_dig h hc).2]
  rw [lo, List.drop_length, List.take_nil]
  decide +kernel
end RW

/-! SEzc: the module's tuples of constants, dict(..) of them; call of a local name that holds one of two defs. -/
namespace RW
open PySem PySem.Spec L2
open PyProof.Rows hiding St
/-! ### tuples of constants -/
def vOf : D → V
  | .int i => .int i
  | .str s => .str s
  | _ => .non
def isLeafD : D → Bool
  | .int _ => true
  | .str _ => true
  | _ => false
def CKrow (K : PySem.W.Frag) (a : Addr) (r : List D) : Prop := ∃ (us : List Value) (n : Nat) (sl : Array (Option Value)), K.lookup a = some ⟨.type "tuple", none, .seq us.toArray n, sl⟩ ∧ us.length ≤ 1000 ∧ Vals (r.map vOf) us ∧ r.all isLeafD = true
def CKtab (K : PySem.W.Frag) (a : Addr) (rows : List (List D)) : Prop := ∃ (bs : List Addr) (n : Nat) (sl : Array (Option Value)), K.lookup a = some ⟨.type "tuple", none, .seq (bs.map Value.ref).toArray n, sl⟩ ∧ bs.length ≤ 1000 ∧ Paired (fun r b => CKrow K b r) rows bs
section
variable {G : Gd} {ι : List Addr} {H : Hp}
theorem reps_leaf : ∀ {r : List D}, r.all isLeafD = true → Reps G ι H r (r.map vOf)
  | [], _ => .nil
  | d :: r, h => by
    rw [List.all_cons, Bool.and_eq_true] at h
    refine .cons ?_ (reps_leaf h.2)
    cases d with
    | int i => exact rep_int _
    | str s => exact rep_str _
    | _ => exact absurd h.1 (by simp [isLeafD])
theorem CKrow.sq {K : PySem.W.Frag} {a : Addr} {r : List D} (h : CKrow K a r) : SqT K H a (r.map vOf) := by
  obtain ⟨us, n, sl, h1, h2, h3, h4⟩ := h
  exact .inr ⟨_, us.toArray, n, h1, rfl, rfl, by rw [List.size_toArray, sizeLine_eq]; omega, by rw [List.toList_toArray]; exact h3⟩
theorem CKrow.rep {a : Addr} {r : List D} (h : CKrow G.K a r) : Rep G ι H (.tup r) (.ref a) := rep_tup (h.sq (H := H)) (reps_leaf (let ⟨_, _, _, _, _, _, h4⟩ := h; h4))
theorem ck_vals : ∀ {rows : List (List D)} {bs : List Addr}, Paired (fun r b => CKrow G.K b r) rows bs → Reps G ι H (rows.map D.tup) (bs.map V.ref) ∧ Vals (bs.map V.ref) (bs.map Value.ref)
  | _, _, .nil => ⟨.nil, .nil⟩
  | _, _, .cons h t => ⟨.cons h.rep (ck_vals t).1, .cons rfl (ck_vals t).2⟩
theorem CKtab.rep {a : Addr} {rows : List (List D)} (h : CKtab G.K a rows) : Rep G ι H (.tup (rows.map D.tup)) (.ref a) := by
  obtain ⟨bs, n, sl, h1, h2, h3⟩ := h
  obtain ⟨h4, h5⟩ := ck_vals (H := H) (ι := ι) h3
  exact rep_tup (.inr ⟨_, (bs.map Value.ref).toArray, n, h1, rfl, rfl, by rw [List.size_toArray, List.length_map, sizeLine_eq]; omega, by rw [List.toList_toArray]; exact h5⟩) h4
end
section
variable {X : Cx} {W : WX} {pos p p2 : Pos} {x : Str} {a : Addr} {rows : List (List D)}
theorem se_globC (hg : Gl X x) (hm : X.mg x = some (.ref a)) (C : CKtab X.K a rows) (hd : (x == ("__debug__" : Str)) = false := by decide) : SE X W (.Name x pos) (mC (.tup (rows.map D.tup))) :=
  se_c (v := .ref a) (pe_glob hg hm rfl hd) fun ι H => CKtab.rep (G := gOf X) C
/-! ### dict(..) of them -/
theorem pairs_of2 {pins : List (Addr × Obj)} {σ : St} {H : Hp} {s : Shared} (I : Inv X pins σ H s) : ∀ {ps : List Addr} {kvs : List (Key × V)}, Paired (fun p kv => SqT X.K H p [kV kv.1, kv.2]) ps kvs →
    ∃ (prs : List (Key × Value)) (vps : List (Value × Value)), KV kvs prs ∧ prs.length = ps.length ∧ vps.length = ps.length ∧ ∀ (j : Nat) (q : Value × Value), vps[j]? = some q → ∃ (b : Addr) (k : Key), ps[j]? = some b ∧ prs[j]? = some (k, q.2) ∧ IsTup s.heap b #[q.1, q.2] ∧ keyIs k q.1 = true
  | _, _, .nil => ⟨[], [], .nil, rfl, rfl, fun j q e => by simp at e⟩
  | _, _, .cons (a := p) (b := kv) h t => by
    obtain ⟨prs, vps, r, hl, hl2, hp⟩ := pairs_of2 I t
    obtain ⟨its, rv, ht, _⟩ := I.tuple h
    obtain ⟨u, y, ei, ru, ry⟩ := vals2 rv
    subst ei
    refine ⟨(kv.1, y) :: prs, (u, y) :: vps, .cons ⟨rfl, ry⟩ r, by rw [List.length_cons, List.length_cons, hl], by rw [List.length_cons, List.length_cons, hl2], fun j q e => ?_⟩
    cases j with
    | zero =>
      have e' : (u, y) = q := Option.some.inj e
      subst e'
      exact ⟨p, kv.1, rfl, rfl, ht, kV_is (P := X.prog) (w := X.w) ru⟩
    | succ j =>
      obtain ⟨b, k, e1, e2, e3, e4⟩ := hp j q (by simpa using e)
      exact ⟨b, k, by simpa using e1, by simpa using e2, e3, e4⟩
def rDictC (K : PySem.W.Frag) : List V → Hp → VK → Prop := fun xs H Q => ∃ (a : Addr) (bs : List Addr) (n : Nat) (sl : Array (Option Value)) (kvs : List (Key × V)), xs = [.ref a] ∧ K.lookup a = some ⟨.type "tuple", none, .seq (bs.map Value.ref).toArray n, sl⟩ ∧ bs.length ≤ 1000 ∧
  Paired (fun p kv => SqT K H p [kV kv.1, kv.2]) bs kvs ∧ ∀ p, H p = none → Q (.ref p) (upd H p (.dK (mergeK [] kvs)))
theorem call_dictC (hc : X.calm = true) : CallR X (.type "dict") (rDictC X.K) := by
  intro pins s σ H xs us Q I r q
  obtain ⟨a, bs, n, sl, kvs, rfl, hl, hz, hp, q⟩ := q
  obtain ⟨u, rfl, rx⟩ := r.one
  cases rx
  obtain ⟨prs, vps, rel, e1, e2, hpr⟩ := pairs_of2 I hp
  have P := PairArg.tuple (prog := X.prog) (w := X.w) a (bs.map Value.ref).toArray (fun j => bs.getD j 0) vps
  have hin : s.heap.get? a = some ⟨.type "tuple", none, .seq (bs.map Value.ref).toArray n, sl⟩ := I.kIn _ _ hl
  refine PySem.call_dict_pairs (knd := mixKind X.prog X.w) (kvs := prs) P (I.ok.hd hc) ⟨⟨_, n, hin, rfl, rfl, rfl⟩, ?_, fun j k v e => ?_⟩ ⟨by omega, fun i key v hr => ?_⟩ (by rw [sizeLine_eq]; omega) fun h' tk hd' hk => ?_
  · simp [e2]
  · obtain ⟨b, kk, g1, g2, g3, g4⟩ := hpr j (k, v) e
    have : bs.getD j 0 = b := by simp [List.getD, g1]
    show _ = some (Value.ref (bs.getD j 0)) ∧ PairAt s.heap (bs.getD j 0) _ _
    rw [this]
    obtain ⟨o, ho, hcl, m, hd⟩ := g3
    exact ⟨by simp [g1], .inl ⟨o, ho, hcl, m, hd⟩⟩
  · obtain ⟨b, kk, g1, g2, g3, g4⟩ := hpr i (key, v) hr
    exact ⟨kk, g2, g4⟩
  · have hm : (s.heap.objs.size == sysModules) = false := beq_eq_false_iff_ne.mpr (Nat.ne_of_gt I.big)
    have hlen : (mergeK [] kvs).length ≤ sizeLine := by
      refine Nat.le_trans (length_mergeK kvs []) ?_
      rw [List.length_nil, Nat.zero_add, rel.length, e1, sizeLine_eq]
      omega
    exact ⟨.ref s.heap.objs.size, upd H s.heap.objs.size (.dK (mergeK [] kvs)), I.laid (t' := tk) (fun b o e => hk b o (fun z => nomatch z) e) (Nat.le_refl _) (show ObjOk X.prog X.w _ _ _ (.dK (mergeK [] kvs)) from ⟨hlen, hm, merged [] prs, KV.merge rel .nil, hd'⟩), rfl, q _ (I.hok.fresh (Nat.le_refl _))⟩
def mDicC (l : List (D × D)) : MD := fun _ μ => .ok (.ref μ.length) (μ ++ [.dic l])
theorem ck_keys {K : PySem.W.Frag} {H : Hp} : ∀ {rows : List (List D)} {bs : List Addr} {kvs : List (Key × V)}, Paired (fun r b => CKrow K b r) rows bs → Paired (fun r kv => r.map vOf = [kV kv.1, kv.2]) rows kvs → Paired (fun p kv => SqT K H p [kV kv.1, kv.2]) bs kvs
  | _, _, _, .nil, .nil => .nil
  | _, _, _, .cons h t, .cons g u => .cons (by rw [← g]; exact CKrow.sq h) (ck_keys t u)
theorem se_dictC {l : List (D × D)} {kvs : List (Key × V)} (hc : X.calm = true) (hgd : Gl X "dict") (hmd : X.mg "dict" = none) (hg : Gl X x) (hm : X.mg x = some (.ref a)) (C : CKtab X.K a rows) (hk : Paired (fun r kv => r.map vOf = [kV kv.1, kv.2]) rows kvs) (hr : ∀ ι H, Paired (RepP (gOf X) ι H) l (mergeK [] kvs))
    (hd : (x == ("__debug__" : Str)) = false := by decide) (hpl : starEach [Expr.Name x p2] X.env = (false, eval (.Name x p2) X.env) :: starEach [] X.env := by rfl) (hpl2 : (backTo pos (starEach [] X.env)).any (·.1) = false := by rfl) :
    SE X W (.Call (.Name "dict" p) [.Name x p2] [] pos) (mDicC l) :=
  PE.mono (pe_callTy (call_dictC hc) hgd hmd (by decide +kernel) (pa_cons (pe_glob (v := .ref a) hg hm rfl hd) pa_nil) (by decide) (by decide) hpl hpl2) fun σ H Q ⟨ρ, μ, ι, env, rel, h⟩ => by
    obtain ⟨bs, n, sl, h1, h2, h3⟩ := C
    refine ⟨a, bs, n, sl, kvs, rfl, h1, h2, ck_keys h3 hk, fun p hp => ?_⟩
    obtain ⟨g2, r2⟩ := grow_cell (o := .dK (mergeK [] kvs)) (c := .dic l) rel hp fun x => ⟨_, upd_same, hr _ _⟩
    exact h _ _ g2 r2 _ (rep_new (r := rel))
end
/-! ### a local name that holds one of two defs, called -/
def mCallV (i : Nat) (x1 : Str) (s1 : Sem) (x2 : Str) (s2 : Sem) (ms : ML) : MD := fun ρ μ => match ρ[i]? with
  | some (some (.fn y)) => if y = x1 then (ms ρ μ).bind fun ds μ1 => s1 ds μ1 else if y = x2 then (ms ρ μ).bind fun ds μ1 => s2 ds μ1 else .stuck
  | _ => .stuck
section
variable {X : Cx} {W : WX} {k n : Nat} {x x1 x2 : Str} {p pos : Pos} {e : Expr} {es : List Expr} {ms : ML} {s1 s2 : Sem}
theorem se_callV {i j1 j2 : Nat} (F1 : Fn (gOf X) X.base x1 j1 n s1) (F2 : Fn (gOf X) X.base x2 j2 n s2) (hr : RoomG k X.A) (hj1 : j1 ≤ k) (hj2 : j2 ≤ k) (hN : X.N[i]? = some x) (hv : Vis X.env.scope x) (tk : Takes X W) (ha : SA X W (e :: es) ms) (hn : ∀ ρ μ ds μ', ms ρ μ = .ok ds μ' → ds.length = n)
    (hd : (x == ("__debug__" : Str)) = false := by decide) (hcd : (x == ("__classdict__" : Str)) = false := by decide) (he : starEach (e :: es) X.env = (false, eval e X.env) :: starEach es X.env := by rfl) (hpl : (backTo pos (starEach es X.env)).any (·.1) = false := by rfl) :
    SE X W (.Call (.Name x p) (e :: es) [] pos) (mCallV i x1 s1 x2 s2 ms) := by
  refine ⟨fun pins s σ H Q I ⟨ρ, μ, ι, env, rel, h⟩ => ?_⟩
  have go : ∀ {y : Str} {j : Nat} {sem : Sem}, Fn (gOf X) X.base y j n sem → j ≤ k → ρ[i]? = some (some (.fn y)) → Post (gOf X) ι H W σ ((ms ρ μ).bind fun ds μ1 => sem ds μ1) (fun ι' H' _ d => ∀ v, Rep (gOf X) ι' H' d v → Q v H') →
      wpAny (model X.prog X.w) X.A (eval (.Call (.Name x p) (e :: es) [] pos) X.env) (EP X pins σ Q) X.xe s := fun {y j sem} F hj er h => by
    obtain ⟨f, fd, ps, hm, hk, hb, F⟩ := F
    obtain ⟨v, hs, rv⟩ := env.at_ i _ er
    obtain ⟨f', hm', rfl⟩ : ∃ f', (gOf X).mg y = some (.ref f') ∧ v = .ref f' := by unfold Rep at rv; exact rv
    obtain rfl : f' = f := by have := hm'.symm.trans hm; cases this; rfl
    refine wpAny_Call_Name_kw (thn ((pe_var (pos := p) hN hv hd hcd).run pins s σ H (fun v H1 => v = .ref f' ∧ H1 = H) I ⟨.ref f', hs, rfl, rfl⟩) fun u s1 ⟨v, H1, I1, r1, q1⟩ => ?_)
    obtain ⟨rfl, rfl⟩ := q1
    cases r1
    refine PySem.W.callWith_K (h₀ := X.base) I.ok.mod.kin hk (thn (ha.run pos pins s1 σ _ (fun vs H2 => spM (gOf X) n sem vs H2 Q (WE W σ)) I1 ⟨ρ, μ, ι, env, rel, ?_⟩) fun us s2 ⟨vs, H2, I2, r, q⟩ => ⟨I2.kIn, goG (T := WE W) F (hr.le hj) hb (passAt tk σ) I2 r q⟩) he hpl
    have h := Post.bind h
    cases hm : ms ρ μ with
    | stuck => rw [hm] at h; exact h.elim
    | exc c fs m => rw [hm] at h; exact h
    | ok ds μ1 =>
      rw [hm] at h
      intro ι1 H1 g1 r1 vs rvs
      obtain ⟨_, _, h1⟩ := h ι1 H1 g1 r1
      exact ⟨ds, μ1, ι1, rvs, hn ρ μ ds μ1 hm, r1, h1.re fun c d H z => z⟩
  unfold mCallV at h
  split at h
  · rename_i y er
    split at h
    · rename_i h1
      subst h1
      exact go F1 hj1 er h
    · split at h
      · rename_i h2
        subst h2
        exact go F2 hj2 er h
      · exact h.elim
  · exact h.elim
end
end RW

/-! SEzd: list(range(n)). -/
namespace RW
open PySem PySem.Spec L2
open PyProof.Rows hiding St
def mListRg (a : MD) : MD := fun ρ μ => (a ρ μ).bind fun x μ1 => match x with
  | .int n => if 0 ≤ n ∧ n ≤ 1000000 then .ok (.ref μ1.length) (μ1 ++ [.lst (rangeItems 0 n.toNat)]) else .stuck
  | _ => .stuck
theorem reps_range {G : Gd} {ι : List Addr} {H : Hp} (n : Int) : Reps G ι H (rangeItems 0 n.toNat) (rgV 0 n) := by
  have e1 : rangeItems 0 n.toNat = ((List.range n.toNat).map fun (i : Nat) => (0 + (i : Int))).map D.int := by unfold rangeItems; rw [List.map_map]; rfl
  have e2 : rgV 0 n = ((List.range n.toNat).map fun (i : Nat) => (0 + (i : Int))).map V.int := by unfold rgV; rw [List.map_map, Int.sub_zero]; rfl
  rw [e1, e2]
  exact Reps.of_ints _
section
variable {X : Cx} {W : WX} {e : Expr} {me : MD} {p p2 pos pos2 : Pos}
theorem se_listRg (hc : X.calm = true) (hg : Gl X "list") (hm : X.mg "list" = none) (hg2 : Gl X "range") (hm2 : X.mg "range" = none) (he : SE X W e me) (na : starEach [e] X.env = (false, eval e X.env) :: starEach [] X.env := by rfl)
    (nb : starEach [Expr.Call (.Name "range" p2) [e] [] pos2] X.env = (false, eval (Expr.Call (.Name "range" p2) [e] [] pos2) X.env) :: starEach [] X.env := by rfl) :
    SE X W (.Call (.Name "list" p) [.Call (.Name "range" p2) [e] [] pos2] [] pos) (mListRg me) :=
  PE.mono (pe_listRg hc hg hm (prg_1 hg2 hm2 he na) nb) fun σ H Q ⟨ρ, μ, ι, env, rel, h⟩ =>
    ⟨ρ, μ, ι, env, rel, (Post.bind h).imp fun ι1 H1 μ1 x _ _ ⟨g1, r1, h1⟩ v rv => by
      cases x with
      | int n =>
        simp only at h1
        split at h1
        · rename_i c
          cases rv.int
          exact ⟨n, rfl, RgOk.of_le (by decide) (by omega) (by decide) c.1, new_lst r1 (reps_range n) h1⟩
        · exact h1.elim
      | _ => exact h1.elim⟩
end
end RW

/-! SEze: == and != of a row (of any things) and the empty one. -/
namespace RW
open PySem PySem.Spec L2
open PyProof.Rows hiding St
/-- a tuple (true) or a list, its items -/
def kindD (x : D) (μ : Mem) : Option (Bool × List D) := match x with
  | .tup l => some (true, l)
  | .ref n => (match μ[n]? with
    | some (.lst l) => some (false, l)
    | _ => none)
  | _ => none
def eqE (x y : D) (μ : Mem) : Res D := match kindD x μ, kindD y μ with
  | some (true, l), some (true, []) => .ok (.bl l.isEmpty) μ
  | some (false, l), some (false, []) => .ok (.bl l.isEmpty) μ
  | _, _ => eqD x y μ
def neE (x y : D) (μ : Mem) : Res D := match kindD x μ, kindD y μ with
  | some (true, l), some (true, []) => .ok (.bl (!l.isEmpty)) μ
  | some (false, l), some (false, []) => .ok (.bl (!l.isEmpty)) μ
  | _, _ => neD x y μ
def rEmp (K : PySem.W.Frag) (f : Bool → Bool) : R2 := fun x y H Q => ∃ p q xs, x = .ref p ∧ y = .ref q ∧ ((SqL K H p xs ∧ SqL K H q []) ∨ (SqT K H p xs ∧ SqT K H q [])) ∧ Q (.bl (f xs.isEmpty)) H
theorem op_eqEmp {X : Cx} (hu : X.A.units + 64 < cLine) : OpR X (compareOp .Eq) (rEmp X.K id) := by
  intro pins s σ H x y v u Q I rx ry h
  obtain ⟨p, q, xs, rfl, rfl, hk, h⟩ := h
  cases rx; cases ry
  have hu' : X.A.units < cLine := by omega
  rcases hk with ⟨h1, h2⟩ | ⟨h1, h2⟩
  · obtain ⟨its, r, hl, _⟩ := I.list h1
    obtain ⟨its2, r2, hl2, _⟩ := I.list h2
    cases r2
    cases xs with
    | nil =>
      cases r
      exact SeqAt.eq_listAt (e := fun _ => true) hl.isList hl2.isList rfl hu' (fun j h1 _ => absurd h1 (Nat.not_lt_zero _)) ⟨.bl true, H, I, rfl, h⟩
    | cons a xs =>
      cases r
      exact SeqAt.eq_list_lengthsAt hl.isList hl2.isList (by simp) hu' ⟨.bl false, H, I, rfl, h⟩
  · obtain ⟨its, r, hl, _⟩ := I.tuple h1
    obtain ⟨its2, r2, hl2, _⟩ := I.tuple h2
    cases r2
    cases xs with
    | nil =>
      cases r
      exact SeqAt.eq_tupleAt (e := fun _ => true) hl hl2 hu' (fun j h1 _ => absurd h1 (Nat.not_lt_zero _)) ⟨.bl true, H, I, rfl, h⟩
    | cons a xs =>
      cases r
      refine SeqAt.eq_tupleAt (e := fun _ => true) hl hl2 hu' (fun j _ h2 => absurd h2 (Nat.not_lt_zero _)) ⟨.bl false, H, I, ?_, h⟩
      show Value.bool _ = Value.bool false
      simp
theorem ne_compare {X : Cx} {s : Shared} {u v : Value} {b : Bool} {Q : Value → Shared → Prop} {E : Value → Shared → Prop} (h : SeqAt.RcNeAt X.A s u v b) (q : Q (.bool b) s) : wpAny (model X.prog X.w) X.A (compareOp .NotEq u v) Q E s := h X.prog X.w E Q q
theorem op_neEmp {X : Cx} (hu : X.A.units + 64 < cLine) : OpR X (compareOp .NotEq) (rEmp X.K not) := by
  intro pins s σ H x y v u Q I rx ry h
  obtain ⟨p, q, xs, rfl, rfl, hk, h⟩ := h
  cases rx; cases ry
  have hu' : X.A.units < cLine := by omega
  rcases hk with ⟨h1, h2⟩ | ⟨h1, h2⟩
  · obtain ⟨its, r, hl, _⟩ := I.list h1
    obtain ⟨its2, r2, hl2, _⟩ := I.list h2
    cases r2
    cases xs with
    | nil =>
      cases r
      exact ne_compare (SeqAt.RcNeAt.lists (e := fun _ => true) hl.isList hl2.isList rfl hu' (fun j h1 _ => absurd h1 (Nat.not_lt_zero _))) ⟨.bl false, H, I, rfl, h⟩
    | cons a xs =>
      cases r
      exact ne_compare (SeqAt.RcNeAt.lists_lengths hl.isList hl2.isList (by simp) hu') ⟨.bl true, H, I, rfl, h⟩
  · obtain ⟨its, r, hl, _⟩ := I.tuple h1
    obtain ⟨its2, r2, hl2, _⟩ := I.tuple h2
    cases r2
    cases xs with
    | nil =>
      cases r
      exact ne_compare (SeqAt.RcNeAt.tuples (e := fun _ => true) hl hl2 hu' (fun j h1 _ => absurd h1 (Nat.not_lt_zero _))) ⟨.bl false, H, I, rfl, h⟩
    | cons a xs =>
      cases r
      refine ne_compare (SeqAt.RcNeAt.tuples (e := fun _ => true) hl hl2 hu' (fun j _ h2 => absurd h2 (Nat.not_lt_zero _))) ⟨.bl true, H, I, ?_, h⟩
      show Value.bool _ = Value.bool true
      simp
def rEqE (K : PySem.W.Frag) : R2 := fun x y H Q => rEmp K id x y H Q ∨ rEqD K x y H Q
def rNeE (K : PySem.W.Frag) : R2 := fun x y H Q => rEmp K not x y H Q ∨ rNeD K x y H Q
theorem op_eqE {X : Cx} (hu : X.A.units + 64 < cLine) : OpR X (compareOp .Eq) (rEqE X.K) := OpR.or (op_eqEmp hu) (op_eqD hu)
theorem op_neE {X : Cx} (hu : X.A.units + 64 < cLine) : OpR X (compareOp .NotEq) (rNeE X.K) := OpR.or (op_neEmp hu) (op_neD hu)
section
variable {G : Gd} {ι : List Addr} {H : Hp} {μ : Mem}
theorem kind_tup {x : D} {v : V} {l : List D} (r : Rel G ι H μ) (rv : Rep G ι H x v) (e : kindD x μ = some (true, l)) : ∃ a vs, v = .ref a ∧ SqT G.K H a vs ∧ Reps G ι H l vs := by
  cases x with
  | tup t => cases e; exact rv.tup
  | ref n =>
    simp only [kindD] at e
    split at e <;> cases e
  | _ => cases e
theorem kind_lst {x : D} {v : V} {l : List D} (r : Rel G ι H μ) (rv : Rep G ι H x v) (e : kindD x μ = some (false, l)) : ∃ a vs, v = .ref a ∧ SqL G.K H a vs ∧ Reps G ι H l vs := by
  cases x with
  | tup t => cases e
  | ref n =>
    simp only [kindD] at e
    split at e
    · rename_i t em
      cases e
      obtain ⟨a, vs, rfl, _, q1, q2⟩ := r.lst em rv
      exact ⟨a, vs, rfl, .of q1, q2⟩
    · cases e
  | _ => cases e
theorem reps_empty {l : List D} {vs : List V} (r : Reps G ι H l vs) : vs.isEmpty = l.isEmpty := by
  have := r.length
  cases l <;> cases vs <;> simp at this ⊢
end
theorem snd_eqE {G : Gd} : Snd2 G (rEqE G.K) eqE := fun ι H μ x y v u W σ Q r rx ry h => by
  unfold eqE at h
  split at h
  · rename_i l e1 e2
    obtain ⟨a, vs, rfl, h1, h2⟩ := kind_tup r rx e1
    obtain ⟨b, ws, rfl, h3, h4⟩ := kind_tup r ry e2
    cases h4.nil_inv
    exact .inl ⟨a, b, vs, rfl, rfl, .inr ⟨h1, h3⟩, by rw [reps_empty h2]; exact h ι H .refl r _ (rep_bl _)⟩
  · rename_i l e1 e2
    obtain ⟨a, vs, rfl, h1, h2⟩ := kind_lst r rx e1
    obtain ⟨b, ws, rfl, h3, h4⟩ := kind_lst r ry e2
    cases h4.nil_inv
    exact .inl ⟨a, b, vs, rfl, rfl, .inl ⟨h1, h3⟩, by rw [reps_empty h2]; exact h ι H .refl r _ (rep_bl _)⟩
  · exact .inr (snd_eq ι H μ x y v u W σ Q r rx ry h)
theorem snd_neE {G : Gd} : Snd2 G (rNeE G.K) neE := fun ι H μ x y v u W σ Q r rx ry h => by
  unfold neE at h
  split at h
  · rename_i l e1 e2
    obtain ⟨a, vs, rfl, h1, h2⟩ := kind_tup r rx e1
    obtain ⟨b, ws, rfl, h3, h4⟩ := kind_tup r ry e2
    cases h4.nil_inv
    exact .inl ⟨a, b, vs, rfl, rfl, .inr ⟨h1, h3⟩, by rw [reps_empty h2]; exact h ι H .refl r _ (rep_bl _)⟩
  · rename_i l e1 e2
    obtain ⟨a, vs, rfl, h1, h2⟩ := kind_lst r rx e1
    obtain ⟨b, ws, rfl, h3, h4⟩ := kind_lst r ry e2
    cases h4.nil_inv
    exact .inl ⟨a, b, vs, rfl, rfl, .inl ⟨h1, h3⟩, by rw [reps_empty h2]; exact h ι H .refl r _ (rep_bl _)⟩
  · exact .inr (snd_ne ι H μ x y v u W σ Q r rx ry h)
/-! ### a def called without anything -/
section
variable {X : Cx} {W : WX} {k : Nat} {sem : Sem} {x : Str} {p pos : Pos}
theorem se_call0 {j : Nat} (F : Fn (gOf X) X.base x j 0 sem) (hr : RoomG k X.A) (hj : j ≤ k) (hg : Gl X x) (tk : Takes X W) (hdb : (x == ("__debug__" : Str)) = false := by decide) : SE X W (.Call (.Name x p) [] [] pos) (mB sem mNil) := by
  obtain ⟨f, fd, ps, hm, hk, hb, F⟩ := F
  refine ⟨fun pins s σ H Q I ⟨ρ, μ, ι, env, rel, h⟩ => ?_⟩
  refine wpAny_Call_Name_kw (ld_glob I hg hm ?_ hdb)
  refine PySem.W.callWith_K0 I.kIn hk (goG (T := WE W) (ws := []) (xs := []) F (hr.le hj) hb (passAt tk σ) I .nil ?_)
  exact ⟨[], μ, ι, .nil, rfl, rel, h.re fun c d H z => z⟩
end
end RW

/-! SEzf: loops step by step; comprehensions with a test. -/
namespace RW
open PySem L2
section
variable {chk : Mem → Prop} {g : MG} {body : MS} {d v : D} {ds : List D} {ρ ρ1 ρ2 : Rho} {μ μ1 μ2 : Mem}
theorem for_nil (h : chk μ) : forL chk g body [] ρ μ = .ok (.nx ρ) μ := by
  unfold forL
  rw [if_pos h]
theorem for_nx (h : chk μ) (h1 : g d ρ μ = .ok ρ1 μ1) (h2 : body ρ1 μ1 = .ok (.nx ρ2) μ2) : forL chk g body (d :: ds) ρ μ = forL chk g body ds ρ2 μ2 := by
  conv => lhs; unfold forL
  rw [if_pos h]
  simp only [h1, pureE, h2, Res.bind]
  rfl
theorem for_ret (h : chk μ) (h1 : g d ρ μ = .ok ρ1 μ1) (h2 : body ρ1 μ1 = .ok (.ret v) μ2) : forL chk g body (d :: ds) ρ μ = .ok (.ret v) μ2 := by
  conv => lhs; unfold forL
  rw [if_pos h]
  simp only [h1, pureE, h2, Res.bind]
  rfl
theorem for_to {it : MIt} {items : List D} (h : it ρ μ = .ok (items, chk) μ1) : sFor it g body ρ μ = forL chk g body items ρ μ1 := by
  unfold sFor
  rw [h]
  rfl
end
section
variable {ρ : Rho} {μ μ1 μ2 : Mem} {d : D}
theorem andV_f {x y : MD} (h : x ρ μ = .ok (.bl false) μ1) : mAndV x y ρ μ = .ok (.bl false) μ1 := by simp only [mAndV, h, Res.bind, Bool.false_eq_true, if_false]
theorem notV_k {x : MD} {b : Bool} (h : x ρ μ = .ok (.bl b) μ1) : mNotV x ρ μ = .ok (.bl (!b)) μ1 := by simp only [mNotV, h, Res.bind]
theorem seq_if_f {c : MB} {a' b : MS} (h : c ρ μ = .ok false μ1) : sSeq (sIf c a' sNil) b ρ μ = b ρ μ1 := seq_skip h
theorem seq_if_ret {c : MB} {e : MD} {b : MS} (h : c ρ μ = .ok true μ1) (h2 : e ρ μ1 = .ok d μ2) : sSeq (sIf c (sRet e) sNil) b ρ μ = .ok (.ret d) μ2 := seq_ret ((if_t h).trans (ret_is h2))
end
/-- a comprehension with a test: of the items that pass it what the text makes of them -/
theorem comp_test {chk : Mem → Prop} {g : MG} {tt : MB} {te : MD} {ρ0 : Rho} {ex : List Nat} (f : D → Bool) (xs : List D) (μ : Mem) (hc : ∀ μ', Keep ex μ μ' → chk μ') (hl : xs.length < 100000)
    (ht : ∀ x ∈ xs, ∀ μ', Keep ex μ μ' → ∃ ρ' μ2, g x ρ0 μ' = .ok ρ' μ' ∧ tt ρ' μ' = .ok (f x) μ2 ∧ Keep ex μ' μ2 ∧ ∀ μ3, te ρ' μ3 = .ok x μ3) :
    ∃ μ', compL chk g tt te ρ0 xs [] μ = .ok (xs.filter f) μ' ∧ Keep ex μ μ' := by
  have key := compL_ok (chk := chk) (g := g) (tt := tt) (te := te) (ρ0 := ρ0) xs (fun j acc μ' => j ≤ xs.length ∧ acc = (xs.take j).filter f ∧ Keep ex μ μ') 0 (acc := []) (μ := μ) ⟨Nat.zero_le _, by simp, .refl⟩
    (fun _ _ _ ⟨_, _, k⟩ => hc _ k) (fun j d acc μ' e ⟨hj, ea, k⟩ => by
      simp only [Nat.zero_add] at hj ea ⊢
      have hj2 := (List.getElem?_eq_some_iff.mp e).1
      obtain ⟨ρ', μ2, h1, h2, k2, h3⟩ := ht d (List.mem_of_getElem? e) μ' k
      refine .mk h1 (.mk h2 ?_)
      have hf : (xs.take (j + 1)).filter f = (xs.take j).filter f ++ (if f d = true then [d] else []) := by
        rw [List.take_add_one, e]
        show (xs.take j ++ [d]).filter f = _
        rw [List.filter_append]
        congr 1
        by_cases h : f d = true
        · rw [if_pos h]; simp [h]
        · rw [if_neg h]; simp [h]
      by_cases h : f d = true
      · rw [if_pos h]
        refine ⟨?_, .mk (h3 μ2) ⟨by omega, by rw [hf, if_pos h, ea], k.trans k2⟩⟩
        have := List.length_filter_le f (xs.take j)
        rw [ea, sizeLine_eq]
        rw [List.length_take] at this
        omega
      · rw [if_neg h]
        exact ⟨by omega, by rw [hf, if_neg h, List.append_nil, ea], k.trans k2⟩)
  rw [Nat.zero_add] at key
  obtain ⟨l, μ', e, _, rfl, k⟩ := key
  rw [List.take_length] at e
  exact ⟨μ', e, k⟩
theorem filter_empty {α : Type} {f : α → Bool} : ∀ {l : List α}, (l.filter f).isEmpty = !l.any f
  | [] => rfl
  | a :: l => by
    rw [List.filter_cons, List.any_cons]
    cases f a with
    | true => rfl
    | false => simpa using filter_empty (f := f) (l := l)
/-- [.. if ..] == [], [.. if ..] != [] -/
theorem comp_none {it : MIt} {chk : Mem → Prop} {g : MG} {tt : MB} {te : MD} {own : List Nat} {ρ : Rho} {ex : List Nat} {μ0 μ : Mem} (f : D → Bool) (xs : List D) (h1 : it ρ μ0 = .ok (xs, chk) μ) (hc : ∀ μ', Keep ex μ μ' → chk μ') (hl : xs.length < 100000)
    (ht : ∀ x ∈ xs, ∀ μ', Keep ex μ μ' → ∃ ρ' μ2, g x (wipeR ρ own) μ' = .ok ρ' μ' ∧ tt ρ' μ' = .ok (f x) μ2 ∧ Keep ex μ' μ2 ∧ ∀ μ3, te ρ' μ3 = .ok x μ3) :
    ∃ μ', mBin eqE (mComp it g tt te own) (mLst mNil) ρ μ0 = .ok (.bl (!xs.any f)) μ' ∧ Keep ex μ μ' := by
  obtain ⟨μ', e, k⟩ := comp_test (chk := chk) (g := g) (tt := tt) (te := te) (ρ0 := wipeR ρ own) f xs μ hc hl ht
  have c := comp_is (own := own) h1 e
  let μ1 : Mem := μ' ++ [.lst (xs.filter f)]
  have e1 : (μ1 ++ [Cell.lst []])[μ'.length]? = some (.lst (xs.filter f)) := app_at app_new
  refine ⟨μ1 ++ [.lst []], bin_k c (q := .ref μ1.length) (μ2 := μ1 ++ [.lst []]) rfl ?_, (k.trans Keep.app).trans Keep.app⟩
  simp only [eqE, kindD, e1, app_new, filter_empty]
theorem comp_some {it : MIt} {chk : Mem → Prop} {g : MG} {tt : MB} {te : MD} {own : List Nat} {ρ : Rho} {ex : List Nat} {μ0 μ : Mem} (f : D → Bool) (xs : List D) (h1 : it ρ μ0 = .ok (xs, chk) μ) (hc : ∀ μ', Keep ex μ μ' → chk μ') (hl : xs.length < 100000)
    (ht : ∀ x ∈ xs, ∀ μ', Keep ex μ μ' → ∃ ρ' μ2, g x (wipeR ρ own) μ' = .ok ρ' μ' ∧ tt ρ' μ' = .ok (f x) μ2 ∧ Keep ex μ' μ2 ∧ ∀ μ3, te ρ' μ3 = .ok x μ3) :
    ∃ μ', mBin neE (mComp it g tt te own) (mLst mNil) ρ μ0 = .ok (.bl (xs.any f)) μ' ∧ Keep ex μ μ' := by
  obtain ⟨μ', e, k⟩ := comp_test (chk := chk) (g := g) (tt := tt) (te := te) (ρ0 := wipeR ρ own) f xs μ hc hl ht
  have c := comp_is (own := own) h1 e
  let μ1 : Mem := μ' ++ [.lst (xs.filter f)]
  have e1 : (μ1 ++ [Cell.lst []])[μ'.length]? = some (.lst (xs.filter f)) := app_at app_new
  refine ⟨μ1 ++ [.lst []], bin_k c (q := .ref μ1.length) (μ2 := μ1 ++ [.lst []]) rfl ?_, (k.trans Keep.app).trans Keep.app⟩
  simp only [neE, kindD, e1, app_new, filter_empty, Bool.not_not]
section
variable {μ : Mem}
theorem app_lst {n : Nat} {l : List D} {y : D} {ρ : Rho} {o e : MD} {μ1 : Mem} (ho : o ρ μ = .ok (.ref n) μ) (e1 : μ1[n]? = some (.lst l)) (e0 : isLst (.ref n) μ = true) (he : e ρ μ = .ok y μ1) (hl : l.length ≤ 10000) : sExpr (mMt isLst appendM o (mCons e mNil)) ρ μ = .ok (.nx ρ) (μ1.set n (.lst (l ++ [y]))) := by
  have ap : appendM (.ref n) [y] μ1 = .ok .non (μ1.set n (.lst (l ++ [y]))) := by
    simp only [appendM, e1]
    rw [if_pos (by rw [sizeLine_eq]; omega)]
  simp only [sExpr, mMt, ho, Res.bind, e0, if_true, mCons, mNil, he, ap]
  rfl
theorem isLst_of {n : Nat} {l : List D} (e : μ[n]? = some (.lst l)) : isLst (.ref n) μ = true := by simp only [isLst, e]
end
end RW

set_option maxHeartbeats 4000000
namespace K01
open PySem L2 RW
def top (i : Nat) : Stmt := PySem.Challenge.pw_ropewarren_k01_houses_taken_or_not.main.body.getD i (.Pass ⟨0, 0, 0, 0⟩)
abbrev s_law_deck : Stmt := top 21
abbrev N_law_deck : List Str := ["_law_script", "_law_cells", "_law_cell"]
theorem sc_law_deck : FnScope N_law_deck ["_law_script"] (defScope s_law_deck) := ⟨rfl, rfl, rfl, by decide +kernel, rfl, by decide +kernel, by decide +kernel⟩
abbrev s_law_same : Stmt := top 25
abbrev N_law_same : List Str := ["_law_found", "_law_due", "_law_k"]
theorem sc_law_same : FnScope N_law_same ["_law_found", "_law_due"] (defScope s_law_same) := ⟨rfl, rfl, rfl, by decide +kernel, rfl, by decide +kernel, by decide +kernel⟩
abbrev s_law_edges : Stmt := top 40
abbrev N_law_edges : List Str := ["_law_far", "_law_found", "_law_rooms", "_law_narrows", "_law_flaps", "_law_many", "_law_six", "_law_k"]
theorem sc_law_edges : FnScope N_law_edges [] (defScope s_law_edges) := ⟨rfl, rfl, rfl, by decide +kernel, rfl, by decide +kernel, by decide +kernel⟩
abbrev s_law_next : Stmt := top 22
abbrev N_law_next : List Str := ["_law_deck_here", "_law_many", "_law_cells", "_law_rests", "_law_count", "_law_spot", "_law_digit", "_law_mixed"]
theorem sc_law_next : FnScope N_law_next ["_law_deck_here", "_law_many"] (defScope s_law_next) := ⟨rfl, rfl, rfl, by decide +kernel, rfl, by decide +kernel, by decide +kernel⟩
abbrev s_law_one : Stmt := top 23
abbrev N_law_one : List Str := ["_law_deck_here", "_law_some"]
theorem sc_law_one : FnScope N_law_one ["_law_deck_here", "_law_some"] (defScope s_law_one) := ⟨rfl, rfl, rfl, by decide +kernel, rfl, by decide +kernel, by decide +kernel⟩
abbrev s_law_length : Stmt := top 27
abbrev N_law_length : List Str := ["_law_deck_here", "_law_far", "_law_some"]
theorem sc_law_length : FnScope N_law_length ["_law_deck_here", "_law_far"] (defScope s_law_length) := ⟨rfl, rfl, rfl, by decide +kernel, rfl, by decide +kernel, by decide +kernel⟩
abbrev s_law_edge : Stmt := top 24
abbrev N_law_edge : List Str := ["_law_deck_here", "_law_many"]
theorem sc_law_edge : FnScope N_law_edge ["_law_deck_here", "_law_many"] (defScope s_law_edge) := ⟨rfl, rfl, rfl, by decide +kernel, rfl, by decide +kernel, by decide +kernel⟩
abbrev s_law_spots : Stmt := top 26
abbrev N_law_spots : List Str := ["_law_deck_here", "_law_low", "_law_high", "_law_many", "_law_k"]
theorem sc_law_spots : FnScope N_law_spots ["_law_deck_here", "_law_low", "_law_high", "_law_many"] (defScope s_law_spots) := ⟨rfl, rfl, rfl, by decide +kernel, rfl, by decide +kernel, by decide +kernel⟩
abbrev s_law_pipe : Stmt := top 28
abbrev N_law_pipe : List Str := ["_law_deck_here", "_law_one_here", "_law_other", "_law_left", "_law_far", "_law_length_here", "_law_spots_here", "_law_hung", "_law_narrows", "_law_at"]
theorem sc_law_pipe : FnScope N_law_pipe ["_law_deck_here", "_law_one_here", "_law_other", "_law_left", "_law_far"] (defScope s_law_pipe) := ⟨rfl, rfl, rfl, by decide +kernel, rfl, by decide +kernel, by decide +kernel⟩
abbrev s_law_house : Stmt := top 29
abbrev N_law_house : List Str := ["_law_deck_here", "_law_most", "_law_far", "_law_flaps", "_law_rooms", "_law_names", "_law_room", "_law_pipes", "_law_left", "_law_k", "_law_pair", "_law_new"]
theorem sc_law_house : FnScope N_law_house ["_law_deck_here", "_law_most", "_law_far", "_law_flaps"] (defScope s_law_house) := ⟨rfl, rfl, rfl, by decide +kernel, rfl, by decide +kernel, by decide +kernel⟩
abbrev s_law_odd : Stmt := top 32
abbrev N_law_odd : List Str := ["_law_deck_here", "_law_some"]
theorem sc_law_odd : FnScope N_law_odd ["_law_deck_here"] (defScope s_law_odd) := ⟨rfl, rfl, rfl, by decide +kernel, rfl, by decide +kernel, by decide +kernel⟩
abbrev s_law_otherwise : Stmt := top 33
abbrev N_law_otherwise : List Str := ["_law_deck_here", "_law_thing", "_law_course", "_law_beside"]
theorem sc_law_otherwise : FnScope N_law_otherwise ["_law_deck_here", "_law_thing"] (defScope s_law_otherwise) := ⟨rfl, rfl, rfl, by decide +kernel, rfl, by decide +kernel, by decide +kernel⟩
abbrev s_law_spoilt : Stmt := top 34
abbrev N_law_spoilt : List Str := ["_law_deck_here", "_law_thing", "_law_path", "_law_one_here", "_law_spot", "_law_new", "_law_outer"]
theorem sc_law_spoilt : FnScope N_law_spoilt ["_law_deck_here", "_law_thing"] (defScope s_law_spoilt) := ⟨rfl, rfl, rfl, by decide +kernel, rfl, by decide +kernel, by decide +kernel⟩
abbrev s_is_joined : Stmt := top 18
abbrev N_is_joined : List Str := ["rooms", "pipes", "found", "at", "pipe", "here", "there"]
theorem sc_is_joined : FnScope N_is_joined ["rooms", "pipes"] (defScope s_is_joined) := ⟨rfl, rfl, rfl, by decide +kernel, rfl, by decide +kernel, by decide +kernel⟩
abbrev s_is_whole : Stmt := top 10
abbrev N_is_whole : List Str := ["thing"]
theorem sc_is_whole : FnScope N_is_whole ["thing"] (defScope s_is_whole) := ⟨rfl, rfl, rfl, by decide +kernel, rfl, by decide +kernel, by decide +kernel⟩
abbrev s_is_from : Stmt := top 11
abbrev N_is_from : List Str := ["thing", "low", "high"]
theorem sc_is_from : FnScope N_is_from ["thing", "low", "high"] (defScope s_is_from) := ⟨rfl, rfl, rfl, by decide +kernel, rfl, by decide +kernel, by decide +kernel⟩
abbrev s_is_pair : Stmt := top 12
abbrev N_is_pair : List Str := ["thing"]
theorem sc_is_pair : FnScope N_is_pair ["thing"] (defScope s_is_pair) := ⟨rfl, rfl, rfl, by decide +kernel, rfl, by decide +kernel, by decide +kernel⟩
abbrev s_is_size : Stmt := top 15
abbrev N_is_size : List Str := ["thing"]
theorem sc_is_size : FnScope N_is_size ["thing"] (defScope s_is_size) := ⟨rfl, rfl, rfl, by decide +kernel, rfl, by decide +kernel, by decide +kernel⟩
abbrev s_is_course : Stmt := top 16
abbrev N_is_course : List Str := ["thing"]
theorem sc_is_course : FnScope N_is_course ["thing"] (defScope s_is_course) := ⟨rfl, rfl, rfl, by decide +kernel, rfl, by decide +kernel, by decide +kernel⟩
abbrev s_are_pairs : Stmt := top 13
abbrev N_are_pairs : List Str := ["thing", "low", "high", "fits", "least", "pair"]
theorem sc_are_pairs : FnScope N_are_pairs ["thing", "low", "high", "fits"] (defScope s_are_pairs) := ⟨rfl, rfl, rfl, by decide +kernel, rfl, by decide +kernel, by decide +kernel⟩
abbrev s_is_pipe : Stmt := top 17
abbrev N_is_pipe : List Str := ["rooms", "thing", "one", "other", "length", "narrows", "flaps"]
theorem sc_is_pipe : FnScope N_is_pipe ["rooms", "thing"] (defScope s_is_pipe) := ⟨rfl, rfl, rfl, by decide +kernel, rfl, by decide +kernel, by decide +kernel⟩
abbrev s_is_house : Stmt := top 19
abbrev N_is_house : List Str := ["thing", "rooms", "pipes", "pipe"]
theorem sc_is_house : FnScope N_is_house ["thing"] (defScope s_is_house) := ⟨rfl, rfl, rfl, by decide +kernel, rfl, by decide +kernel, by decide +kernel⟩
abbrev s_law_all_joined : Stmt := top 38
abbrev N_law_all_joined : List Str := ["_law_rooms", "_law_pipes", "_law_least", "_law_turn", "_law_pipe_here", "_law_low", "_law_room"]
theorem sc_law_all_joined : FnScope N_law_all_joined ["_law_rooms", "_law_pipes"] (defScope s_law_all_joined) := ⟨rfl, rfl, rfl, by decide +kernel, rfl, by decide +kernel, by decide +kernel⟩
abbrev s_law_is_from : Stmt := top 35
abbrev N_law_is_from : List Str := ["_law_thing", "_law_low", "_law_high"]
theorem sc_law_is_from : FnScope N_law_is_from ["_law_thing", "_law_low", "_law_high"] (defScope s_law_is_from) := ⟨rfl, rfl, rfl, by decide +kernel, rfl, by decide +kernel, by decide +kernel⟩
abbrev s_law_are_pairs : Stmt := top 36
abbrev N_law_are_pairs : List Str := ["_law_thing", "_law_low", "_law_high", "_law_pair", "_law_k"]
theorem sc_law_are_pairs : FnScope N_law_are_pairs ["_law_thing", "_law_low", "_law_high"] (defScope s_law_are_pairs) := ⟨rfl, rfl, rfl, by decide +kernel, rfl, by decide +kernel, by decide +kernel⟩
abbrev s_law_is_pipe : Stmt := top 37
abbrev N_law_is_pipe : List Str := ["_law_rooms", "_law_thing", "_law_one_here", "_law_other", "_law_length_here", "_law_narrows", "_law_flaps", "_law_pair"]
theorem sc_law_is_pipe : FnScope N_law_is_pipe ["_law_rooms", "_law_thing"] (defScope s_law_is_pipe) := ⟨rfl, rfl, rfl, by decide +kernel, rfl, by decide +kernel, by decide +kernel⟩
abbrev s_law_is_one : Stmt := top 39
abbrev N_law_is_one : List Str := ["_law_thing", "_law_rooms", "_law_pipes", "_law_pipe_here"]
theorem sc_law_is_one : FnScope N_law_is_one ["_law_thing"] (defScope s_law_is_one) := ⟨rfl, rfl, rfl, by decide +kernel, rfl, by decide +kernel, by decide +kernel⟩
abbrev s_law : Stmt := top 41
abbrev N_law : List Str := ["_law_script", "_law_deck_here", "_law_some", "_law_turn", "_law_house_here", "_law_bent", "_law_thing", "_law_kept", "_law_found"]
theorem sc_law : FnScope N_law ["_law_script"] (defScope s_law) := ⟨rfl, rfl, rfl, by decide +kernel, rfl, by decide +kernel, by decide +kernel⟩
/-! mirrors -/
noncomputable def b_law_deck : MS := sSeq (sSet 1 (mBin addD (mComp (iSeq (mSlc (mVar 0) oNone (oSome (mC (.int 62))))) (gN 2) (mYes) (mB absL (mCons (mVar 2) (mNil))) [2]) (mBin mulD (mLst (mCons (mC (.int 0)) (mNil))) (mB intL (mCons (mBin eqD (mB lenL (mCons (mVar 0) (mNil))) (mC (.int 0))) (mNil))))))
    (sRet (mLst (mCons (mVar 1) (mCons (mComp (iSeq (mVar 1)) (gN 2) (mYes) (mBin mulD (mVar 2) (mB intL (mCons (mBin (cmpI fun i j => decide (j ≤ i)) (mVar 2) (mBin powD (mC (.int 10)) (mC (.int 18)))) (mNil)))) [2]) (mCons (mC (.int 0)) (mNil))))))
noncomputable def m_law_deck : Sem := runB 3 b_law_deck
noncomputable def b_law_same (self : Sem) : MS := sSeq (sIf (mTest (mUn (isT2 "list" "tuple") (mVar 1))) (sSeq (sIf (mOr (mTest (mBin neD (mUn (isT1 "list") (mVar 0)) (mUn (isT1 "list") (mVar 1)))) (mTest (mBin neD (mUn (isT1 "tuple") (mVar 0)) (mUn (isT1 "tuple") (mVar 1))))) (sRet (mC (.bl false))) (sNil))
    (sSeq (sIf (mTest (mBin neD (mB lenL (mCons (mVar 0) (mNil))) (mB lenL (mCons (mVar 1) (mNil))))) (sRet (mC (.bl false))) (sNil))
    (sRet (mBin eqD (mComp (iRange1 (mCons (mB lenL (mCons (mVar 1) (mNil))) (mNil))) (gN 2) (mNot (mTest (mB self (mCons (mBin idxA (mVar 0) (mVar 2)) (mCons (mBin idxA (mVar 1) (mVar 2)) (mNil)))))) (mVar 2) [2]) (mLst (mNil)))))) (sNil))
    (sSeq (sIf (mTest (mBin isD (mVar 1) (mC .non))) (sRet (mBin isD (mVar 0) (mC .non))) (sNil))
    (sSeq (sIf (mTest (mUn (isT1 "str") (mVar 1))) (sRet (mAndV (mUn (isT1 "str") (mVar 0)) (mBin eqD (mVar 0) (mVar 1)))) (sNil))
    (sRet (mAndV (mUn (isT1 "int") (mVar 0)) (mAndV (mBin eqD (mUn (isT1 "bool") (mVar 0)) (mUn (isT1 "bool") (mVar 1))) (mBin eqD (mVar 0) (mVar 1)))))))
noncomputable def m_law_same : Nat → Sem
  | 0 => stuckS
  | n + 1 => runB 3 (b_law_same (m_law_same n))
noncomputable def b_law_edges : MS := sSeq (sSet 0 (mBin powD (mC (.int 10)) (mC (.int 12))))
    (sSeq (sSet 1 (mLst (mCons (mTup (mCons (mC (.int 1)) (mCons (mTup (mNil)) (mNil)))) (mCons (mTup (mCons (mC (.int 0)) (mCons (mTup (mNil)) (mNil)))) (mCons (mTup (mCons (mC (.int 2)) (mCons (mTup (mNil)) (mNil)))) (mCons (mTup (mCons (mC (.int 1)) (mCons (mTup (mCons (mTup (mCons (mC (.int 0)) (mCons (mC (.int 1)) (mCons (mC (.int 1)) (mCons (mTup (mNil)) (mCons (mTup (mNil)) (mNil))))))) (mNil))) (mNil)))) (mCons (mTup (mCons (mC (.int 2)) (mCons (mTup (mCons (mTup (mCons (mC (.int 0)) (mCons (mC (.int 1)) (mCons (mC (.int 1)) (mCons (mTup (mNil)) (mCons (mTup (mNil)) (mNil))))))) (mNil))) (mNil)))) (mCons (mTup (mCons (mC (.int 2)) (mCons (mTup (mCons (mTup (mCons (mC (.int 1)) (mCons (mC (.int 0)) (mCons (mC (.int 1)) (mCons (mTup (mNil)) (mCons (mTup (mNil)) (mNil))))))) (mNil))) (mNil)))) (mNil)))))))))
    (sSeq (sSet 1 (mBin addD (mVar 1) (mLst (mCons (mTup (mCons (mC (.int 2)) (mCons (mTup (mCons (mTup (mCons (mC (.int 0)) (mCons (mC (.int 0)) (mCons (mC (.int 1)) (mCons (mTup (mNil)) (mCons (mTup (mNil)) (mNil))))))) (mNil))) (mNil)))) (mCons (mTup (mCons (mC (.int 2)) (mCons (mTup (mCons (mTup (mCons (mC (.int 0)) (mCons (mC (.int 1)) (mCons (mVar 0) (mCons (mTup (mNil)) (mCons (mTup (mNil)) (mNil))))))) (mNil))) (mNil)))) (mCons (mTup (mCons (mC (.int 2)) (mCons (mTup (mCons (mTup (mCons (mC (.int 0)) (mCons (mC (.int 1)) (mCons (mBin addD (mVar 0) (mC (.int 1))) (mCons (mTup (mNil)) (mCons (mTup (mNil)) (mNil))))))) (mNil))) (mNil)))) (mNil)))))))
    (sSeq (sSet 1 (mBin addD (mVar 1) (mLst (mCons (mTup (mCons (mC (.int 2)) (mCons (mTup (mCons (mTup (mCons (mC (.int 0)) (mCons (mC (.int 1)) (mCons (mC (.int 0)) (mCons (mTup (mNil)) (mCons (mTup (mNil)) (mNil))))))) (mNil))) (mNil)))) (mCons (mTup (mCons (mC (.int 3)) (mCons (mTup (mCons (mTup (mCons (mC (.int 0)) (mCons (mC (.int 1)) (mCons (mC (.int 1)) (mCons (mTup (mNil)) (mCons (mTup (mNil)) (mNil))))))) (mCons (mTup (mCons (mC (.int 0)) (mCons (mC (.int 1)) (mCons (mC (.int 1)) (mCons (mTup (mNil)) (mCons (mTup (mNil)) (mNil))))))) (mNil)))) (mNil)))) (mNil))))))
    (sSeq (sSet 1 (mBin addD (mVar 1) (mLst (mCons (mTup (mCons (mC (.int 4)) (mCons (mTup (mCons (mTup (mCons (mC (.int 0)) (mCons (mC (.int 1)) (mCons (mC (.int 1)) (mCons (mTup (mNil)) (mCons (mTup (mNil)) (mNil))))))) (mCons (mTup (mCons (mC (.int 1)) (mCons (mC (.int 2)) (mCons (mC (.int 1)) (mCons (mTup (mNil)) (mCons (mTup (mNil)) (mNil))))))) (mCons (mTup (mCons (mC (.int 0)) (mCons (mC (.int 2)) (mCons (mC (.int 1)) (mCons (mTup (mNil)) (mCons (mTup (mNil)) (mNil))))))) (mNil))))) (mNil)))) (mNil)))))
    (sSeq (sFor (iSeq (mLst (mCons (mC (.int 16)) (mCons (mC (.int 17)) (mNil))))) (gN 2) (sExpr (mMt isLst appendM (mVar 1) (mCons (mTup (mCons (mVar 2) (mCons (mB tupleL (mCons (mComp (iRange1 (mCons (mBin subD (mVar 2) (mC (.int 1))) (mNil))) (gN 7) (mYes) (mTup (mCons (mVar 7) (mCons (mBin addD (mVar 7) (mC (.int 1))) (mCons (mC (.int 1)) (mCons (mTup (mNil)) (mCons (mTup (mNil)) (mNil))))))) [7]) (mNil))) (mNil)))) (mNil)))))
    (sSeq (sFor (iSeq (mLst (mCons (mTup (mCons (mTup (mCons (mC (.int 0)) (mCons (mC (.int 1)) (mNil)))) (mNil))) (mCons (mTup (mCons (mTup (mCons (mC (.int 1)) (mCons (mC (.int 1)) (mNil)))) (mNil))) (mCons (mTup (mCons (mTup (mCons (mC (.int 9)) (mCons (mC (.int 1)) (mNil)))) (mNil))) (mCons (mTup (mCons (mTup (mCons (mC (.int 10)) (mCons (mC (.int 1)) (mNil)))) (mNil))) (mCons (mTup (mCons (mTup (mCons (mC (.int 1)) (mCons (mC (.int 0)) (mNil)))) (mNil))) (mCons (mTup (mCons (mTup (mCons (mC (.int 1)) (mCons (mBin powD (mC (.int 10)) (mC (.int 6))) (mNil)))) (mNil))) (mCons (mTup (mCons (mTup (mCons (mC (.int 1)) (mCons (mBin addD (mBin powD (mC (.int 10)) (mC (.int 6))) (mC (.int 1))) (mNil)))) (mNil))) (mNil)))))))))) (gN 3) (sExpr (mMt isLst appendM (mVar 1) (mCons (mTup (mCons (mC (.int 2)) (mCons (mTup (mCons (mTup (mCons (mC (.int 0)) (mCons (mC (.int 1)) (mCons (mC (.int 10)) (mCons (mVar 3) (mCons (mTup (mNil)) (mNil))))))) (mNil))) (mNil)))) (mNil)))))
    (sSeq (sFor (iSeq (mLst (mCons (mTup (mCons (mTup (mCons (mC (.int 1)) (mCons (mC (.int 2)) (mNil)))) (mCons (mTup (mCons (mC (.int 1)) (mCons (mC (.int 3)) (mNil)))) (mNil)))) (mCons (mTup (mCons (mTup (mCons (mC (.int 2)) (mCons (mC (.int 1)) (mNil)))) (mCons (mTup (mCons (mC (.int 1)) (mCons (mC (.int 1)) (mNil)))) (mNil)))) (mCons (mLst (mCons (mTup (mCons (mC (.int 1)) (mCons (mC (.int 1)) (mNil)))) (mNil))) (mCons (mTup (mCons (mLst (mCons (mC (.int 1)) (mCons (mC (.int 1)) (mNil)))) (mNil))) (mCons (mTup (mCons (mTup (mCons (mC (.int 1)) (mNil))) (mNil))) (mCons (mTup (mCons (mTup (mCons (mC (.bl true)) (mCons (mC (.int 1)) (mNil)))) (mNil))) (mCons (mTup (mCons (mTup (mCons (mC (.int 1)) (mCons (mC (.bl true)) (mNil)))) (mNil))) (mNil)))))))))) (gN 3) (sExpr (mMt isLst appendM (mVar 1) (mCons (mTup (mCons (mC (.int 2)) (mCons (mTup (mCons (mTup (mCons (mC (.int 0)) (mCons (mC (.int 1)) (mCons (mC (.int 10)) (mCons (mVar 3) (mCons (mTup (mNil)) (mNil))))))) (mNil))) (mNil)))) (mNil)))))
    (sSeq (sFor (iSeq (mLst (mCons (mTup (mCons (mTup (mCons (mC (.int 0)) (mCons (mC (.int 1)) (mNil)))) (mNil))) (mCons (mTup (mCons (mTup (mCons (mC (.int 9)) (mCons (mUn negD (mC (.int 1))) (mNil)))) (mNil))) (mCons (mTup (mCons (mTup (mCons (mC (.int 10)) (mCons (mC (.int 1)) (mNil)))) (mNil))) (mCons (mTup (mCons (mTup (mCons (mUn negD (mC (.int 1))) (mCons (mC (.int 1)) (mNil)))) (mNil))) (mCons (mTup (mCons (mTup (mCons (mC (.int 0)) (mCons (mC (.int 0)) (mNil)))) (mNil))) (mCons (mTup (mCons (mTup (mCons (mC (.int 0)) (mCons (mC (.int 2)) (mNil)))) (mNil))) (mCons (mTup (mCons (mTup (mCons (mC (.int 0)) (mCons (mC (.bl true)) (mNil)))) (mNil))) (mCons (mTup (mCons (mTup (mCons (mC (.int 0)) (mCons (mC (.int 1)) (mNil)))) (mCons (mTup (mCons (mC (.int 0)) (mCons (mUn negD (mC (.int 1))) (mNil)))) (mNil)))) (mNil))))))))))) (gN 4) (sExpr (mMt isLst appendM (mVar 1) (mCons (mTup (mCons (mC (.int 2)) (mCons (mTup (mCons (mTup (mCons (mC (.int 0)) (mCons (mC (.int 1)) (mCons (mC (.int 10)) (mCons (mTup (mNil)) (mCons (mVar 4) (mNil))))))) (mNil))) (mNil)))) (mNil)))))
    (sSeq (sFor (iSeq (mLst (mCons (mC (.int 12)) (mCons (mC (.int 13)) (mNil))))) (gN 5) (sExpr (mMt isLst appendM (mVar 1) (mCons (mTup (mCons (mC (.int 2)) (mCons (mTup (mCons (mTup (mCons (mC (.int 0)) (mCons (mC (.int 1)) (mCons (mC (.int 20)) (mCons (mB tupleL (mCons (mComp (iRange1 (mCons (mVar 5) (mNil))) (gN 7) (mYes) (mTup (mCons (mBin addD (mVar 7) (mC (.int 1))) (mCons (mC (.int 1)) (mNil)))) [7]) (mNil))) (mCons (mTup (mNil)) (mNil))))))) (mNil))) (mNil)))) (mNil)))))
    (sSeq (sFor (iSeq (mLst (mCons (mC (.int 6)) (mCons (mC (.int 7)) (mNil))))) (gN 5) (sExpr (mMt isLst appendM (mVar 1) (mCons (mTup (mCons (mC (.int 2)) (mCons (mTup (mCons (mTup (mCons (mC (.int 0)) (mCons (mC (.int 1)) (mCons (mC (.int 20)) (mCons (mTup (mNil)) (mCons (mB tupleL (mCons (mComp (iRange1 (mCons (mVar 5) (mNil))) (gN 7) (mYes) (mTup (mCons (mVar 7) (mCons (mC (.int 1)) (mNil)))) [7]) (mNil))) (mNil))))))) (mNil))) (mNil)))) (mNil)))))
    (sSeq (sSet 6 (mB tupleL (mCons (mComp (iRange1 (mCons (mC (.int 6)) (mNil))) (gN 7) (mYes) (mTup (mCons (mBin addD (mVar 7) (mC (.int 1))) (mCons (mC (.int 1)) (mNil)))) [7]) (mNil))))
    (sSeq (sExpr (mMt isLst appendM (mVar 1) (mCons (mTup (mCons (mC (.int 3)) (mCons (mTup (mCons (mTup (mCons (mC (.int 0)) (mCons (mC (.int 1)) (mCons (mC (.int 9)) (mCons (mVar 6) (mCons (mSlc (mVar 6) oNone (oSome (mC (.int 3)))) (mNil))))))) (mCons (mTup (mCons (mC (.int 1)) (mCons (mC (.int 2)) (mCons (mC (.int 9)) (mCons (mVar 6) (mCons (mSlc (mVar 6) oNone (oSome (mC (.int 3)))) (mNil))))))) (mNil)))) (mNil)))) (mNil))))
    (sSeq (sExpr (mMt isLst appendM (mVar 1) (mCons (mTup (mCons (mC (.int 3)) (mCons (mTup (mCons (mTup (mCons (mC (.int 0)) (mCons (mC (.int 1)) (mCons (mC (.int 9)) (mCons (mVar 6) (mCons (mSlc (mVar 6) oNone (oSome (mC (.int 4)))) (mNil))))))) (mCons (mTup (mCons (mC (.int 1)) (mCons (mC (.int 2)) (mCons (mC (.int 9)) (mCons (mVar 6) (mCons (mSlc (mVar 6) oNone (oSome (mC (.int 3)))) (mNil))))))) (mNil)))) (mNil)))) (mNil))))
    (sRet (mBin addD (mVar 1) (mLst (mCons (mTup (mCons (mC (.int 3)) (mCons (mTup (mCons (mTup (mCons (mC (.int 0)) (mCons (mC (.int 1)) (mCons (mC (.int 9)) (mCons (mBin addD (mVar 6) (mTup (mCons (mTup (mCons (mC (.int 7)) (mCons (mC (.int 1)) (mNil)))) (mNil)))) (mCons (mTup (mNil)) (mNil))))))) (mCons (mTup (mCons (mC (.int 0)) (mCons (mC (.int 2)) (mCons (mC (.int 9)) (mCons (mVar 6) (mCons (mTup (mNil)) (mNil))))))) (mNil)))) (mNil)))) (mNil))))))))))))))))))
noncomputable def m_law_edges : Sem := runB 8 b_law_edges
noncomputable def b_law_next : MS := sSeq (sAsg (mVar 0) (gTupM 3 (gConsM (gN 2) (gConsM (gN 3) (gConsM (gN 4) (gNilM))))))
    (sSeq (sAsg (mBin addD (mVar 4) (mC (.int 1))) (gSubM setDD (mVar 0) (mC (.int 2))))
    (sSeq (sSet 5 (mBin modD (mVar 4) (mB lenL (mCons (mVar 2) (mNil)))))
    (sSeq (sIf (mTest (mBin (cmpI fun i j => decide (j < i)) (mBin idxA (mVar 3) (mVar 5)) (mC (.int 0)))) (sSeq (sSet 6 (mBin modD (mBin idxA (mVar 3) (mVar 5)) (mVar 1)))
    (sSeq (sAsg (mBin fdivD (mBin idxA (mVar 3) (mVar 5)) (mVar 1)) (gSubM setDD (mVar 3) (mVar 5)))
    (sRet (mVar 6)))) (sNil))
    (sSeq (sSet 7 (mBin mulD (mBin addD (mBin addD (mBin idxA (mVar 2) (mVar 5)) (mBin mulD (mC (.int 1009)) (mVar 4))) (mC (.int 3))) (mBin addD (mC (.int 50021)) (mBin mulD (mC (.int 2)) (mVar 4)))))
    (sSeq (sSet 7 (mBin modD (mBin addD (mVar 7) (mBin mulD (mC (.int 60013)) (mVar 4))) (mC (.int 2305843009213693951))))
    (sSeq (sSet 7 (mBin modD (mBin addD (mBin mulD (mVar 7) (mVar 7)) (mC (.int 79633))) (mC (.int 2305843009213693921))))
    (sSeq (sSet 7 (mBin modD (mBin mulD (mVar 7) (mVar 7)) (mC (.int 2305843009213693951))))
    (sRet (mBin modD (mBin fdivD (mVar 7) (mC (.int 512))) (mVar 1))))))))))
noncomputable def m_law_next : Sem := runB 8 b_law_next
noncomputable def b_law_one : MS := sRet (mBin idxA (mVar 1) (mB m_law_next (mCons (mVar 0) (mCons (mB lenL (mCons (mVar 1) (mNil))) (mNil)))))
noncomputable def m_law_one : Sem := runB 2 b_law_one
noncomputable def b_law_length : MS := sSeq (sSet 2 (mLst (mCons (mC (.int 1)) (mCons (mBin addD (mC (.int 1)) (mB m_law_next (mCons (mVar 0) (mCons (mC (.int 3)) (mNil))))) (mCons (mBin addD (mC (.int 2)) (mB m_law_next (mCons (mVar 0) (mCons (mC (.int 3)) (mNil))))) (mNil))))))
    (sSeq (sIf (mTest (mBin (cmpI fun i j => decide (j < i)) (mVar 1) (mC (.int 0)))) (sSet 2 (mBin addD (mVar 2) (mLst (mCons (mBin addD (mC (.int 2)) (mB m_law_next (mCons (mVar 0) (mCons (mC (.int 12)) (mNil))))) (mCons (mBin subD (mBin powD (mC (.int 10)) (mC (.int 12))) (mB m_law_next (mCons (mVar 0) (mCons (mC (.int 3)) (mNil))))) (mCons (mBin addD (mC (.int 1)) (mB m_law_next (mCons (mVar 0) (mCons (mBin powD (mC (.int 10)) (mC (.int 12))) (mNil))))) (mNil))))))) (sNil))
    (sRet (mB m_law_one (mCons (mVar 0) (mCons (mVar 2) (mNil))))))
noncomputable def m_law_length : Sem := runB 3 b_law_length
noncomputable def b_law_edge : MS := sRet (mB m_law_one (mCons (mVar 0) (mCons (mLst (mCons (mC (.int 0)) (mCons (mBin subD (mVar 1) (mC (.int 1))) (mCons (mB m_law_next (mCons (mVar 0) (mCons (mVar 1) (mNil)))) (mCons (mB m_law_next (mCons (mVar 0) (mCons (mB min2L (mCons (mVar 1) (mCons (mC (.int 4)) (mNil)))) (mNil)))) (mNil)))))) (mNil))))
noncomputable def m_law_edge : Sem := runB 2 b_law_edge
noncomputable def b_law_spots : MS := sSeq (sIf (mTest (mBin (cmpI fun i j => decide (i < j)) (mVar 2) (mVar 1))) (sRet (mLst (mNil))) (sNil))
    (sRet (mB sortedA (mCons (mB setL (mCons (mComp (iRange1 (mCons (mVar 3) (mNil))) (gN 4) (mYes) (mBin addD (mVar 1) (mB m_law_edge (mCons (mVar 0) (mCons (mBin addD (mBin subD (mVar 2) (mVar 1)) (mC (.int 1))) (mNil))))) [4]) (mNil))) (mNil))))
noncomputable def m_law_spots : Sem := runB 5 b_law_spots
noncomputable def b_law_pipe : MS := sSeq (sSet 5 (mB m_law_length (mCons (mVar 0) (mCons (mVar 4) (mNil)))))
    (sSeq (sSet 6 (mB m_law_spots (mCons (mVar 0) (mCons (mC (.int 1)) (mCons (mBin subD (mVar 5) (mC (.int 1))) (mCons (mB min2L (mCons (mBin idxA (mVar 3) (mC (.int 0))) (mCons (mBin idxA (mLst (mCons (mC (.int 0)) (mCons (mC (.int 0)) (mCons (mC (.int 1)) (mCons (mC (.int 3)) (mNil)))))) (mB m_law_next (mCons (mVar 0) (mCons (mC (.int 4)) (mNil))))) (mNil)))) (mNil)))))))
    (sSeq (sSet 7 (mB m_law_spots (mCons (mVar 0) (mCons (mC (.int 0)) (mCons (mBin subD (mVar 5) (mC (.int 1))) (mCons (mB min2L (mCons (mBin idxA (mVar 3) (mC (.int 1))) (mCons (mBin idxA (mLst (mCons (mC (.int 0)) (mCons (mC (.int 0)) (mCons (mC (.int 1)) (mCons (mC (.int 2)) (mNil)))))) (mB m_law_next (mCons (mVar 0) (mCons (mC (.int 4)) (mNil))))) (mNil)))) (mNil)))))))
    (sSeq (sAsg (mBin subD (mBin idxA (mVar 3) (mC (.int 0))) (mB lenL (mCons (mVar 6) (mNil)))) (gSubM setDD (mVar 3) (mC (.int 0))))
    (sSeq (sAsg (mBin subD (mBin idxA (mVar 3) (mC (.int 1))) (mB lenL (mCons (mVar 7) (mNil)))) (gSubM setDD (mVar 3) (mC (.int 1))))
    (sSeq (sSet 8 (mB tupleL (mCons (mComp (iSeq (mVar 6)) (gN 9) (mYes) (mTup (mCons (mVar 9) (mCons (mBin addD (mC (.int 1)) (mB m_law_edge (mCons (mVar 0) (mCons (mBin idxA (mLst (mCons (mC (.int 3)) (mCons (mBin powD (mC (.int 10)) (mC (.int 6))) (mNil)))) (mVar 4)) (mNil))))) (mNil)))) [9]) (mNil))))
    (sRet (mTup (mCons (mVar 1) (mCons (mVar 2) (mCons (mVar 5) (mCons (mVar 8) (mCons (mB tupleL (mCons (mComp (iSeq (mVar 7)) (gN 9) (mYes) (mTup (mCons (mVar 9) (mCons (mBin subD (mC (.int 1)) (mBin mulD (mC (.int 2)) (mB m_law_next (mCons (mVar 0) (mCons (mC (.int 2)) (mNil)))))) (mNil)))) [9]) (mNil))) (mNil)))))))))))))
noncomputable def m_law_pipe : Sem := runB 10 b_law_pipe
noncomputable def b_law_house : MS := sSeq (sSet 4 (mBin addD (mC (.int 1)) (mB m_law_next (mCons (mVar 0) (mCons (mVar 1) (mNil))))))
    (sSeq (sSet 5 (mLst (mNil)))
    (sSeq (sFor (iRange1 (mCons (mVar 4) (mNil))) (gN 6) (sExpr (mMt isLst insertM (mVar 5) (mCons (mB m_law_next (mCons (mVar 0) (mCons (mBin addD (mVar 6) (mC (.int 1))) (mNil)))) (mCons (mVar 6) (mNil))))))
    (sSeq (sSet 7 (mLst (mNil)))
    (sSeq (sSet 8 (mLst (mCons (mC (.int 12)) (mCons (mBin mulD (mC (.int 6)) (mVar 3)) (mNil)))))
    (sSeq (sFor (iRange2 (mCons (mC (.int 1)) (mCons (mVar 4) (mNil)))) (gN 9) (sSeq (sSet 10 (mB sortedA (mCons (mLst (mCons (mBin idxA (mVar 5) (mB m_law_next (mCons (mVar 0) (mCons (mVar 9) (mNil))))) (mCons (mBin idxA (mVar 5) (mVar 9)) (mNil)))) (mNil))))
    (sSeq (sSet 11 (mB m_law_pipe (mCons (mVar 0) (mCons (mBin idxA (mVar 10) (mC (.int 0))) (mCons (mBin idxA (mVar 10) (mC (.int 1))) (mCons (mVar 8) (mCons (mVar 2) (mNil))))))))
    (sExpr (mMt isLst insertM (mVar 7) (mCons (mB m_law_next (mCons (mVar 0) (mCons (mVar 9) (mNil)))) (mCons (mVar 11) (mNil))))))))
    (sRet (mTup (mCons (mVar 4) (mCons (mB tupleL (mCons (mVar 7) (mNil))) (mNil))))))))))
noncomputable def m_law_house : Sem := runB 12 b_law_house
noncomputable def b_law_odd : MS := sSeq (sSet 1 (mLst (mCons (mC .non) (mCons (mC (.bl true)) (mCons (mC (.bl false)) (mCons (mUn negD (mC (.int 1))) (mCons (mC (.int 0)) (mCons (mC (.int 1)) (mCons (mBin powD (mC (.int 10)) (mC (.int 39))) (mCons (mC (.str "")) (mCons (mC (.str "0")) (mCons (mTup (mNil)) (mCons (mLst (mNil)) (mCons (mDicNew) (mCons (mTup (mCons (mC (.int 0)) (mNil))) (mCons (mLst (mCons (mC (.int 0)) (mNil))) (mCons (mTup (mCons (mTup (mNil)) (mNil))) (mCons (mTup (mCons (mC (.int 0)) (mCons (mC (.int 0)) (mCons (mC (.int 0)) (mNil))))) (mCons (mTup (mCons (mC (.int 0)) (mCons (mC (.int 1)) (mCons (mC (.int 2)) (mCons (mTup (mNil)) (mCons (mTup (mNil)) (mNil))))))) (mNil))))))))))))))))))))
    (sRet (mBin idxA (mVar 1) (mB m_law_next (mCons (mVar 0) (mCons (mC (.int 17)) (mNil))))))
noncomputable def m_law_odd : Sem := runB 2 b_law_odd
noncomputable def b_law_otherwise : MS := sSeq (sSet 2 (mB m_law_next (mCons (mVar 0) (mCons (mC (.int 9)) (mNil)))))
    (sSeq (sIf (mAnd (mTest (mUn (isT1 "int") (mVar 1))) (mAnd (mNot (mTest (mUn (isT1 "bool") (mVar 1)))) (mTest (mBin (cmpI fun i j => decide (i < j)) (mVar 2) (mC (.int 5)))))) (sSeq (sSet 3 (mLst (mCons (mBin addD (mVar 1) (mC (.int 1))) (mCons (mBin subD (mVar 1) (mC (.int 1))) (mCons (mBin eqD (mVar 1) (mC (.int 1))) (mCons (mBin subD (mC (.int 0)) (mVar 1)) (mCons (mBin addD (mBin powD (mC (.int 10)) (mC (.int 12))) (mC (.int 1))) (mCons (mBin addD (mBin powD (mC (.int 10)) (mC (.int 6))) (mC (.int 1))) (mCons (mBin addD (mVar 1) (mC (.int 16))) (mCons (mB strL (mCons (mVar 1) (mNil))) (mNil)))))))))))
    (sRet (mLst (mCons (mBin idxA (mVar 3) (mB m_law_next (mCons (mVar 0) (mCons (mC (.int 8)) (mNil))))) (mNil))))) (sNil))
    (sSeq (sIf (mAnd (mTest (mUn (isT1 "tuple") (mVar 1))) (mTest (mBin (cmpI fun i j => decide (i < j)) (mVar 2) (mC (.int 2))))) (sRet (mLst (mCons (mBin idxA (mLst (mCons (mB listA (mCons (mVar 1) (mNil))) (mCons (mUn backD (mVar 1)) (mNil)))) (mVar 2)) (mNil)))) (sNil))
    (sSeq (sIf (mTest (mBin eqD (mVar 2) (mC (.int 5)))) (sRet (mLst (mNil))) (sNil))
    (sSeq (sIf (mTest (mBin eqD (mVar 2) (mC (.int 6)))) (sRet (mLst (mCons (mVar 1) (mCons (mVar 1) (mNil))))) (sNil))
    (sRet (mLst (mCons (mB m_law_odd (mCons (mVar 0) (mNil))) (mNil))))))))
noncomputable def m_law_otherwise : Sem := runB 4 b_law_otherwise
noncomputable def b_law_spoilt : MS := sSeq (sSet 2 (mLst (mNil)))
    (sSeq (sSet 3 (mVar 1))
    (sSeq (whileL (mAnd (mTest (mUn (isT1 "tuple") (mVar 3))) (mAnd (mTest (mBin neE (mVar 3) (mTup (mNil)))) (mTest (mBin (cmpI fun i j => decide (j < i)) (mB m_law_next (mCons (mVar 0) (mCons (mC (.int 6)) (mNil)))) (mC (.int 0)))))) (sSeq (sSet 4 (mB m_law_next (mCons (mVar 0) (mCons (mB lenL (mCons (mVar 3) (mNil))) (mNil)))))
    (sSeq (sExpr (mMt isLst appendM (mVar 2) (mCons (mTup (mCons (mVar 3) (mCons (mVar 4) (mNil)))) (mNil))))
    (sSet 3 (mBin idxA (mVar 3) (mVar 4))))) 1000)
    (sSeq (sSet 5 (mB m_law_otherwise (mCons (mVar 0) (mCons (mVar 3) (mNil)))))
    (sSeq (sFor (iRevD (mCons (mVar 2) (mNil))) (gTupM 2 (gConsM (gN 6) (gConsM (gN 4) (gNilM)))) (sSet 5 (mLst (mCons (mBin addD (mBin addD (mSlc (mVar 6) oNone (oSome (mVar 4))) (mB tupleL (mCons (mVar 5) (mNil)))) (mSlc (mVar 6) (oSome (mBin addD (mVar 4) (mC (.int 1)))) oNone)) (mNil)))))
    (sRet (mBin idxA (mBin addD (mVar 5) (mLst (mCons (mC .non) (mNil)))) (mC (.int 0))))))))
noncomputable def m_law_spoilt : Sem := runB 7 b_law_spoilt
noncomputable def b_is_joined : MS := sSeq (sSet 2 (mLst (mCons (mC (.int 0)) (mNil))))
    (sSeq (sSet 3 (mC (.int 0)))
    (sSeq (whileL (mTest (mBin (cmpI fun i j => decide (i < j)) (mVar 3) (mB lenX (mCons (mVar 2) (mNil))))) (sSeq (sFor (iSeq (mVar 1)) (gN 4) (sFor (iSeq (mTup (mCons (mSlc (mVar 4) oNone (oSome (mC (.int 2)))) (mCons (mUn (backAtD 1) (mVar 4)) (mNil))))) (gTupM 2 (gConsM (gN 5) (gConsM (gN 6) (gNilM)))) (sIf (mAnd (mTest (mBin eqD (mVar 5) (mBin idxA (mVar 2) (mVar 3)))) (mTest (mBin notInX (mVar 6) (mVar 2)))) (sExpr (mMt isLst appendM (mVar 2) (mCons (mVar 6) (mNil)))) (sNil))))
    (sAug 3 iaddD (mC (.int 1)))) 1000)
    (sRet (mBin eqD (mB lenX (mCons (mVar 2) (mNil))) (mVar 0)))))
noncomputable def m_is_joined : Sem := runB 7 b_is_joined
noncomputable def b_is_whole : MS := sRet (mAndV (mUn (isT1 "int") (mVar 0)) (mNotV (mUn (isT1 "bool") (mVar 0))))
noncomputable def m_is_whole : Sem := runB 1 b_is_whole
noncomputable def b_is_from : MS := sRet (mAndV (mB m_is_whole (mCons (mVar 0) (mNil))) (mChain (cmpI fun i j => decide (i ≤ j)) (cmpI fun i j => decide (i ≤ j)) (mVar 1) (mVar 0) (mVar 2)))
noncomputable def m_is_from : Sem := runB 3 b_is_from
noncomputable def b_is_pair : MS := sRet (mAndV (mUn (isT1 "tuple") (mVar 0)) (mBin eqD (mB lenL (mCons (mVar 0) (mNil))) (mC (.int 2))))
noncomputable def m_is_pair : Sem := runB 1 b_is_pair
noncomputable def b_is_size : MS := sRet (mB m_is_from (mCons (mVar 0) (mCons (mC (.int 1)) (mCons (mC (.int 1000000)) (mNil)))))
noncomputable def m_is_size : Sem := runB 1 b_is_size
noncomputable def b_is_course : MS := sRet (mAndV (mB m_is_whole (mCons (mVar 0) (mNil))) (mBin inX (mVar 0) (mTup (mCons (mUn negD (mC (.int 1))) (mCons (mC (.int 1)) (mNil))))))
noncomputable def m_is_course : Sem := runB 1 b_is_course
noncomputable def b_are_pairs : MS := sSeq (sIf (mNot (mTest (mUn (isT1 "tuple") (mVar 0)))) (sRet (mC (.bl false))) (sNil))
    (sSeq (sSet 4 (mVar 1))
    (sSeq (sFor (iSeq (mVar 0)) (gN 5) (sSeq (sIf (mOr (mNot (mTest (mB m_is_pair (mCons (mVar 5) (mNil))))) (mOr (mNot (mTest (mB m_is_from (mCons (mBin idxA (mVar 5) (mC (.int 0))) (mCons (mVar 4) (mCons (mVar 2) (mNil))))))) (mNot (mTest (mCallV 3 "is_size" m_is_size "is_course" m_is_course (mCons (mBin idxA (mVar 5) (mC (.int 1))) (mNil))))))) (sRet (mC (.bl false))) (sNil))
    (sSet 4 (mBin addD (mBin idxA (mVar 5) (mC (.int 0))) (mC (.int 1))))))
    (sRet (mC (.bl true)))))
noncomputable def m_are_pairs : Sem := runB 6 b_are_pairs
noncomputable def b_is_pipe : MS := sSeq (sIf (mOr (mNot (mTest (mUn (isT1 "tuple") (mVar 1)))) (mTest (mBin neD (mB lenL (mCons (mVar 1) (mNil))) (mC (.int 5))))) (sRet (mC (.bl false))) (sNil))
    (sSeq (sAsg (mVar 1) (gTupM 5 (gConsM (gN 2) (gConsM (gN 3) (gConsM (gN 4) (gConsM (gN 5) (gConsM (gN 6) (gNilM))))))))
    (sSeq (sIf (mOr (mNot (mTest (mB m_is_from (mCons (mVar 2) (mCons (mC (.int 0)) (mCons (mBin subD (mVar 0) (mC (.int 1))) (mNil))))))) (mOr (mNot (mTest (mB m_is_from (mCons (mVar 3) (mCons (mBin addD (mVar 2) (mC (.int 1))) (mCons (mBin subD (mVar 0) (mC (.int 1))) (mNil))))))) (mNot (mTest (mB m_is_from (mCons (mVar 4) (mCons (mC (.int 1)) (mCons (mC (.int 1000000000000)) (mNil))))))))) (sRet (mC (.bl false))) (sNil))
    (sRet (mAndV (mB m_are_pairs (mCons (mVar 5) (mCons (mC (.int 1)) (mCons (mBin subD (mVar 4) (mC (.int 1))) (mCons (mC (.fn "is_size")) (mNil)))))) (mB m_are_pairs (mCons (mVar 6) (mCons (mC (.int 0)) (mCons (mBin subD (mVar 4) (mC (.int 1))) (mCons (mC (.fn "is_course")) (mNil))))))))))
noncomputable def m_is_pipe : Sem := runB 7 b_is_pipe
noncomputable def b_is_house : MS := sSeq (sIf (mOr (mNot (mTest (mUn (isT1 "tuple") (mVar 0)))) (mTest (mBin neD (mB lenL (mCons (mVar 0) (mNil))) (mC (.int 2))))) (sRet (mC (.bl false))) (sNil))
    (sSeq (sAsg (mVar 0) (gTupM 2 (gConsM (gN 1) (gConsM (gN 2) (gNilM)))))
    (sSeq (sIf (mOr (mNot (mTest (mB m_is_from (mCons (mVar 1) (mCons (mC (.int 1)) (mCons (mC (.int 16)) (mNil))))))) (mOr (mNot (mTest (mUn (isT1 "tuple") (mVar 2)))) (mTest (mBin neD (mB lenL (mCons (mVar 2) (mNil))) (mBin subD (mVar 1) (mC (.int 1))))))) (sRet (mC (.bl false))) (sNil))
    (sSeq (sIf (mNot (mTest (mB allL (mCons (mComp (iSeq (mVar 2)) (gN 3) (mYes) (mB m_is_pipe (mCons (mVar 1) (mCons (mVar 3) (mNil)))) [3]) (mNil))))) (sRet (mC (.bl false))) (sNil))
    (sSeq (sIf (mOr (mTest (mBin (cmpI fun i j => decide (j < i)) (mB sumL (mCons (mComp (iSeq (mVar 2)) (gN 3) (mYes) (mB lenL (mCons (mBin idxA (mVar 3) (mC (.int 3))) (mNil))) [3]) (mNil))) (mC (.int 12)))) (mTest (mBin (cmpI fun i j => decide (j < i)) (mB sumL (mCons (mComp (iSeq (mVar 2)) (gN 3) (mYes) (mB lenL (mCons (mBin idxA (mVar 3) (mC (.int 4))) (mNil))) [3]) (mNil))) (mC (.int 6))))) (sRet (mC (.bl false))) (sNil))
    (sRet (mB m_is_joined (mCons (mVar 1) (mCons (mVar 2) (mNil)))))))))
noncomputable def m_is_house : Sem := runB 4 b_is_house
noncomputable def b_law_all_joined : MS := sSeq (sSet 2 (mListRg (mVar 0)))
    (sSeq (sFor (iRange1 (mCons (mVar 0) (mNil))) (gN 3) (sFor (iSeq (mVar 1)) (gN 4) (sSeq (sSet 5 (mB min2L (mCons (mBin idxA (mVar 2) (mBin idxA (mVar 4) (mC (.int 0)))) (mCons (mBin idxA (mVar 2) (mBin idxA (mVar 4) (mC (.int 1)))) (mNil)))))
    (sSeq (sAsg (mVar 5) (gSubM setDD (mVar 2) (mBin idxA (mVar 4) (mC (.int 0)))))
    (sAsg (mVar 5) (gSubM setDD (mVar 2) (mBin idxA (mVar 4) (mC (.int 1)))))))))
    (sRet (mBin eqE (mComp (iRange1 (mCons (mVar 0) (mNil))) (gN 6) (mTest (mBin neD (mBin idxA (mVar 2) (mVar 6)) (mC (.int 0)))) (mVar 6) [6]) (mLst (mNil)))))
noncomputable def m_law_all_joined : Sem := runB 7 b_law_all_joined
noncomputable def b_law_is_from : MS := sRet (mAndV (mUn (isT1 "int") (mVar 0)) (mAndV (mNotV (mUn (isT1 "bool") (mVar 0))) (mChain (cmpI fun i j => decide (i ≤ j)) (cmpI fun i j => decide (i ≤ j)) (mVar 1) (mVar 0) (mVar 2))))
noncomputable def m_law_is_from : Sem := runB 3 b_law_is_from
noncomputable def b_law_are_pairs : MS := sSeq (sIf (mNot (mTest (mUn (isT1 "tuple") (mVar 0)))) (sRet (mC (.bl false))) (sNil))
    (sSeq (sIf (mTest (mBin neE (mComp (iSeq (mVar 0)) (gN 3) (mOr (mNot (mTest (mUn (isT1 "tuple") (mVar 3)))) (mTest (mBin neD (mB lenL (mCons (mVar 3) (mNil))) (mC (.int 2))))) (mVar 3) [3]) (mLst (mNil)))) (sRet (mC (.bl false))) (sNil))
    (sSeq (sIf (mTest (mBin neE (mComp (iSeq (mVar 0)) (gN 3) (mNot (mTest (mB m_law_is_from (mCons (mBin idxA (mVar 3) (mC (.int 0))) (mCons (mVar 1) (mCons (mVar 2) (mNil))))))) (mVar 3) [3]) (mLst (mNil)))) (sRet (mC (.bl false))) (sNil))
    (sRet (mBin eqE (mComp (iRange2 (mCons (mC (.int 1)) (mCons (mB lenL (mCons (mVar 0) (mNil))) (mNil)))) (gN 4) (mTest (mBin (cmpI fun i j => decide (j ≤ i)) (mBin idxA (mBin idxA (mVar 0) (mBin subD (mVar 4) (mC (.int 1)))) (mC (.int 0))) (mBin idxA (mBin idxA (mVar 0) (mVar 4)) (mC (.int 0))))) (mVar 4) [4]) (mLst (mNil))))))
noncomputable def m_law_are_pairs : Sem := runB 5 b_law_are_pairs
noncomputable def b_law_is_pipe : MS := sSeq (sIf (mOr (mNot (mTest (mUn (isT1 "tuple") (mVar 1)))) (mTest (mBin neD (mB lenL (mCons (mVar 1) (mNil))) (mC (.int 5))))) (sRet (mC (.bl false))) (sNil))
    (sSeq (sAsg (mVar 1) (gTupM 5 (gConsM (gN 2) (gConsM (gN 3) (gConsM (gN 4) (gConsM (gN 5) (gConsM (gN 6) (gNilM))))))))
    (sSeq (sIf (mOr (mNot (mTest (mB m_law_is_from (mCons (mVar 2) (mCons (mC (.int 0)) (mCons (mBin subD (mVar 0) (mC (.int 1))) (mNil))))))) (mOr (mNot (mTest (mB m_law_is_from (mCons (mVar 3) (mCons (mC (.int 0)) (mCons (mBin subD (mVar 0) (mC (.int 1))) (mNil))))))) (mTest (mBin (cmpI fun i j => decide (j ≤ i)) (mVar 2) (mVar 3))))) (sRet (mC (.bl false))) (sNil))
    (sSeq (sIf (mNot (mTest (mB m_law_is_from (mCons (mVar 4) (mCons (mC (.int 1)) (mCons (mBin powD (mC (.int 10)) (mC (.int 12))) (mNil))))))) (sRet (mC (.bl false))) (sNil))
    (sSeq (sIf (mOr (mNot (mTest (mB m_law_are_pairs (mCons (mVar 5) (mCons (mC (.int 1)) (mCons (mBin subD (mVar 4) (mC (.int 1))) (mNil))))))) (mNot (mTest (mB m_law_are_pairs (mCons (mVar 6) (mCons (mC (.int 0)) (mCons (mBin subD (mVar 4) (mC (.int 1))) (mNil)))))))) (sRet (mC (.bl false))) (sNil))
    (sSeq (sIf (mTest (mBin neE (mComp (iSeq (mVar 5)) (gN 7) (mNot (mTest (mB m_law_is_from (mCons (mBin idxA (mVar 7) (mC (.int 1))) (mCons (mC (.int 1)) (mCons (mBin powD (mC (.int 10)) (mC (.int 6))) (mNil))))))) (mVar 7) [7]) (mLst (mNil)))) (sRet (mC (.bl false))) (sNil))
    (sRet (mBin eqE (mComp (iSeq (mVar 6)) (gN 7) (mOr (mNot (mTest (mB m_law_is_from (mCons (mBin idxA (mVar 7) (mC (.int 1))) (mCons (mUn negD (mC (.int 1))) (mCons (mC (.int 1)) (mNil))))))) (mTest (mBin eqD (mBin idxA (mVar 7) (mC (.int 1))) (mC (.int 0))))) (mVar 7) [7]) (mLst (mNil)))))))))
noncomputable def m_law_is_pipe : Sem := runB 8 b_law_is_pipe
noncomputable def b_law_is_one : MS := sSeq (sIf (mOr (mNot (mTest (mUn (isT1 "tuple") (mVar 0)))) (mOr (mTest (mBin neD (mB lenL (mCons (mVar 0) (mNil))) (mC (.int 2)))) (mNot (mTest (mB m_law_is_from (mCons (mBin idxA (mVar 0) (mC (.int 0))) (mCons (mC (.int 1)) (mCons (mC (.int 16)) (mNil))))))))) (sRet (mC (.bl false))) (sNil))
    (sSeq (sAsg (mVar 0) (gTupM 2 (gConsM (gN 1) (gConsM (gN 2) (gNilM)))))
    (sSeq (sIf (mOr (mNot (mTest (mUn (isT1 "tuple") (mVar 2)))) (mTest (mBin neD (mB lenL (mCons (mVar 2) (mNil))) (mBin subD (mVar 1) (mC (.int 1)))))) (sRet (mC (.bl false))) (sNil))
    (sSeq (sIf (mTest (mBin neE (mComp (iSeq (mVar 2)) (gN 3) (mNot (mTest (mB m_law_is_pipe (mCons (mVar 1) (mCons (mVar 3) (mNil)))))) (mVar 3) [3]) (mLst (mNil)))) (sRet (mC (.bl false))) (sNil))
    (sSeq (sIf (mOr (mTest (mBin (cmpI fun i j => decide (j < i)) (mB sumL (mCons (mComp (iSeq (mVar 2)) (gN 3) (mYes) (mB lenL (mCons (mBin idxA (mVar 3) (mC (.int 3))) (mNil))) [3]) (mNil))) (mC (.int 12)))) (mTest (mBin (cmpI fun i j => decide (j < i)) (mB sumL (mCons (mComp (iSeq (mVar 2)) (gN 3) (mYes) (mB lenL (mCons (mBin idxA (mVar 3) (mC (.int 4))) (mNil))) [3]) (mNil))) (mC (.int 6))))) (sRet (mC (.bl false))) (sNil))
    (sRet (mB m_law_all_joined (mCons (mVar 1) (mCons (mVar 2) (mNil)))))))))
noncomputable def m_law_is_one : Sem := runB 4 b_law_is_one
noncomputable def b_law : MS := sSeq (sSet 1 (mB m_law_deck (mCons (mVar 0) (mNil))))
    (sSeq (sSet 2 (mBin addD (mB m_law_edges mNil) (mLst (mCons (mC .non) (mCons (mC (.bl true)) (mCons (mC (.int 0)) (mCons (mC (.int 1)) (mCons (mC (.str "")) (mCons (mTup (mNil)) (mCons (mLst (mNil)) (mCons (mDicNew) (mCons (mTup (mCons (mC (.int 1)) (mNil))) (mCons (mLst (mCons (mC (.int 1)) (mCons (mTup (mNil)) (mNil)))) (mCons (mTup (mCons (mC (.int 1)) (mCons (mLst (mNil)) (mNil)))) (mCons (mTup (mCons (mC (.bl true)) (mCons (mTup (mNil)) (mNil)))) (mCons (mTup (mCons (mC (.str "1")) (mCons (mTup (mNil)) (mNil)))) (mCons (mTup (mCons (mC (.int 1)) (mCons (mTup (mNil)) (mCons (mTup (mNil)) (mNil))))) (mNil))))))))))))))))))
    (sSeq (sFor (iRange1 (mCons (mC (.int 4)) (mNil))) (gN 3) (sSeq (sSet 4 (mB m_law_house (mCons (mVar 1) (mCons (mBin idxA (mLst (mCons (mC (.int 4)) (mCons (mC (.int 16)) (mNil)))) (mB m_law_next (mCons (mVar 1) (mCons (mC (.int 2)) (mNil))))) (mCons (mB m_law_next (mCons (mVar 1) (mCons (mC (.int 2)) (mNil)))) (mCons (mC (.int 1)) (mNil)))))))
    (sSeq (sSet 5 (mB m_law_spoilt (mCons (mVar 1) (mCons (mVar 4) (mNil)))))
    (sSeq (sSet 2 (mBin addD (mVar 2) (mLst (mCons (mVar 4) (mCons (mVar 5) (mCons (mB m_law_spoilt (mCons (mVar 1) (mCons (mVar 4) (mNil)))) (mCons (mB m_law_spoilt (mCons (mVar 1) (mCons (mVar 5) (mNil)))) (mNil))))))))
    (sIf (mNot (mTest (mB m_is_house (mCons (mVar 4) (mNil))))) (sRet (mC (.bl false))) (sNil))))))
    (sSeq (sFor (iSeq (mVar 2)) (gN 6) (sSeq (sSet 7 (mB reprL (mCons (mVar 6) (mNil))))
    (sSeq (sSet 8 (mB m_is_house (mCons (mVar 6) (mNil))))
    (sSeq (sIf (mOr (mNot (mTest (mUn (isT1 "bool") (mVar 8)))) (mOr (mTest (mBin neD (mVar 8) (mB m_law_is_one (mCons (mVar 6) (mNil))))) (mTest (mBin neT (mB reprL (mCons (mVar 6) (mNil))) (mVar 7))))) (sRet (mC (.bl false))) (sNil))
    (sIf (mTest (mBin neT (mB reprL (mCons (mB m_is_whole (mCons (mVar 6) (mNil))) (mNil))) (mB reprL (mCons (mAndV (mUn (isT1 "int") (mVar 6)) (mNotV (mUn (isT1 "bool") (mVar 6)))) (mNil))))) (sRet (mC (.bl false))) (sNil))))))
    (sSeq (sIf (mNot (mTest (mB (m_law_same 8) (mCons (mTup (mCons (mC (.int 16)) (mCons (mC (.int 1000000000000)) (mCons (mC (.int 1000000)) (mCons (mC (.int 12)) (mCons (mC (.int 6)) (mNil))))))) (mCons (mTup (mCons (mC (.int 16)) (mCons (mBin powD (mC (.int 10)) (mC (.int 12))) (mCons (mBin powD (mC (.int 10)) (mC (.int 6))) (mCons (mC (.int 12)) (mCons (mC (.int 6)) (mNil))))))) (mNil)))))) (sRet (mC (.bl false))) (sNil))
    (sRet (mB (m_law_same 8) (mCons (mTup (mCons (mC (.int 100000000000000)) (mCons (mC (.int 4)) (mCons (mC (.int 0)) (mCons (mC (.int 1)) (mNil)))))) (mCons (mTup (mCons (mBin powD (mC (.int 10)) (mC (.int 14))) (mCons (mC (.int 4)) (mCons (mC (.int 0)) (mCons (mC (.int 1)) (mNil)))))) (mNil)))))))))
noncomputable def m_law : Sem := runB 9 b_law
/-! what the top has made -/
structure Txt (K : PySem.W.Frag) (mg : Str → Option Value) : Prop where
  z_abs : mg "abs" = none
  z_all : mg "all" = none
  z_bool : mg "bool" = none
  z_int : mg "int" = none
  z_isinstance : mg "isinstance" = none
  z_len : mg "len" = none
  z_list : mg "list" = none
  z_min : mg "min" = none
  z_range : mg "range" = none
  z_repr : mg "repr" = none
  z_reversed : mg "reversed" = none
  z_set : mg "set" = none
  z_sorted : mg "sorted" = none
  z_str : mg "str" = none
  z_sum : mg "sum" = none
  z_tuple : mg "tuple" = none
  c_FLAPS : ∃ t, mg "FLAPS" = some (.int 6 t)
  c_HEAD : ∃ t, mg "HEAD" = some (.int 1 t)
  c_KNOTS : ∃ t, mg "KNOTS" = some (.int 4 t)
  c_LONG : ∃ t, mg "LONG" = some (.int 1000000000000 t)
  c_NARROWS : ∃ t, mg "NARROWS" = some (.int 12 t)
  c_REACH : ∃ t, mg "REACH" = some (.int 100000000000000 t)
  c_ROOMS : ∃ t, mg "ROOMS" = some (.int 16 t)
  c_TAIL : ∃ t, mg "TAIL" = some (.int 0 t)
  c_WIDE : ∃ t, mg "WIDE" = some (.int 1000000 t)
section
variable {P : Program} {w : World} {K : PySem.W.Frag} {mg : Str → Option Value} {base : Heap}
theorem o_law_deck {f : Addr} {fd : FuncData} (F : L2.Fun K "_law_deck" "_law_deck" s_law_deck f fd) (T : Txt K mg) : FnG P w K mg base (L2.CX P w) 1 f fd ["_law_script"] (spM ⟨P, w, K, mg⟩ 1 m_law_deck) :=
  fn_ok (k := 0) F sc_law_deck fun cdv A outer s H E hr => (sss_cons (ss_set (i := 1) sc_law_deck.nd rfl (.inl rfl) (se_op op_addA snd_add (se_lc (own := [("_law_cell", 2)]) rfl sc_law_deck.nd (si_seq (se_slc (se_var 0 rfl (.inl rfl)) so_none (so_some se_int))) (blkOk_by (N := N_law_deck) (sc := defScope s_law_deck) (by decide +kernel)) (fun _ _ _ _ _ => (sgv_name sc_law_deck.nd rfl (by first | exact .inl rfl | exact .inr rfl) (by decide))) (fun _ _ _ _ _ => sts_nil) (fun _ _ _ _ _ => (se_B call_abs snd_abs rfl T.z_abs (by decide +kernel) (sa_cons (se_var 2 rfl (by first | exact .inl rfl | exact .inr (.inl rfl))) sa_nil)))) (se_op op_mulA snd_mul (se_lst (sa_cons se_int sa_nil)) (se_T call_int1 snd_intL rfl T.z_int (by decide +kernel) (sa_cons (se_cmp (op_eqD hr.units) snd_eq (se_B call_lenA snd_len rfl T.z_len (by decide +kernel) (sa_cons (se_var 0 rfl (.inl rfl)) sa_nil)) se_int (nomark _)) sa_nil)))))
    (sss_one (ss_ret (se_lst (sa_cons (se_var 1 rfl (.inl rfl)) (sa_cons (se_lc (own := [("_law_cell", 2)]) rfl sc_law_deck.nd (si_seq (se_var 1 rfl (.inl rfl))) (blkOk_by (N := N_law_deck) (sc := defScope s_law_deck) (by decide +kernel)) (fun _ _ _ _ _ => (sgv_name sc_law_deck.nd rfl (by first | exact .inl rfl | exact .inr rfl) (by decide))) (fun _ _ _ _ _ => sts_nil) (fun _ _ _ _ _ => (se_op op_mulA snd_mul (se_var 2 rfl (by first | exact .inl rfl | exact .inr (.inl rfl))) (se_T call_int1 snd_intL rfl T.z_int (by decide +kernel) (sa_cons (se_cmp op_ge snd_cmpI (se_var 2 rfl (by first | exact .inl rfl | exact .inr (.inl rfl))) (se_op op_pow snd_pow se_int se_int) (nomark _)) sa_nil))))) (sa_cons se_int sa_nil)))))))
theorem o_law_same {f : Addr} {fd : FuncData} (F : L2.Fun K "_law_same" "_law_same" s_law_same f fd) (T : Txt K mg) (hm : mg "_law_same" = some (.ref f)) (bi : Binds K fd ["_law_found", "_law_due"] []) : ∀ n, FnG P w K mg base (L2.CX P w) (0 + n) f fd ["_law_found", "_law_due"] (spM ⟨P, w, K, mg⟩ 2 (m_law_same n))
  | 0 => fn_stuck rfl
  | n + 1 => by
    have gself : Fn ⟨P, w, K, mg⟩ base "_law_same" (0 + n) 2 (m_law_same n) := ⟨f, fd, _, hm, F.kp, bi, o_law_same F T hm bi n⟩
    exact fn_ok (k := 0 + n) F sc_law_same fun cdv A outer s H E hr => (sss_cons (ss_if (st_val (se_isi2 rfl T.z_isinstance (se_var 1 rfl (.inr (.inl rfl))) rfl T.z_list (by decide +kernel) (by decide) rfl T.z_tuple (by decide +kernel) (by decide))) (sss_cons (ss_if (PW.pt (sw_or (st_cmp (op_neD hr.units) snd_ne (se_isi1 rfl T.z_isinstance (se_var 0 rfl (.inr (.inl rfl))) rfl T.z_list (by decide +kernel) (by decide)) (se_isi1 rfl T.z_isinstance (se_var 1 rfl (.inr (.inl rfl))) rfl T.z_list (by decide +kernel) (by decide)) (nomark _)) (sw_or1 (st_cmp (op_neD hr.units) snd_ne (se_isi1 rfl T.z_isinstance (se_var 0 rfl (.inr (.inl rfl))) rfl T.z_tuple (by decide +kernel) (by decide)) (se_isi1 rfl T.z_isinstance (se_var 1 rfl (.inr (.inl rfl))) rfl T.z_tuple (by decide +kernel) (by decide)) (nomark _))))) (sss_one (ss_ret se_bl)) sss_nil)
    (sss_cons (ss_if (st_cmp (op_neD hr.units) snd_ne (se_B call_lenA snd_len rfl T.z_len (by decide +kernel) (sa_cons (se_var 0 rfl (.inr (.inl rfl))) sa_nil)) (se_B call_lenA snd_len rfl T.z_len (by decide +kernel) (sa_cons (se_var 1 rfl (.inr (.inl rfl))) sa_nil)) (nomark _)) (sss_one (ss_ret se_bl)) sss_nil)
    (sss_one (ss_ret (se_cmp (op_eqD hr.units) snd_eq (se_lc (own := [("_law_k", 2)]) rfl sc_law_same.nd (si_range1 rfl T.z_range (sa_cons (se_B call_lenA snd_len rfl T.z_len (by decide +kernel) (sa_cons (se_var 1 rfl (.inr (.inl rfl))) sa_nil)) sa_nil)) (blkOk_by (N := N_law_same) (sc := defScope s_law_same) (by decide +kernel)) (fun _ _ _ _ _ => (sgv_name sc_law_same.nd rfl (by first | exact .inl rfl | exact .inr rfl) (by decide))) (fun _ _ _ _ _ => (sts_one (st_not (st_val (se_call gself hr (Nat.le_refl _) rfl takes0 (sa_cons (se_ix hr.units (se_var 0 rfl (.inr (.inl rfl))) (se_var 2 rfl (by first | exact .inl rfl | exact .inr (.inl rfl)))) (sa_cons (se_ix hr.units (se_var 1 rfl (.inr (.inl rfl))) (se_var 2 rfl (by first | exact .inl rfl | exact .inr (.inl rfl)))) sa_nil)) (mCons_len (mCons_len mNil_len))))))) (fun _ _ _ _ _ => (se_var 2 rfl (by first | exact .inl rfl | exact .inr (.inl rfl))))) (se_lst sa_nil) (nomark _)))))) sss_nil)
    (sss_cons (ss_if (st_cmp op_isN snd_is (se_var 1 rfl (.inr (.inl rfl))) se_non (nomark _)) (sss_one (ss_ret (se_cmp op_isN snd_is (se_var 0 rfl (.inr (.inl rfl))) se_non (nomark _)))) sss_nil)
    (sss_cons (ss_if (st_val (se_isi1 rfl T.z_isinstance (se_var 1 rfl (.inr (.inl rfl))) rfl T.z_str (by decide +kernel) (by decide))) (sss_one (ss_ret (se_and (se_isi1 rfl T.z_isinstance (se_var 0 rfl (.inr (.inl rfl))) rfl T.z_str (by decide +kernel) (by decide)) (se_one (se_cmp (op_eqD hr.units) snd_eq (se_var 0 rfl (.inr (.inl rfl))) (se_var 1 rfl (.inr (.inl rfl))) (nomark _)))))) sss_nil)
    (sss_one (ss_ret (se_and (se_isi1 rfl T.z_isinstance (se_var 0 rfl (.inr (.inl rfl))) rfl T.z_int (by decide +kernel) (by decide)) (se_and (se_cmp (op_eqD hr.units) snd_eq (se_isi1 rfl T.z_isinstance (se_var 0 rfl (.inr (.inl rfl))) rfl T.z_bool (by decide +kernel) (by decide)) (se_isi1 rfl T.z_isinstance (se_var 1 rfl (.inr (.inl rfl))) rfl T.z_bool (by decide +kernel) (by decide)) (nomark _)) (se_one (se_cmp (op_eqD hr.units) snd_eq (se_var 0 rfl (.inr (.inl rfl))) (se_var 1 rfl (.inr (.inl rfl))) (nomark _))))))))))
theorem o_law_edges {f : Addr} {fd : FuncData} (F : L2.Fun K "_law_edges" "_law_edges" s_law_edges f fd) (T : Txt K mg) : FnG P w K mg base (L2.CX P w) 1 f fd [] (spM ⟨P, w, K, mg⟩ 0 m_law_edges) :=
  fn_ok (k := 0) F sc_law_edges fun cdv A outer s H E hr => (sss_cons (ss_set (i := 0) sc_law_edges.nd rfl (.inl rfl) (se_op op_pow snd_pow se_int se_int))
    (sss_cons (ss_set (i := 1) sc_law_edges.nd rfl (.inl rfl) (se_lst (sa_cons (se_tup (sa_cons se_int (sa_cons (se_tup sa_nil) sa_nil))) (sa_cons (se_tup (sa_cons se_int (sa_cons (se_tup sa_nil) sa_nil))) (sa_cons (se_tup (sa_cons se_int (sa_cons (se_tup sa_nil) sa_nil))) (sa_cons (se_tup (sa_cons se_int (sa_cons (se_tup (sa_cons (se_tup (sa_cons se_int (sa_cons se_int (sa_cons se_int (sa_cons (se_tup sa_nil) (sa_cons (se_tup sa_nil) sa_nil)))))) sa_nil)) sa_nil))) (sa_cons (se_tup (sa_cons se_int (sa_cons (se_tup (sa_cons (se_tup (sa_cons se_int (sa_cons se_int (sa_cons se_int (sa_cons (se_tup sa_nil) (sa_cons (se_tup sa_nil) sa_nil)))))) sa_nil)) sa_nil))) (sa_cons (se_tup (sa_cons se_int (sa_cons (se_tup (sa_cons (se_tup (sa_cons se_int (sa_cons se_int (sa_cons se_int (sa_cons (se_tup sa_nil) (sa_cons (se_tup sa_nil) sa_nil)))))) sa_nil)) sa_nil))) sa_nil))))))))
    (sss_cons (ss_set (i := 1) sc_law_edges.nd rfl (.inl rfl) (se_op op_addA snd_add (se_var 1 rfl (.inl rfl)) (se_lst (sa_cons (se_tup (sa_cons se_int (sa_cons (se_tup (sa_cons (se_tup (sa_cons se_int (sa_cons se_int (sa_cons se_int (sa_cons (se_tup sa_nil) (sa_cons (se_tup sa_nil) sa_nil)))))) sa_nil)) sa_nil))) (sa_cons (se_tup (sa_cons se_int (sa_cons (se_tup (sa_cons (se_tup (sa_cons se_int (sa_cons se_int (sa_cons (se_var 0 rfl (.inl rfl)) (sa_cons (se_tup sa_nil) (sa_cons (se_tup sa_nil) sa_nil)))))) sa_nil)) sa_nil))) (sa_cons (se_tup (sa_cons se_int (sa_cons (se_tup (sa_cons (se_tup (sa_cons se_int (sa_cons se_int (sa_cons (se_op op_addA snd_add (se_var 0 rfl (.inl rfl)) se_int) (sa_cons (se_tup sa_nil) (sa_cons (se_tup sa_nil) sa_nil)))))) sa_nil)) sa_nil))) sa_nil))))))
    (sss_cons (ss_set (i := 1) sc_law_edges.nd rfl (.inl rfl) (se_op op_addA snd_add (se_var 1 rfl (.inl rfl)) (se_lst (sa_cons (se_tup (sa_cons se_int (sa_cons (se_tup (sa_cons (se_tup (sa_cons se_int (sa_cons se_int (sa_cons se_int (sa_cons (se_tup sa_nil) (sa_cons (se_tup sa_nil) sa_nil)))))) sa_nil)) sa_nil))) (sa_cons (se_tup (sa_cons se_int (sa_cons (se_tup (sa_cons (se_tup (sa_cons se_int (sa_cons se_int (sa_cons se_int (sa_cons (se_tup sa_nil) (sa_cons (se_tup sa_nil) sa_nil)))))) (sa_cons (se_tup (sa_cons se_int (sa_cons se_int (sa_cons se_int (sa_cons (se_tup sa_nil) (sa_cons (se_tup sa_nil) sa_nil)))))) sa_nil))) sa_nil))) sa_nil)))))
    (sss_cons (ss_set (i := 1) sc_law_edges.nd rfl (.inl rfl) (se_op op_addA snd_add (se_var 1 rfl (.inl rfl)) (se_lst (sa_cons (se_tup (sa_cons se_int (sa_cons (se_tup (sa_cons (se_tup (sa_cons se_int (sa_cons se_int (sa_cons se_int (sa_cons (se_tup sa_nil) (sa_cons (se_tup sa_nil) sa_nil)))))) (sa_cons (se_tup (sa_cons se_int (sa_cons se_int (sa_cons se_int (sa_cons (se_tup sa_nil) (sa_cons (se_tup sa_nil) sa_nil)))))) (sa_cons (se_tup (sa_cons se_int (sa_cons se_int (sa_cons se_int (sa_cons (se_tup sa_nil) (sa_cons (se_tup sa_nil) sa_nil)))))) sa_nil)))) sa_nil))) sa_nil))))
    (sss_cons (ss_for (passes_of rfl) rfl (si_seq (se_lst (sa_cons se_int (sa_cons se_int sa_nil)))) (sg_name sc_law_edges.nd rfl (.inl rfl)) (sss_one (ss_expr (se_mt PySem.F.plainAttrs_list PySem.F.slot_list_append PySem.F.type_list_append mt_append ty_list snd_append (se_var 1 rfl (.inl rfl)) (sa_cons (se_tup (sa_cons (se_var 2 rfl (.inl rfl)) (sa_cons (se_T call_tuple_of snd_tupleL rfl T.z_tuple (by decide +kernel) (sa_cons (se_lc (own := [("_law_k", 7)]) rfl sc_law_edges.nd (si_range1 rfl T.z_range (sa_cons (se_op op_sub snd_sub (se_var 2 rfl (.inl rfl)) se_int) sa_nil)) (blkOk_by (N := N_law_edges) (sc := defScope s_law_edges) (by decide +kernel)) (fun _ _ _ _ _ => (sgv_name sc_law_edges.nd rfl (by first | exact .inl rfl | exact .inr rfl) (by decide))) (fun _ _ _ _ _ => sts_nil) (fun _ _ _ _ _ => (se_tup (sa_cons (se_var 7 rfl (by first | exact .inl rfl | exact .inr (.inl rfl))) (sa_cons (se_op op_addA snd_add (se_var 7 rfl (by first | exact .inl rfl | exact .inr (.inl rfl))) se_int) (sa_cons se_int (sa_cons (se_tup sa_nil) (sa_cons (se_tup sa_nil) sa_nil)))))))) sa_nil)) sa_nil))) sa_nil)))))
    (sss_cons (ss_for (passes_of rfl) rfl (si_seq (se_lst (sa_cons (se_tup (sa_cons (se_tup (sa_cons se_int (sa_cons se_int sa_nil))) sa_nil)) (sa_cons (se_tup (sa_cons (se_tup (sa_cons se_int (sa_cons se_int sa_nil))) sa_nil)) (sa_cons (se_tup (sa_cons (se_tup (sa_cons se_int (sa_cons se_int sa_nil))) sa_nil)) (sa_cons (se_tup (sa_cons (se_tup (sa_cons se_int (sa_cons se_int sa_nil))) sa_nil)) (sa_cons (se_tup (sa_cons (se_tup (sa_cons se_int (sa_cons se_int sa_nil))) sa_nil)) (sa_cons (se_tup (sa_cons (se_tup (sa_cons se_int (sa_cons (se_op op_pow snd_pow se_int se_int) sa_nil))) sa_nil)) (sa_cons (se_tup (sa_cons (se_tup (sa_cons se_int (sa_cons (se_op op_addA snd_add (se_op op_pow snd_pow se_int se_int) se_int) sa_nil))) sa_nil)) sa_nil))))))))) (sg_name sc_law_edges.nd rfl (.inl rfl)) (sss_one (ss_expr (se_mt PySem.F.plainAttrs_list PySem.F.slot_list_append PySem.F.type_list_append mt_append ty_list snd_append (se_var 1 rfl (.inl rfl)) (sa_cons (se_tup (sa_cons se_int (sa_cons (se_tup (sa_cons (se_tup (sa_cons se_int (sa_cons se_int (sa_cons se_int (sa_cons (se_var 3 rfl (.inl rfl)) (sa_cons (se_tup sa_nil) sa_nil)))))) sa_nil)) sa_nil))) sa_nil)))))
    (sss_cons (ss_for (passes_of rfl) rfl (si_seq (se_lst (sa_cons (se_tup (sa_cons (se_tup (sa_cons se_int (sa_cons se_int sa_nil))) (sa_cons (se_tup (sa_cons se_int (sa_cons se_int sa_nil))) sa_nil))) (sa_cons (se_tup (sa_cons (se_tup (sa_cons se_int (sa_cons se_int sa_nil))) (sa_cons (se_tup (sa_cons se_int (sa_cons se_int sa_nil))) sa_nil))) (sa_cons (se_lst (sa_cons (se_tup (sa_cons se_int (sa_cons se_int sa_nil))) sa_nil)) (sa_cons (se_tup (sa_cons (se_lst (sa_cons se_int (sa_cons se_int sa_nil))) sa_nil)) (sa_cons (se_tup (sa_cons (se_tup (sa_cons se_int sa_nil)) sa_nil)) (sa_cons (se_tup (sa_cons (se_tup (sa_cons se_bl (sa_cons se_int sa_nil))) sa_nil)) (sa_cons (se_tup (sa_cons (se_tup (sa_cons se_int (sa_cons se_bl sa_nil))) sa_nil)) sa_nil))))))))) (sg_name sc_law_edges.nd rfl (.inl rfl)) (sss_one (ss_expr (se_mt PySem.F.plainAttrs_list PySem.F.slot_list_append PySem.F.type_list_append mt_append ty_list snd_append (se_var 1 rfl (.inl rfl)) (sa_cons (se_tup (sa_cons se_int (sa_cons (se_tup (sa_cons (se_tup (sa_cons se_int (sa_cons se_int (sa_cons se_int (sa_cons (se_var 3 rfl (.inl rfl)) (sa_cons (se_tup sa_nil) sa_nil)))))) sa_nil)) sa_nil))) sa_nil)))))
    (sss_cons (ss_for (passes_of rfl) rfl (si_seq (se_lst (sa_cons (se_tup (sa_cons (se_tup (sa_cons se_int (sa_cons se_int sa_nil))) sa_nil)) (sa_cons (se_tup (sa_cons (se_tup (sa_cons se_int (sa_cons (se_un un_neg snd_neg se_int) sa_nil))) sa_nil)) (sa_cons (se_tup (sa_cons (se_tup (sa_cons se_int (sa_cons se_int sa_nil))) sa_nil)) (sa_cons (se_tup (sa_cons (se_tup (sa_cons (se_un un_neg snd_neg se_int) (sa_cons se_int sa_nil))) sa_nil)) (sa_cons (se_tup (sa_cons (se_tup (sa_cons se_int (sa_cons se_int sa_nil))) sa_nil)) (sa_cons (se_tup (sa_cons (se_tup (sa_cons se_int (sa_cons se_int sa_nil))) sa_nil)) (sa_cons (se_tup (sa_cons (se_tup (sa_cons se_int (sa_cons se_bl sa_nil))) sa_nil)) (sa_cons (se_tup (sa_cons (se_tup (sa_cons se_int (sa_cons se_int sa_nil))) (sa_cons (se_tup (sa_cons se_int (sa_cons (se_un un_neg snd_neg se_int) sa_nil))) sa_nil))) sa_nil)))))))))) (sg_name sc_law_edges.nd rfl (.inl rfl)) (sss_one (ss_expr (se_mt PySem.F.plainAttrs_list PySem.F.slot_list_append PySem.F.type_list_append mt_append ty_list snd_append (se_var 1 rfl (.inl rfl)) (sa_cons (se_tup (sa_cons se_int (sa_cons (se_tup (sa_cons (se_tup (sa_cons se_int (sa_cons se_int (sa_cons se_int (sa_cons (se_tup sa_nil) (sa_cons (se_var 4 rfl (.inl rfl)) sa_nil)))))) sa_nil)) sa_nil))) sa_nil)))))
    (sss_cons (ss_for (passes_of rfl) rfl (si_seq (se_lst (sa_cons se_int (sa_cons se_int sa_nil)))) (sg_name sc_law_edges.nd rfl (.inl rfl)) (sss_one (ss_expr (se_mt PySem.F.plainAttrs_list PySem.F.slot_list_append PySem.F.type_list_append mt_append ty_list snd_append (se_var 1 rfl (.inl rfl)) (sa_cons (se_tup (sa_cons se_int (sa_cons (se_tup (sa_cons (se_tup (sa_cons se_int (sa_cons se_int (sa_cons se_int (sa_cons (se_T call_tuple_of snd_tupleL rfl T.z_tuple (by decide +kernel) (sa_cons (se_lc (own := [("_law_k", 7)]) rfl sc_law_edges.nd (si_range1 rfl T.z_range (sa_cons (se_var 5 rfl (.inl rfl)) sa_nil)) (blkOk_by (N := N_law_edges) (sc := defScope s_law_edges) (by decide +kernel)) (fun _ _ _ _ _ => (sgv_name sc_law_edges.nd rfl (by first | exact .inl rfl | exact .inr rfl) (by decide))) (fun _ _ _ _ _ => sts_nil) (fun _ _ _ _ _ => (se_tup (sa_cons (se_op op_addA snd_add (se_var 7 rfl (by first | exact .inl rfl | exact .inr (.inl rfl))) se_int) (sa_cons se_int sa_nil))))) sa_nil)) (sa_cons (se_tup sa_nil) sa_nil)))))) sa_nil)) sa_nil))) sa_nil)))))
    (sss_cons (ss_for (passes_of rfl) rfl (si_seq (se_lst (sa_cons se_int (sa_cons se_int sa_nil)))) (sg_name sc_law_edges.nd rfl (.inl rfl)) (sss_one (ss_expr (se_mt PySem.F.plainAttrs_list PySem.F.slot_list_append PySem.F.type_list_append mt_append ty_list snd_append (se_var 1 rfl (.inl rfl)) (sa_cons (se_tup (sa_cons se_int (sa_cons (se_tup (sa_cons (se_tup (sa_cons se_int (sa_cons se_int (sa_cons se_int (sa_cons (se_tup sa_nil) (sa_cons (se_T call_tuple_of snd_tupleL rfl T.z_tuple (by decide +kernel) (sa_cons (se_lc (own := [("_law_k", 7)]) rfl sc_law_edges.nd (si_range1 rfl T.z_range (sa_cons (se_var 5 rfl (.inl rfl)) sa_nil)) (blkOk_by (N := N_law_edges) (sc := defScope s_law_edges) (by decide +kernel)) (fun _ _ _ _ _ => (sgv_name sc_law_edges.nd rfl (by first | exact .inl rfl | exact .inr rfl) (by decide))) (fun _ _ _ _ _ => sts_nil) (fun _ _ _ _ _ => (se_tup (sa_cons (se_var 7 rfl (by first | exact .inl rfl | exact .inr (.inl rfl))) (sa_cons se_int sa_nil))))) sa_nil)) sa_nil)))))) sa_nil)) sa_nil))) sa_nil)))))
    (sss_cons (ss_set (i := 6) sc_law_edges.nd rfl (.inl rfl) (se_T call_tuple_of snd_tupleL rfl T.z_tuple (by decide +kernel) (sa_cons (se_lc (own := [("_law_k", 7)]) rfl sc_law_edges.nd (si_range1 rfl T.z_range (sa_cons se_int sa_nil)) (blkOk_by (N := N_law_edges) (sc := defScope s_law_edges) (by decide +kernel)) (fun _ _ _ _ _ => (sgv_name sc_law_edges.nd rfl (by first | exact .inl rfl | exact .inr rfl) (by decide))) (fun _ _ _ _ _ => sts_nil) (fun _ _ _ _ _ => (se_tup (sa_cons (se_op op_addA snd_add (se_var 7 rfl (by first | exact .inl rfl | exact .inr (.inl rfl))) se_int) (sa_cons se_int sa_nil))))) sa_nil)))
    (sss_cons (ss_expr (se_mt PySem.F.plainAttrs_list PySem.F.slot_list_append PySem.F.type_list_append mt_append ty_list snd_append (se_var 1 rfl (.inl rfl)) (sa_cons (se_tup (sa_cons se_int (sa_cons (se_tup (sa_cons (se_tup (sa_cons se_int (sa_cons se_int (sa_cons se_int (sa_cons (se_var 6 rfl (.inl rfl)) (sa_cons (se_slc (se_var 6 rfl (.inl rfl)) so_none (so_some se_int)) sa_nil)))))) (sa_cons (se_tup (sa_cons se_int (sa_cons se_int (sa_cons se_int (sa_cons (se_var 6 rfl (.inl rfl)) (sa_cons (se_slc (se_var 6 rfl (.inl rfl)) so_none (so_some se_int)) sa_nil)))))) sa_nil))) sa_nil))) sa_nil)))
    (sss_cons (ss_expr (se_mt PySem.F.plainAttrs_list PySem.F.slot_list_append PySem.F.type_list_append mt_append ty_list snd_append (se_var 1 rfl (.inl rfl)) (sa_cons (se_tup (sa_cons se_int (sa_cons (se_tup (sa_cons (se_tup (sa_cons se_int (sa_cons se_int (sa_cons se_int (sa_cons (se_var 6 rfl (.inl rfl)) (sa_cons (se_slc (se_var 6 rfl (.inl rfl)) so_none (so_some se_int)) sa_nil)))))) (sa_cons (se_tup (sa_cons se_int (sa_cons se_int (sa_cons se_int (sa_cons (se_var 6 rfl (.inl rfl)) (sa_cons (se_slc (se_var 6 rfl (.inl rfl)) so_none (so_some se_int)) sa_nil)))))) sa_nil))) sa_nil))) sa_nil)))
    (sss_one (ss_ret (se_op op_addA snd_add (se_var 1 rfl (.inl rfl)) (se_lst (sa_cons (se_tup (sa_cons se_int (sa_cons (se_tup (sa_cons (se_tup (sa_cons se_int (sa_cons se_int (sa_cons se_int (sa_cons (se_op op_addA snd_add (se_var 6 rfl (.inl rfl)) (se_tup (sa_cons (se_tup (sa_cons se_int (sa_cons se_int sa_nil))) sa_nil))) (sa_cons (se_tup sa_nil) sa_nil)))))) (sa_cons (se_tup (sa_cons se_int (sa_cons se_int (sa_cons se_int (sa_cons (se_var 6 rfl (.inl rfl)) (sa_cons (se_tup sa_nil) sa_nil)))))) sa_nil))) sa_nil))) sa_nil)))))))))))))))))))
theorem o_law_next {f : Addr} {fd : FuncData} (F : L2.Fun K "_law_next" "_law_next" s_law_next f fd) (T : Txt K mg) : FnG P w K mg base (L2.CX P w) 1 f fd ["_law_deck_here", "_law_many"] (spM ⟨P, w, K, mg⟩ 2 m_law_next) :=
  fn_ok (k := 0) F sc_law_next fun cdv A outer s H E hr => (sss_cons (ss_asg (se_var 0 rfl (.inl rfl)) (sg_tup rfl (sgs_cons (sg_name sc_law_next.nd rfl (.inl rfl)) (sgs_cons (sg_name sc_law_next.nd rfl (.inl rfl)) (sgs_cons (sg_name sc_law_next.nd rfl (.inl rfl)) sgs_nil)))))
    (sss_cons (ss_asg (se_op op_addA snd_add (se_var 4 rfl (.inl rfl)) se_int) (sg_set hr.units (se_var 0 rfl (.inl rfl)) se_int))
    (sss_cons (ss_set (i := 5) sc_law_next.nd rfl (.inl rfl) (se_op op_mod snd_mod (se_var 4 rfl (.inl rfl)) (se_B call_lenA snd_len rfl T.z_len (by decide +kernel) (sa_cons (se_var 2 rfl (.inl rfl)) sa_nil))))
    (sss_cons (ss_if (st_cmp op_gt snd_cmpI (se_ix hr.units (se_var 3 rfl (.inl rfl)) (se_var 5 rfl (.inl rfl))) se_int (nomark _)) (sss_cons (ss_set (i := 6) sc_law_next.nd rfl (.inl rfl) (se_op op_mod snd_mod (se_ix hr.units (se_var 3 rfl (.inl rfl)) (se_var 5 rfl (.inl rfl))) (se_var 1 rfl (.inl rfl))))
    (sss_cons (ss_asg (se_op op_fdivW snd_fdiv (se_ix hr.units (se_var 3 rfl (.inl rfl)) (se_var 5 rfl (.inl rfl))) (se_var 1 rfl (.inl rfl))) (sg_set hr.units (se_var 3 rfl (.inl rfl)) (se_var 5 rfl (.inl rfl))))
    (sss_one (ss_ret (se_var 6 rfl (.inl rfl)))))) sss_nil)
    (sss_cons (ss_set (i := 7) sc_law_next.nd rfl (.inl rfl) (se_op op_mulA snd_mul (se_op op_addA snd_add (se_op op_addA snd_add (se_ix hr.units (se_var 2 rfl (.inl rfl)) (se_var 5 rfl (.inl rfl))) (se_op op_mulA snd_mul se_int (se_var 4 rfl (.inl rfl)))) se_int) (se_op op_addA snd_add se_int (se_op op_mulA snd_mul se_int (se_var 4 rfl (.inl rfl))))))
    (sss_cons (ss_set (i := 7) sc_law_next.nd rfl (.inl rfl) (se_op op_mod snd_mod (se_op op_addA snd_add (se_var 7 rfl (.inl rfl)) (se_op op_mulA snd_mul se_int (se_var 4 rfl (.inl rfl)))) se_int))
    (sss_cons (ss_set (i := 7) sc_law_next.nd rfl (.inl rfl) (se_op op_mod snd_mod (se_op op_addA snd_add (se_op op_mulA snd_mul (se_var 7 rfl (.inl rfl)) (se_var 7 rfl (.inl rfl))) se_int) se_int))
    (sss_cons (ss_set (i := 7) sc_law_next.nd rfl (.inl rfl) (se_op op_mod snd_mod (se_op op_mulA snd_mul (se_var 7 rfl (.inl rfl)) (se_var 7 rfl (.inl rfl))) se_int))
    (sss_one (ss_ret (se_op op_mod snd_mod (se_op op_fdivW snd_fdiv (se_var 7 rfl (.inl rfl)) se_int) (se_var 1 rfl (.inl rfl)))))))))))))
theorem o_law_one {f : Addr} {fd : FuncData} (F : L2.Fun K "_law_one" "_law_one" s_law_one f fd) (T : Txt K mg) (g_law_next : Fn ⟨P, w, K, mg⟩ base "_law_next" 1 2 m_law_next) : FnG P w K mg base (L2.CX P w) 2 f fd ["_law_deck_here", "_law_some"] (spM ⟨P, w, K, mg⟩ 2 m_law_one) :=
  fn_ok (k := 1) F sc_law_one fun cdv A outer s H E hr => (sss_one (ss_ret (se_ix hr.units (se_var 1 rfl (.inl rfl)) (se_call g_law_next hr (by omega) rfl (takes_of rfl rfl rfl rfl) (sa_cons (se_var 0 rfl (.inl rfl)) (sa_cons (se_B call_lenA snd_len rfl T.z_len (by decide +kernel) (sa_cons (se_var 1 rfl (.inl rfl)) sa_nil)) sa_nil)) (mCons_len (mCons_len mNil_len))))))
theorem o_law_length {f : Addr} {fd : FuncData} (F : L2.Fun K "_law_length" "_law_length" s_law_length f fd) (T : Txt K mg) (g_law_one : Fn ⟨P, w, K, mg⟩ base "_law_one" 2 2 m_law_one) (g_law_next : Fn ⟨P, w, K, mg⟩ base "_law_next" 1 2 m_law_next) : FnG P w K mg base (L2.CX P w) 3 f fd ["_law_deck_here", "_law_far"] (spM ⟨P, w, K, mg⟩ 2 m_law_length) :=
  fn_ok (k := 2) F sc_law_length fun cdv A outer s H E hr => (sss_cons (ss_set (i := 2) sc_law_length.nd rfl (.inl rfl) (se_lst (sa_cons se_int (sa_cons (se_op op_addA snd_add se_int (se_call g_law_next hr (by omega) rfl (takes_of rfl rfl rfl rfl) (sa_cons (se_var 0 rfl (.inl rfl)) (sa_cons se_int sa_nil)) (mCons_len (mCons_len mNil_len)))) (sa_cons (se_op op_addA snd_add se_int (se_call g_law_next hr (by omega) rfl (takes_of rfl rfl rfl rfl) (sa_cons (se_var 0 rfl (.inl rfl)) (sa_cons se_int sa_nil)) (mCons_len (mCons_len mNil_len)))) sa_nil)))))
    (sss_cons (ss_if (st_cmp op_gt snd_cmpI (se_var 1 rfl (.inl rfl)) se_int (nomark _)) (sss_one (ss_set (i := 2) sc_law_length.nd rfl (.inl rfl) (se_op op_addA snd_add (se_var 2 rfl (.inl rfl)) (se_lst (sa_cons (se_op op_addA snd_add se_int (se_call g_law_next hr (by omega) rfl (takes_of rfl rfl rfl rfl) (sa_cons (se_var 0 rfl (.inl rfl)) (sa_cons se_int sa_nil)) (mCons_len (mCons_len mNil_len)))) (sa_cons (se_op op_sub snd_sub (se_op op_pow snd_pow se_int se_int) (se_call g_law_next hr (by omega) rfl (takes_of rfl rfl rfl rfl) (sa_cons (se_var 0 rfl (.inl rfl)) (sa_cons se_int sa_nil)) (mCons_len (mCons_len mNil_len)))) (sa_cons (se_op op_addA snd_add se_int (se_call g_law_next hr (by omega) rfl (takes_of rfl rfl rfl rfl) (sa_cons (se_var 0 rfl (.inl rfl)) (sa_cons (se_op op_pow snd_pow se_int se_int) sa_nil)) (mCons_len (mCons_len mNil_len)))) sa_nil))))))) sss_nil)
    (sss_one (ss_ret (se_call g_law_one hr (by omega) rfl (takes_of rfl rfl rfl rfl) (sa_cons (se_var 0 rfl (.inl rfl)) (sa_cons (se_var 2 rfl (.inl rfl)) sa_nil)) (mCons_len (mCons_len mNil_len)))))))
theorem o_law_edge {f : Addr} {fd : FuncData} (F : L2.Fun K "_law_edge" "_law_edge" s_law_edge f fd) (T : Txt K mg) (g_law_one : Fn ⟨P, w, K, mg⟩ base "_law_one" 2 2 m_law_one) (g_law_next : Fn ⟨P, w, K, mg⟩ base "_law_next" 1 2 m_law_next) : FnG P w K mg base (L2.CX P w) 3 f fd ["_law_deck_here", "_law_many"] (spM ⟨P, w, K, mg⟩ 2 m_law_edge) :=
  fn_ok (k := 2) F sc_law_edge fun cdv A outer s H E hr => (sss_one (ss_ret (se_call g_law_one hr (by omega) rfl (takes_of rfl rfl rfl rfl) (sa_cons (se_var 0 rfl (.inl rfl)) (sa_cons (se_lst (sa_cons se_int (sa_cons (se_op op_sub snd_sub (se_var 1 rfl (.inl rfl)) se_int) (sa_cons (se_call g_law_next hr (by omega) rfl (takes_of rfl rfl rfl rfl) (sa_cons (se_var 0 rfl (.inl rfl)) (sa_cons (se_var 1 rfl (.inl rfl)) sa_nil)) (mCons_len (mCons_len mNil_len))) (sa_cons (se_call g_law_next hr (by omega) rfl (takes_of rfl rfl rfl rfl) (sa_cons (se_var 0 rfl (.inl rfl)) (sa_cons (se_B (call_min2 rfl) snd_min2 rfl T.z_min (by decide +kernel) (sa_cons (se_var 1 rfl (.inl rfl)) (sa_cons se_int sa_nil))) sa_nil)) (mCons_len (mCons_len mNil_len))) sa_nil))))) sa_nil)) (mCons_len (mCons_len mNil_len)))))
theorem o_law_spots {f : Addr} {fd : FuncData} (F : L2.Fun K "_law_spots" "_law_spots" s_law_spots f fd) (T : Txt K mg) (g_law_edge : Fn ⟨P, w, K, mg⟩ base "_law_edge" 3 2 m_law_edge) : FnG P w K mg base (L2.CX P w) 4 f fd ["_law_deck_here", "_law_low", "_law_high", "_law_many"] (spM ⟨P, w, K, mg⟩ 4 m_law_spots) :=
  fn_ok (k := 3) F sc_law_spots fun cdv A outer s H E hr => (sss_cons (ss_if (st_cmp op_lt snd_cmpI (se_var 2 rfl (.inr (.inl rfl))) (se_var 1 rfl (.inr (.inl rfl))) (nomark _)) (sss_one (ss_ret (se_lst sa_nil))) sss_nil)
    (sss_one (ss_ret (se_B (cr_sortedB rfl hr.units) snd_sortedB rfl T.z_sorted (by decide +kernel) (sa_cons (se_T (cr_setOfL rfl) snd_setOf rfl T.z_set (by decide +kernel) (sa_cons (se_lc (own := [("_law_k", 4)]) rfl sc_law_spots.nd (si_range1 rfl T.z_range (sa_cons (se_var 3 rfl (.inl rfl)) sa_nil)) (blkOk_by (N := N_law_spots) (sc := defScope s_law_spots) (by decide +kernel)) (fun _ _ _ _ _ => (sgv_name sc_law_spots.nd rfl (by first | exact .inl rfl | exact .inr rfl) (by decide))) (fun _ _ _ _ _ => sts_nil) (fun _ _ _ _ _ => (se_op op_addA snd_add (se_var 1 rfl (.inr (.inl rfl))) (se_call g_law_edge hr (by omega) rfl takes0 (sa_cons (se_var 0 rfl (.inr (.inl rfl))) (sa_cons (se_op op_addA snd_add (se_op op_sub snd_sub (se_var 2 rfl (.inr (.inl rfl))) (se_var 1 rfl (.inr (.inl rfl)))) se_int) sa_nil)) (mCons_len (mCons_len mNil_len)))))) sa_nil)) sa_nil)))))
theorem o_law_pipe {f : Addr} {fd : FuncData} (F : L2.Fun K "_law_pipe" "_law_pipe" s_law_pipe f fd) (T : Txt K mg) (g_law_length : Fn ⟨P, w, K, mg⟩ base "_law_length" 3 2 m_law_length) (g_law_spots : Fn ⟨P, w, K, mg⟩ base "_law_spots" 4 4 m_law_spots) (g_law_next : Fn ⟨P, w, K, mg⟩ base "_law_next" 1 2 m_law_next) (g_law_edge : Fn ⟨P, w, K, mg⟩ base "_law_edge" 3 2 m_law_edge) : FnG P w K mg base (L2.CX P w) 5 f fd ["_law_deck_here", "_law_one_here", "_law_other", "_law_left", "_law_far"] (spM ⟨P, w, K, mg⟩ 5 m_law_pipe) :=
  fn_ok (k := 4) F sc_law_pipe fun cdv A outer s H E hr => (sss_cons (ss_set (i := 5) sc_law_pipe.nd rfl (.inl rfl) (se_call g_law_length hr (by omega) rfl (takes_of rfl rfl rfl rfl) (sa_cons (se_var 0 rfl (.inr (.inl rfl))) (sa_cons (se_var 4 rfl (.inr (.inl rfl))) sa_nil)) (mCons_len (mCons_len mNil_len))))
    (sss_cons (ss_set (i := 6) sc_law_pipe.nd rfl (.inl rfl) (se_call g_law_spots hr (by omega) rfl (takes_of rfl rfl rfl rfl) (sa_cons (se_var 0 rfl (.inr (.inl rfl))) (sa_cons se_int (sa_cons (se_op op_sub snd_sub (se_var 5 rfl (.inl rfl)) se_int) (sa_cons (se_B (call_min2 rfl) snd_min2 rfl T.z_min (by decide +kernel) (sa_cons (se_ix hr.units (se_var 3 rfl (.inl rfl)) se_int) (sa_cons (se_ix hr.units (se_lst (sa_cons se_int (sa_cons se_int (sa_cons se_int (sa_cons se_int sa_nil))))) (se_call g_law_next hr (by omega) rfl (takes_of rfl rfl rfl rfl) (sa_cons (se_var 0 rfl (.inr (.inl rfl))) (sa_cons se_int sa_nil)) (mCons_len (mCons_len mNil_len)))) sa_nil))) sa_nil)))) (mCons_len (mCons_len (mCons_len (mCons_len mNil_len))))))
    (sss_cons (ss_set (i := 7) sc_law_pipe.nd rfl (.inl rfl) (se_call g_law_spots hr (by omega) rfl (takes_of rfl rfl rfl rfl) (sa_cons (se_var 0 rfl (.inr (.inl rfl))) (sa_cons se_int (sa_cons (se_op op_sub snd_sub (se_var 5 rfl (.inl rfl)) se_int) (sa_cons (se_B (call_min2 rfl) snd_min2 rfl T.z_min (by decide +kernel) (sa_cons (se_ix hr.units (se_var 3 rfl (.inl rfl)) se_int) (sa_cons (se_ix hr.units (se_lst (sa_cons se_int (sa_cons se_int (sa_cons se_int (sa_cons se_int sa_nil))))) (se_call g_law_next hr (by omega) rfl (takes_of rfl rfl rfl rfl) (sa_cons (se_var 0 rfl (.inr (.inl rfl))) (sa_cons se_int sa_nil)) (mCons_len (mCons_len mNil_len)))) sa_nil))) sa_nil)))) (mCons_len (mCons_len (mCons_len (mCons_len mNil_len))))))
    (sss_cons (ss_asg (se_op op_sub snd_sub (se_ix hr.units (se_var 3 rfl (.inl rfl)) se_int) (se_B call_lenA snd_len rfl T.z_len (by decide +kernel) (sa_cons (se_var 6 rfl (.inl rfl)) sa_nil))) (sg_set hr.units (se_var 3 rfl (.inl rfl)) se_int))
    (sss_cons (ss_asg (se_op op_sub snd_sub (se_ix hr.units (se_var 3 rfl (.inl rfl)) se_int) (se_B call_lenA snd_len rfl T.z_len (by decide +kernel) (sa_cons (se_var 7 rfl (.inl rfl)) sa_nil))) (sg_set hr.units (se_var 3 rfl (.inl rfl)) se_int))
    (sss_cons (ss_set (i := 8) sc_law_pipe.nd rfl (.inl rfl) (se_T call_tuple_of snd_tupleL rfl T.z_tuple (by decide +kernel) (sa_cons (se_lc (own := [("_law_at", 9)]) rfl sc_law_pipe.nd (si_seq (se_var 6 rfl (.inl rfl))) (blkOk_by (N := N_law_pipe) (sc := defScope s_law_pipe) (by decide +kernel)) (fun _ _ _ _ _ => (sgv_name sc_law_pipe.nd rfl (by first | exact .inl rfl | exact .inr rfl) (by decide))) (fun _ _ _ _ _ => sts_nil) (fun _ _ _ _ _ => (se_tup (sa_cons (se_var 9 rfl (by first | exact .inl rfl | exact .inr (.inl rfl))) (sa_cons (se_op op_addA snd_add se_int (se_call g_law_edge hr (by omega) rfl takes0 (sa_cons (se_var 0 rfl (.inr (.inl rfl))) (sa_cons (se_ix hr.units (se_lst (sa_cons se_int (sa_cons (se_op op_pow snd_pow se_int se_int) sa_nil))) (se_var 4 rfl (.inr (.inl rfl)))) sa_nil)) (mCons_len (mCons_len mNil_len)))) sa_nil))))) sa_nil)))
    (sss_one (ss_ret (se_tup (sa_cons (se_var 1 rfl (.inl rfl)) (sa_cons (se_var 2 rfl (.inl rfl)) (sa_cons (se_var 5 rfl (.inl rfl)) (sa_cons (se_var 8 rfl (.inl rfl)) (sa_cons (se_T call_tuple_of snd_tupleL rfl T.z_tuple (by decide +kernel) (sa_cons (se_lc (own := [("_law_at", 9)]) rfl sc_law_pipe.nd (si_seq (se_var 7 rfl (.inl rfl))) (blkOk_by (N := N_law_pipe) (sc := defScope s_law_pipe) (by decide +kernel)) (fun _ _ _ _ _ => (sgv_name sc_law_pipe.nd rfl (by first | exact .inl rfl | exact .inr rfl) (by decide))) (fun _ _ _ _ _ => sts_nil) (fun _ _ _ _ _ => (se_tup (sa_cons (se_var 9 rfl (by first | exact .inl rfl | exact .inr (.inl rfl))) (sa_cons (se_op op_sub snd_sub se_int (se_op op_mulA snd_mul se_int (se_call g_law_next hr (by omega) rfl takes0 (sa_cons (se_var 0 rfl (.inr (.inl rfl))) (sa_cons se_int sa_nil)) (mCons_len (mCons_len mNil_len))))) sa_nil))))) sa_nil)) sa_nil))))))))))))))
theorem o_law_house {f : Addr} {fd : FuncData} (F : L2.Fun K "_law_house" "_law_house" s_law_house f fd) (T : Txt K mg) (g_law_next : Fn ⟨P, w, K, mg⟩ base "_law_next" 1 2 m_law_next) (g_law_pipe : Fn ⟨P, w, K, mg⟩ base "_law_pipe" 5 5 m_law_pipe) : FnG P w K mg base (L2.CX P w) 6 f fd ["_law_deck_here", "_law_most", "_law_far", "_law_flaps"] (spM ⟨P, w, K, mg⟩ 4 m_law_house) :=
  fn_ok (k := 5) F sc_law_house fun cdv A outer s H E hr => (sss_cons (ss_set (i := 4) sc_law_house.nd rfl (.inl rfl) (se_op op_addA snd_add se_int (se_call g_law_next hr (by omega) rfl (takes_of rfl rfl rfl rfl) (sa_cons (se_var 0 rfl (.inl rfl)) (sa_cons (se_var 1 rfl (.inl rfl)) sa_nil)) (mCons_len (mCons_len mNil_len)))))
    (sss_cons (ss_set (i := 5) sc_law_house.nd rfl (.inl rfl) (se_lst sa_nil))
    (sss_cons (ss_for (passes_of rfl) rfl (si_range1 rfl T.z_range (sa_cons (se_var 4 rfl (.inl rfl)) sa_nil)) (sg_name sc_law_house.nd rfl (.inl rfl)) (sss_one (ss_expr (se_mt PySem.F.plainAttrs_list PySem.F.slot_list_insert PySem.F.type_list_insert mt_insert ty_list snd_insert (se_var 5 rfl (.inl rfl)) (sa_cons (se_call g_law_next hr (by omega) rfl (takes_of rfl rfl rfl rfl) (sa_cons (se_var 0 rfl (.inl rfl)) (sa_cons (se_op op_addA snd_add (se_var 6 rfl (.inl rfl)) se_int) sa_nil)) (mCons_len (mCons_len mNil_len))) (sa_cons (se_var 6 rfl (.inl rfl)) sa_nil))))))
    (sss_cons (ss_set (i := 7) sc_law_house.nd rfl (.inl rfl) (se_lst sa_nil))
    (sss_cons (ss_set (i := 8) sc_law_house.nd rfl (.inl rfl) (se_lst (sa_cons se_int (sa_cons (se_op op_mulA snd_mul se_int (se_var 3 rfl (.inl rfl))) sa_nil))))
    (sss_cons (ss_for (passes_of rfl) rfl (si_range2 rfl T.z_range (sa_cons se_int (sa_cons (se_var 4 rfl (.inl rfl)) sa_nil))) (sg_name sc_law_house.nd rfl (.inl rfl)) (sss_cons (ss_set (i := 10) sc_law_house.nd rfl (.inl rfl) (se_B (cr_sortedB rfl hr.units) snd_sortedB rfl T.z_sorted (by decide +kernel) (sa_cons (se_lst (sa_cons (se_ix hr.units (se_var 5 rfl (.inl rfl)) (se_call g_law_next hr (by omega) rfl (takes_of rfl rfl rfl rfl) (sa_cons (se_var 0 rfl (.inl rfl)) (sa_cons (se_var 9 rfl (.inl rfl)) sa_nil)) (mCons_len (mCons_len mNil_len)))) (sa_cons (se_ix hr.units (se_var 5 rfl (.inl rfl)) (se_var 9 rfl (.inl rfl))) sa_nil))) sa_nil)))
    (sss_cons (ss_set (i := 11) sc_law_house.nd rfl (.inl rfl) (se_call g_law_pipe hr (by omega) rfl (takes_of rfl rfl rfl rfl) (sa_cons (se_var 0 rfl (.inl rfl)) (sa_cons (se_ix hr.units (se_var 10 rfl (.inl rfl)) se_int) (sa_cons (se_ix hr.units (se_var 10 rfl (.inl rfl)) se_int) (sa_cons (se_var 8 rfl (.inl rfl)) (sa_cons (se_var 2 rfl (.inl rfl)) sa_nil))))) (mCons_len (mCons_len (mCons_len (mCons_len (mCons_len mNil_len)))))))
    (sss_one (ss_expr (se_mt PySem.F.plainAttrs_list PySem.F.slot_list_insert PySem.F.type_list_insert mt_insert ty_list snd_insert (se_var 7 rfl (.inl rfl)) (sa_cons (se_call g_law_next hr (by omega) rfl (takes_of rfl rfl rfl rfl) (sa_cons (se_var 0 rfl (.inl rfl)) (sa_cons (se_var 9 rfl (.inl rfl)) sa_nil)) (mCons_len (mCons_len mNil_len))) (sa_cons (se_var 11 rfl (.inl rfl)) sa_nil))))))))
    (sss_one (ss_ret (se_tup (sa_cons (se_var 4 rfl (.inl rfl)) (sa_cons (se_T call_tuple_of snd_tupleL rfl T.z_tuple (by decide +kernel) (sa_cons (se_var 7 rfl (.inl rfl)) sa_nil)) sa_nil)))))))))))
theorem o_law_odd {f : Addr} {fd : FuncData} (F : L2.Fun K "_law_odd" "_law_odd" s_law_odd f fd) (T : Txt K mg) (g_law_next : Fn ⟨P, w, K, mg⟩ base "_law_next" 1 2 m_law_next) : FnG P w K mg base (L2.CX P w) 2 f fd ["_law_deck_here"] (spM ⟨P, w, K, mg⟩ 1 m_law_odd) :=
  fn_ok (k := 1) F sc_law_odd fun cdv A outer s H E hr => (sss_cons (ss_set (i := 1) sc_law_odd.nd rfl (.inl rfl) (se_lst (sa_cons se_non (sa_cons se_bl (sa_cons se_bl (sa_cons (se_un un_neg snd_neg se_int) (sa_cons se_int (sa_cons se_int (sa_cons (se_op op_pow snd_pow se_int se_int) (sa_cons se_str (sa_cons se_str (sa_cons (se_tup sa_nil) (sa_cons (se_lst sa_nil) (sa_cons se_dicNew (sa_cons (se_tup (sa_cons se_int sa_nil)) (sa_cons (se_lst (sa_cons se_int sa_nil)) (sa_cons (se_tup (sa_cons (se_tup sa_nil) sa_nil)) (sa_cons (se_tup (sa_cons se_int (sa_cons se_int (sa_cons se_int sa_nil)))) (sa_cons (se_tup (sa_cons se_int (sa_cons se_int (sa_cons se_int (sa_cons (se_tup sa_nil) (sa_cons (se_tup sa_nil) sa_nil)))))) sa_nil)))))))))))))))))))
    (sss_one (ss_ret (se_ix hr.units (se_var 1 rfl (.inl rfl)) (se_call g_law_next hr (by omega) rfl (takes_of rfl rfl rfl rfl) (sa_cons (se_var 0 rfl (.inl rfl)) (sa_cons se_int sa_nil)) (mCons_len (mCons_len mNil_len)))))))
theorem o_law_otherwise {f : Addr} {fd : FuncData} (F : L2.Fun K "_law_otherwise" "_law_otherwise" s_law_otherwise f fd) (T : Txt K mg) (g_law_next : Fn ⟨P, w, K, mg⟩ base "_law_next" 1 2 m_law_next) (g_law_odd : Fn ⟨P, w, K, mg⟩ base "_law_odd" 2 1 m_law_odd) : FnG P w K mg base (L2.CX P w) 3 f fd ["_law_deck_here", "_law_thing"] (spM ⟨P, w, K, mg⟩ 2 m_law_otherwise) :=
  fn_ok (k := 2) F sc_law_otherwise fun cdv A outer s H E hr => (sss_cons (ss_set (i := 2) sc_law_otherwise.nd rfl (.inl rfl) (se_call g_law_next hr (by omega) rfl (takes_of rfl rfl rfl rfl) (sa_cons (se_var 0 rfl (.inl rfl)) (sa_cons se_int sa_nil)) (mCons_len (mCons_len mNil_len))))
    (sss_cons (ss_if (PW.pt (sw_and (st_val (se_isi1 rfl T.z_isinstance (se_var 1 rfl (.inl rfl)) rfl T.z_int (by decide +kernel) (by decide))) (sw_and (st_not (st_val (se_isi1 rfl T.z_isinstance (se_var 1 rfl (.inl rfl)) rfl T.z_bool (by decide +kernel) (by decide)))) (sw_and1 (st_cmp op_lt snd_cmpI (se_var 2 rfl (.inl rfl)) se_int (nomark _)))))) (sss_cons (ss_set (i := 3) sc_law_otherwise.nd rfl (.inl rfl) (se_lst (sa_cons (se_op op_addA snd_add (se_var 1 rfl (.inl rfl)) se_int) (sa_cons (se_op op_sub snd_sub (se_var 1 rfl (.inl rfl)) se_int) (sa_cons (se_cmp (op_eqD hr.units) snd_eq (se_var 1 rfl (.inl rfl)) se_int (nomark _)) (sa_cons (se_op op_sub snd_sub se_int (se_var 1 rfl (.inl rfl))) (sa_cons (se_op op_addA snd_add (se_op op_pow snd_pow se_int se_int) se_int) (sa_cons (se_op op_addA snd_add (se_op op_pow snd_pow se_int se_int) se_int) (sa_cons (se_op op_addA snd_add (se_var 1 rfl (.inl rfl)) se_int) (sa_cons (se_T call_strA snd_strL rfl T.z_str (by decide +kernel) (sa_cons (se_var 1 rfl (.inl rfl)) sa_nil)) sa_nil))))))))))
    (sss_one (ss_ret (se_lst (sa_cons (se_ix hr.units (se_var 3 rfl (.inl rfl)) (se_call g_law_next hr (by omega) rfl (takes_of rfl rfl rfl rfl) (sa_cons (se_var 0 rfl (.inl rfl)) (sa_cons se_int sa_nil)) (mCons_len (mCons_len mNil_len)))) sa_nil))))) sss_nil)
    (sss_cons (ss_if (PW.pt (sw_and (st_val (se_isi1 rfl T.z_isinstance (se_var 1 rfl (.inl rfl)) rfl T.z_tuple (by decide +kernel) (by decide))) (sw_and1 (st_cmp op_lt snd_cmpI (se_var 2 rfl (.inl rfl)) se_int (nomark _))))) (sss_one (ss_ret (se_lst (sa_cons (se_ix hr.units (se_lst (sa_cons (se_T (call_listA rfl) snd_listA rfl T.z_list (by decide +kernel) (sa_cons (se_var 1 rfl (.inl rfl)) sa_nil)) (sa_cons (se_back (se_var 1 rfl (.inl rfl))) sa_nil))) (se_var 2 rfl (.inl rfl))) sa_nil)))) sss_nil)
    (sss_cons (ss_if (st_cmp (op_eqD hr.units) snd_eq (se_var 2 rfl (.inl rfl)) se_int (nomark _)) (sss_one (ss_ret (se_lst sa_nil))) sss_nil)
    (sss_cons (ss_if (st_cmp (op_eqD hr.units) snd_eq (se_var 2 rfl (.inl rfl)) se_int (nomark _)) (sss_one (ss_ret (se_lst (sa_cons (se_var 1 rfl (.inl rfl)) (sa_cons (se_var 1 rfl (.inl rfl)) sa_nil))))) sss_nil)
    (sss_one (ss_ret (se_lst (sa_cons (se_call g_law_odd hr (by omega) rfl (takes_of rfl rfl rfl rfl) (sa_cons (se_var 0 rfl (.inl rfl)) sa_nil) (mCons_len mNil_len)) sa_nil)))))))))
theorem o_law_spoilt {f : Addr} {fd : FuncData} (F : L2.Fun K "_law_spoilt" "_law_spoilt" s_law_spoilt f fd) (T : Txt K mg) (g_law_otherwise : Fn ⟨P, w, K, mg⟩ base "_law_otherwise" 3 2 m_law_otherwise) (g_law_next : Fn ⟨P, w, K, mg⟩ base "_law_next" 1 2 m_law_next) : FnG P w K mg base (L2.CX P w) 4 f fd ["_law_deck_here", "_law_thing"] (spM ⟨P, w, K, mg⟩ 2 m_law_spoilt) :=
  fn_ok (k := 3) F sc_law_spoilt fun cdv A outer s H E hr => (sss_cons (ss_set (i := 2) sc_law_spoilt.nd rfl (.inl rfl) (se_lst sa_nil))
    (sss_cons (ss_set (i := 3) sc_law_spoilt.nd rfl (.inl rfl) (se_var 1 rfl (.inl rfl)))
    (sss_cons (ss_while 1000 (passes_of rfl) (PW.pt (sw_and (st_val (se_isi1 rfl T.z_isinstance (se_var 3 rfl (.inl rfl)) rfl T.z_tuple (by decide +kernel) (by decide))) (sw_and (st_cmp (op_neE hr.units) snd_neE (se_var 3 rfl (.inl rfl)) (se_tup sa_nil) (nomark _)) (sw_and1 (st_cmp op_gt snd_cmpI (se_call g_law_next hr (by omega) rfl (takes_of rfl rfl rfl rfl) (sa_cons (se_var 0 rfl (.inl rfl)) (sa_cons se_int sa_nil)) (mCons_len (mCons_len mNil_len))) se_int (nomark _)))))) (sss_cons (ss_set (i := 4) sc_law_spoilt.nd rfl (.inl rfl) (se_call g_law_next hr (by omega) rfl (takes_of rfl rfl rfl rfl) (sa_cons (se_var 0 rfl (.inl rfl)) (sa_cons (se_B call_lenA snd_len rfl T.z_len (by decide +kernel) (sa_cons (se_var 3 rfl (.inl rfl)) sa_nil)) sa_nil)) (mCons_len (mCons_len mNil_len))))
    (sss_cons (ss_expr (se_mt PySem.F.plainAttrs_list PySem.F.slot_list_append PySem.F.type_list_append mt_append ty_list snd_append (se_var 2 rfl (.inl rfl)) (sa_cons (se_tup (sa_cons (se_var 3 rfl (.inl rfl)) (sa_cons (se_var 4 rfl (.inl rfl)) sa_nil))) sa_nil)))
    (sss_one (ss_set (i := 3) sc_law_spoilt.nd rfl (.inl rfl) (se_ix hr.units (se_var 3 rfl (.inl rfl)) (se_var 4 rfl (.inl rfl))))))))
    (sss_cons (ss_set (i := 5) sc_law_spoilt.nd rfl (.inl rfl) (se_call g_law_otherwise hr (by omega) rfl (takes_of rfl rfl rfl rfl) (sa_cons (se_var 0 rfl (.inl rfl)) (sa_cons (se_var 3 rfl (.inl rfl)) sa_nil)) (mCons_len (mCons_len mNil_len))))
    (sss_cons (ss_for (passes_of rfl) rfl (si_rev rfl T.z_reversed (se_var 2 rfl (.inl rfl))) (sg_tup rfl (sgs_cons (sg_name sc_law_spoilt.nd rfl (.inl rfl)) (sgs_cons (sg_name sc_law_spoilt.nd rfl (.inl rfl)) sgs_nil))) (sss_one (ss_set (i := 5) sc_law_spoilt.nd rfl (.inl rfl) (se_lst (sa_cons (se_op op_addA snd_add (se_op op_addA snd_add (se_slc (se_var 6 rfl (.inl rfl)) so_none (so_some (se_var 4 rfl (.inl rfl)))) (se_T call_tuple_of snd_tupleL rfl T.z_tuple (by decide +kernel) (sa_cons (se_var 5 rfl (.inl rfl)) sa_nil))) (se_slc (se_var 6 rfl (.inl rfl)) (so_some (se_op op_addA snd_add (se_var 4 rfl (.inl rfl)) se_int)) so_none)) sa_nil)))))
    (sss_one (ss_ret (se_ix hr.units (se_op op_addA snd_add (se_var 5 rfl (.inl rfl)) (se_lst (sa_cons se_non sa_nil))) se_int))))))))
theorem o_is_joined {f : Addr} {fd : FuncData} (F : L2.Fun K "is_joined" "is_joined" s_is_joined f fd) (T : Txt K mg) : FnG P w K mg base (L2.CX P w) 1 f fd ["rooms", "pipes"] (spM ⟨P, w, K, mg⟩ 2 m_is_joined) :=
  fn_ok (k := 0) F sc_is_joined fun cdv A outer s H E hr => (sss_cons (ss_set (i := 2) sc_is_joined.nd rfl (.inl rfl) (se_lst (sa_cons se_int sa_nil)))
    (sss_cons (ss_set (i := 3) sc_is_joined.nd rfl (.inl rfl) se_int)
    (sss_cons (ss_while 1000 (passes_of rfl) (st_cmp op_lt snd_cmpI (se_var 3 rfl (.inl rfl)) (se_B cr_lenX snd_lenX rfl T.z_len (by decide +kernel) (sa_cons (se_var 2 rfl (.inl rfl)) sa_nil)) (nomark _)) (sss_cons (ss_for (passes_of rfl) rfl (si_seq (se_var 1 rfl (.inl rfl))) (sg_name sc_is_joined.nd rfl (.inl rfl)) (sss_one (ss_for (passes_of rfl) rfl (si_seq (se_tup (sa_cons (se_slc (se_var 4 rfl (.inl rfl)) so_none (so_some se_int)) (sa_cons (se_backAt (se_var 4 rfl (.inl rfl))) sa_nil)))) (sg_tup rfl (sgs_cons (sg_name sc_is_joined.nd rfl (.inl rfl)) (sgs_cons (sg_name sc_is_joined.nd rfl (.inl rfl)) sgs_nil))) (sss_one (ss_if (PW.pt (sw_and (st_cmp (op_eqD hr.units) snd_eq (se_var 5 rfl (.inl rfl)) (se_ix hr.units (se_var 2 rfl (.inl rfl)) (se_var 3 rfl (.inl rfl))) (nomark _)) (sw_and1 (st_cmp (op_notInX hr.units) snd_notInX (se_var 6 rfl (.inl rfl)) (se_var 2 rfl (.inl rfl)) (by with_unfolding_all rfl))))) (sss_one (ss_expr (se_mt PySem.F.plainAttrs_list PySem.F.slot_list_append PySem.F.type_list_append mt_append ty_list snd_append (se_var 2 rfl (.inl rfl)) (sa_cons (se_var 6 rfl (.inl rfl)) sa_nil)))) sss_nil)))))
    (sss_one (ss_aug (j := 3) sc_is_joined.nd rfl (.inl rfl) se_int (pip_of iop_add) snd_iadd))))
    (sss_one (ss_ret (se_cmp (op_eqD hr.units) snd_eq (se_B cr_lenX snd_lenX rfl T.z_len (by decide +kernel) (sa_cons (se_var 2 rfl (.inl rfl)) sa_nil)) (se_var 0 rfl (.inl rfl)) (nomark _)))))))
theorem o_is_whole {f : Addr} {fd : FuncData} (F : L2.Fun K "is_whole" "is_whole" s_is_whole f fd) (T : Txt K mg) : FnG P w K mg base (L2.CX P w) 1 f fd ["thing"] (spM ⟨P, w, K, mg⟩ 1 m_is_whole) :=
  fn_ok (k := 0) F sc_is_whole fun cdv A outer s H E hr => (sss_one (ss_ret (se_and (se_isi1 rfl T.z_isinstance (se_var 0 rfl (.inl rfl)) rfl T.z_int (by decide +kernel) (by decide)) (se_one (se_not (se_isi1 rfl T.z_isinstance (se_var 0 rfl (.inl rfl)) rfl T.z_bool (by decide +kernel) (by decide)))))))
theorem o_is_from {f : Addr} {fd : FuncData} (F : L2.Fun K "is_from" "is_from" s_is_from f fd) (T : Txt K mg) (g_is_whole : Fn ⟨P, w, K, mg⟩ base "is_whole" 1 1 m_is_whole) : FnG P w K mg base (L2.CX P w) 2 f fd ["thing", "low", "high"] (spM ⟨P, w, K, mg⟩ 3 m_is_from) :=
  fn_ok (k := 1) F sc_is_from fun cdv A outer s H E hr => (sss_one (ss_ret (se_and (se_call g_is_whole hr (by omega) rfl (takes_of rfl rfl rfl rfl) (sa_cons (se_var 0 rfl (.inl rfl)) sa_nil) (mCons_len mNil_len)) (se_one (se_chain op_le op_le snd_cmpI snd_cmpI (se_var 1 rfl (.inl rfl)) (se_var 0 rfl (.inl rfl)) (se_var 2 rfl (.inl rfl)))))))
theorem o_is_pair {f : Addr} {fd : FuncData} (F : L2.Fun K "is_pair" "is_pair" s_is_pair f fd) (T : Txt K mg) : FnG P w K mg base (L2.CX P w) 1 f fd ["thing"] (spM ⟨P, w, K, mg⟩ 1 m_is_pair) :=
  fn_ok (k := 0) F sc_is_pair fun cdv A outer s H E hr => (sss_one (ss_ret (se_and (se_isi1 rfl T.z_isinstance (se_var 0 rfl (.inl rfl)) rfl T.z_tuple (by decide +kernel) (by decide)) (se_one (se_cmp (op_eqD hr.units) snd_eq (se_B call_lenA snd_len rfl T.z_len (by decide +kernel) (sa_cons (se_var 0 rfl (.inl rfl)) sa_nil)) se_int (nomark _))))))
theorem o_is_size {f : Addr} {fd : FuncData} (F : L2.Fun K "is_size" "is_size" s_is_size f fd) (T : Txt K mg) (g_is_from : Fn ⟨P, w, K, mg⟩ base "is_from" 2 3 m_is_from) : FnG P w K mg base (L2.CX P w) 3 f fd ["thing"] (spM ⟨P, w, K, mg⟩ 1 m_is_size) :=
  fn_ok (k := 2) F sc_is_size fun cdv A outer s H E hr => (sss_one (ss_ret (se_call g_is_from hr (by omega) rfl (takes_of rfl rfl rfl rfl) (sa_cons (se_var 0 rfl (.inl rfl)) (sa_cons se_int (sa_cons (T.c_WIDE.elim fun _ hc => se_globI rfl hc) sa_nil))) (mCons_len (mCons_len (mCons_len mNil_len))))))
theorem o_is_course {f : Addr} {fd : FuncData} (F : L2.Fun K "is_course" "is_course" s_is_course f fd) (T : Txt K mg) (g_is_whole : Fn ⟨P, w, K, mg⟩ base "is_whole" 1 1 m_is_whole) : FnG P w K mg base (L2.CX P w) 2 f fd ["thing"] (spM ⟨P, w, K, mg⟩ 1 m_is_course) :=
  fn_ok (k := 1) F sc_is_course fun cdv A outer s H E hr => (sss_one (ss_ret (se_and (se_call g_is_whole hr (by omega) rfl (takes_of rfl rfl rfl rfl) (sa_cons (se_var 0 rfl (.inl rfl)) sa_nil) (mCons_len mNil_len)) (se_one (se_cmp (op_inX hr.units) snd_inX (se_var 0 rfl (.inl rfl)) (se_tup (sa_cons (se_un un_neg snd_neg se_int) (sa_cons se_int sa_nil))) (by with_unfolding_all rfl))))))
theorem o_are_pairs {f : Addr} {fd : FuncData} (F : L2.Fun K "are_pairs" "are_pairs" s_are_pairs f fd) (T : Txt K mg) (g_is_pair : Fn ⟨P, w, K, mg⟩ base "is_pair" 1 1 m_is_pair) (g_is_from : Fn ⟨P, w, K, mg⟩ base "is_from" 2 3 m_is_from) (g_is_size : Fn ⟨P, w, K, mg⟩ base "is_size" 3 1 m_is_size) (g_is_course : Fn ⟨P, w, K, mg⟩ base "is_course" 2 1 m_is_course) : FnG P w K mg base (L2.CX P w) 4 f fd ["thing", "low", "high", "fits"] (spM ⟨P, w, K, mg⟩ 4 m_are_pairs) :=
  fn_ok (k := 3) F sc_are_pairs fun cdv A outer s H E hr => (sss_cons (ss_if (st_not (st_val (se_isi1 rfl T.z_isinstance (se_var 0 rfl (.inl rfl)) rfl T.z_tuple (by decide +kernel) (by decide)))) (sss_one (ss_ret se_bl)) sss_nil)
    (sss_cons (ss_set (i := 4) sc_are_pairs.nd rfl (.inl rfl) (se_var 1 rfl (.inl rfl)))
    (sss_cons (ss_for (passes_of rfl) rfl (si_seq (se_var 0 rfl (.inl rfl))) (sg_name sc_are_pairs.nd rfl (.inl rfl)) (sss_cons (ss_if (PW.pt (sw_or (st_not (st_val (se_call g_is_pair hr (by omega) rfl (takes_of rfl rfl rfl rfl) (sa_cons (se_var 5 rfl (.inl rfl)) sa_nil) (mCons_len mNil_len)))) (sw_or (st_not (st_val (se_call g_is_from hr (by omega) rfl (takes_of rfl rfl rfl rfl) (sa_cons (se_ix hr.units (se_var 5 rfl (.inl rfl)) se_int) (sa_cons (se_var 4 rfl (.inl rfl)) (sa_cons (se_var 2 rfl (.inl rfl)) sa_nil))) (mCons_len (mCons_len (mCons_len mNil_len)))))) (sw_or1 (st_not (st_val (se_callV (i := 3) g_is_size g_is_course hr (by omega) (by omega) rfl (.inl rfl) (takes_of rfl rfl rfl rfl) (sa_cons (se_ix hr.units (se_var 5 rfl (.inl rfl)) se_int) sa_nil) (mCons_len mNil_len)))))))) (sss_one (ss_ret se_bl)) sss_nil)
    (sss_one (ss_set (i := 4) sc_are_pairs.nd rfl (.inl rfl) (se_op op_addA snd_add (se_ix hr.units (se_var 5 rfl (.inl rfl)) se_int) se_int)))))
    (sss_one (ss_ret se_bl)))))
theorem o_is_pipe {f : Addr} {fd : FuncData} (F : L2.Fun K "is_pipe" "is_pipe" s_is_pipe f fd) (T : Txt K mg) (g_are_pairs : Fn ⟨P, w, K, mg⟩ base "are_pairs" 4 4 m_are_pairs) (g_is_from : Fn ⟨P, w, K, mg⟩ base "is_from" 2 3 m_is_from) (g_is_size : Fn ⟨P, w, K, mg⟩ base "is_size" 3 1 m_is_size) (g_is_course : Fn ⟨P, w, K, mg⟩ base "is_course" 2 1 m_is_course) : FnG P w K mg base (L2.CX P w) 5 f fd ["rooms", "thing"] (spM ⟨P, w, K, mg⟩ 2 m_is_pipe) :=
  fn_ok (k := 4) F sc_is_pipe fun cdv A outer s H E hr => (sss_cons (ss_if (PW.pt (sw_or (st_not (st_val (se_isi1 rfl T.z_isinstance (se_var 1 rfl (.inl rfl)) rfl T.z_tuple (by decide +kernel) (by decide)))) (sw_or1 (st_cmp (op_neD hr.units) snd_ne (se_B call_lenA snd_len rfl T.z_len (by decide +kernel) (sa_cons (se_var 1 rfl (.inl rfl)) sa_nil)) se_int (nomark _))))) (sss_one (ss_ret se_bl)) sss_nil)
    (sss_cons (ss_asg (se_var 1 rfl (.inl rfl)) (sg_tup rfl (sgs_cons (sg_name sc_is_pipe.nd rfl (.inl rfl)) (sgs_cons (sg_name sc_is_pipe.nd rfl (.inl rfl)) (sgs_cons (sg_name sc_is_pipe.nd rfl (.inl rfl)) (sgs_cons (sg_name sc_is_pipe.nd rfl (.inl rfl)) (sgs_cons (sg_name sc_is_pipe.nd rfl (.inl rfl)) sgs_nil)))))))
    (sss_cons (ss_if (PW.pt (sw_or (st_not (st_val (se_call g_is_from hr (by omega) rfl (takes_of rfl rfl rfl rfl) (sa_cons (se_var 2 rfl (.inl rfl)) (sa_cons se_int (sa_cons (se_op op_sub snd_sub (se_var 0 rfl (.inl rfl)) se_int) sa_nil))) (mCons_len (mCons_len (mCons_len mNil_len)))))) (sw_or (st_not (st_val (se_call g_is_from hr (by omega) rfl (takes_of rfl rfl rfl rfl) (sa_cons (se_var 3 rfl (.inl rfl)) (sa_cons (se_op op_addA snd_add (se_var 2 rfl (.inl rfl)) se_int) (sa_cons (se_op op_sub snd_sub (se_var 0 rfl (.inl rfl)) se_int) sa_nil))) (mCons_len (mCons_len (mCons_len mNil_len)))))) (sw_or1 (st_not (st_val (se_call g_is_from hr (by omega) rfl (takes_of rfl rfl rfl rfl) (sa_cons (se_var 4 rfl (.inl rfl)) (sa_cons se_int (sa_cons (T.c_LONG.elim fun _ hc => se_globI rfl hc) sa_nil))) (mCons_len (mCons_len (mCons_len mNil_len)))))))))) (sss_one (ss_ret se_bl)) sss_nil)
    (sss_one (ss_ret (se_and (se_call g_are_pairs hr (by omega) rfl (takes_of rfl rfl rfl rfl) (sa_cons (se_var 5 rfl (.inl rfl)) (sa_cons se_int (sa_cons (se_op op_sub snd_sub (se_var 4 rfl (.inl rfl)) se_int) (sa_cons (Exists.elim g_is_size fun _ h1 => h1.elim fun _ h2 => h2.elim fun _ h3 => se_globF rfl h3.1) sa_nil)))) (mCons_len (mCons_len (mCons_len (mCons_len mNil_len))))) (se_one (se_call g_are_pairs hr (by omega) rfl (takes_of rfl rfl rfl rfl) (sa_cons (se_var 6 rfl (.inl rfl)) (sa_cons se_int (sa_cons (se_op op_sub snd_sub (se_var 4 rfl (.inl rfl)) se_int) (sa_cons (Exists.elim g_is_course fun _ h1 => h1.elim fun _ h2 => h2.elim fun _ h3 => se_globF rfl h3.1) sa_nil)))) (mCons_len (mCons_len (mCons_len (mCons_len mNil_len))))))))))))
theorem o_is_house {f : Addr} {fd : FuncData} (F : L2.Fun K "is_house" "is_house" s_is_house f fd) (T : Txt K mg) (g_is_joined : Fn ⟨P, w, K, mg⟩ base "is_joined" 1 2 m_is_joined) (g_is_from : Fn ⟨P, w, K, mg⟩ base "is_from" 2 3 m_is_from) (g_is_pipe : Fn ⟨P, w, K, mg⟩ base "is_pipe" 5 2 m_is_pipe) : FnG P w K mg base (L2.CX P w) 6 f fd ["thing"] (spM ⟨P, w, K, mg⟩ 1 m_is_house) :=
  fn_ok (k := 5) F sc_is_house fun cdv A outer s H E hr => (sss_cons (ss_if (PW.pt (sw_or (st_not (st_val (se_isi1 rfl T.z_isinstance (se_var 0 rfl (.inl rfl)) rfl T.z_tuple (by decide +kernel) (by decide)))) (sw_or1 (st_cmp (op_neD hr.units) snd_ne (se_B call_lenA snd_len rfl T.z_len (by decide +kernel) (sa_cons (se_var 0 rfl (.inl rfl)) sa_nil)) se_int (nomark _))))) (sss_one (ss_ret se_bl)) sss_nil)
    (sss_cons (ss_asg (se_var 0 rfl (.inl rfl)) (sg_tup rfl (sgs_cons (sg_name sc_is_house.nd rfl (.inr rfl)) (sgs_cons (sg_name sc_is_house.nd rfl (.inl rfl)) sgs_nil))))
    (sss_cons (ss_if (PW.pt (sw_or (st_not (st_val (se_call g_is_from hr (by omega) rfl (takes_of rfl rfl rfl rfl) (sa_cons (se_var 1 rfl (.inr (.inl rfl))) (sa_cons se_int (sa_cons (T.c_ROOMS.elim fun _ hc => se_globI rfl hc) sa_nil))) (mCons_len (mCons_len (mCons_len mNil_len)))))) (sw_or (st_not (st_val (se_isi1 rfl T.z_isinstance (se_var 2 rfl (.inl rfl)) rfl T.z_tuple (by decide +kernel) (by decide)))) (sw_or1 (st_cmp (op_neD hr.units) snd_ne (se_B call_lenA snd_len rfl T.z_len (by decide +kernel) (sa_cons (se_var 2 rfl (.inl rfl)) sa_nil)) (se_op op_sub snd_sub (se_var 1 rfl (.inr (.inl rfl))) se_int) (nomark _)))))) (sss_one (ss_ret se_bl)) sss_nil)
    (sss_cons (ss_if (st_not (st_val (se_B (cr_all rfl) snd_all rfl T.z_all (by decide +kernel) (sa_cons (se_lc (own := [("pipe", 3)]) rfl sc_is_house.nd (si_seq (se_var 2 rfl (.inl rfl))) (blkOk_by (N := N_is_house) (sc := defScope s_is_house) (by decide +kernel)) (fun _ _ _ _ _ => (sgv_name sc_is_house.nd rfl (by first | exact .inl rfl | exact .inr rfl) (by decide))) (fun _ _ _ _ _ => sts_nil) (fun _ _ _ _ _ => (se_call g_is_pipe hr (by omega) rfl takes0 (sa_cons (se_var 1 rfl (.inr (.inl rfl))) (sa_cons (se_var 3 rfl (by first | exact .inl rfl | exact .inr (.inl rfl))) sa_nil)) (mCons_len (mCons_len mNil_len))))) sa_nil)))) (sss_one (ss_ret se_bl)) sss_nil)
    (sss_cons (ss_if (PW.pt (sw_or (st_cmp op_gt snd_cmpI (se_B (cr_sum rfl) snd_sum rfl T.z_sum (by decide +kernel) (sa_cons (se_lc (own := [("pipe", 3)]) rfl sc_is_house.nd (si_seq (se_var 2 rfl (.inl rfl))) (blkOk_by (N := N_is_house) (sc := defScope s_is_house) (by decide +kernel)) (fun _ _ _ _ _ => (sgv_name sc_is_house.nd rfl (by first | exact .inl rfl | exact .inr rfl) (by decide))) (fun _ _ _ _ _ => sts_nil) (fun _ _ _ _ _ => (se_B call_lenA snd_len rfl T.z_len (by decide +kernel) (sa_cons (se_ix hr.units (se_var 3 rfl (by first | exact .inl rfl | exact .inr (.inl rfl))) se_int) sa_nil)))) sa_nil)) (T.c_NARROWS.elim fun _ hc => se_globI rfl hc) (nomark _)) (sw_or1 (st_cmp op_gt snd_cmpI (se_B (cr_sum rfl) snd_sum rfl T.z_sum (by decide +kernel) (sa_cons (se_lc (own := [("pipe", 3)]) rfl sc_is_house.nd (si_seq (se_var 2 rfl (.inl rfl))) (blkOk_by (N := N_is_house) (sc := defScope s_is_house) (by decide +kernel)) (fun _ _ _ _ _ => (sgv_name sc_is_house.nd rfl (by first | exact .inl rfl | exact .inr rfl) (by decide))) (fun _ _ _ _ _ => sts_nil) (fun _ _ _ _ _ => (se_B call_lenA snd_len rfl T.z_len (by decide +kernel) (sa_cons (se_ix hr.units (se_var 3 rfl (by first | exact .inl rfl | exact .inr (.inl rfl))) se_int) sa_nil)))) sa_nil)) (T.c_FLAPS.elim fun _ hc => se_globI rfl hc) (nomark _))))) (sss_one (ss_ret se_bl)) sss_nil)
    (sss_one (ss_ret (se_call g_is_joined hr (by omega) rfl (takes_of rfl rfl rfl rfl) (sa_cons (se_var 1 rfl (.inr (.inl rfl))) (sa_cons (se_var 2 rfl (.inl rfl)) sa_nil)) (mCons_len (mCons_len mNil_len))))))))))
theorem o_law_all_joined {f : Addr} {fd : FuncData} (F : L2.Fun K "_law_all_joined" "_law_all_joined" s_law_all_joined f fd) (T : Txt K mg) : FnG P w K mg base (L2.CX P w) 1 f fd ["_law_rooms", "_law_pipes"] (spM ⟨P, w, K, mg⟩ 2 m_law_all_joined) :=
  fn_ok (k := 0) F sc_law_all_joined fun cdv A outer s H E hr => (sss_cons (ss_set (i := 2) sc_law_all_joined.nd rfl (.inr rfl) (se_listRg rfl rfl T.z_list rfl T.z_range (se_var 0 rfl (.inl rfl))))
    (sss_cons (ss_for (passes_of rfl) rfl (si_range1 rfl T.z_range (sa_cons (se_var 0 rfl (.inl rfl)) sa_nil)) (sg_name sc_law_all_joined.nd rfl (.inl rfl)) (sss_one (ss_for (passes_of rfl) rfl (si_seq (se_var 1 rfl (.inl rfl))) (sg_name sc_law_all_joined.nd rfl (.inl rfl)) (sss_cons (ss_set (i := 5) sc_law_all_joined.nd rfl (.inl rfl) (se_B (call_min2 rfl) snd_min2 rfl T.z_min (by decide +kernel) (sa_cons (se_ix hr.units (se_var 2 rfl (.inr (.inl rfl))) (se_ix hr.units (se_var 4 rfl (.inl rfl)) se_int)) (sa_cons (se_ix hr.units (se_var 2 rfl (.inr (.inl rfl))) (se_ix hr.units (se_var 4 rfl (.inl rfl)) se_int)) sa_nil))))
    (sss_cons (ss_asg (se_var 5 rfl (.inl rfl)) (sg_set hr.units (se_var 2 rfl (.inr (.inl rfl))) (se_ix hr.units (se_var 4 rfl (.inl rfl)) se_int)))
    (sss_one (ss_asg (se_var 5 rfl (.inl rfl)) (sg_set hr.units (se_var 2 rfl (.inr (.inl rfl))) (se_ix hr.units (se_var 4 rfl (.inl rfl)) se_int)))))))))
    (sss_one (ss_ret (se_cmp (op_eqE hr.units) snd_eqE (se_lc (own := [("_law_room", 6)]) rfl sc_law_all_joined.nd (si_range1 rfl T.z_range (sa_cons (se_var 0 rfl (.inl rfl)) sa_nil)) (blkOk_by (N := N_law_all_joined) (sc := defScope s_law_all_joined) (by decide +kernel)) (fun _ _ _ _ _ => (sgv_name sc_law_all_joined.nd rfl (by first | exact .inl rfl | exact .inr rfl) (by decide))) (fun _ _ _ _ _ => (sts_one (st_cmp (op_neD hr.units) snd_ne (se_ix hr.units (se_var 2 rfl (.inr (.inl rfl))) (se_var 6 rfl (by first | exact .inl rfl | exact .inr (.inl rfl)))) se_int (nomark _)))) (fun _ _ _ _ _ => (se_var 6 rfl (by first | exact .inl rfl | exact .inr (.inl rfl))))) (se_lst sa_nil) (nomark _))))))
theorem o_law_is_from {f : Addr} {fd : FuncData} (F : L2.Fun K "_law_is_from" "_law_is_from" s_law_is_from f fd) (T : Txt K mg) : FnG P w K mg base (L2.CX P w) 1 f fd ["_law_thing", "_law_low", "_law_high"] (spM ⟨P, w, K, mg⟩ 3 m_law_is_from) :=
  fn_ok (k := 0) F sc_law_is_from fun cdv A outer s H E hr => (sss_one (ss_ret (se_and (se_isi1 rfl T.z_isinstance (se_var 0 rfl (.inl rfl)) rfl T.z_int (by decide +kernel) (by decide)) (se_and (se_not (se_isi1 rfl T.z_isinstance (se_var 0 rfl (.inl rfl)) rfl T.z_bool (by decide +kernel) (by decide))) (se_one (se_chain op_le op_le snd_cmpI snd_cmpI (se_var 1 rfl (.inl rfl)) (se_var 0 rfl (.inl rfl)) (se_var 2 rfl (.inl rfl))))))))
theorem o_law_are_pairs {f : Addr} {fd : FuncData} (F : L2.Fun K "_law_are_pairs" "_law_are_pairs" s_law_are_pairs f fd) (T : Txt K mg) (g_law_is_from : Fn ⟨P, w, K, mg⟩ base "_law_is_from" 1 3 m_law_is_from) : FnG P w K mg base (L2.CX P w) 2 f fd ["_law_thing", "_law_low", "_law_high"] (spM ⟨P, w, K, mg⟩ 3 m_law_are_pairs) :=
  fn_ok (k := 1) F sc_law_are_pairs fun cdv A outer s H E hr => (sss_cons (ss_if (st_not (st_val (se_isi1 rfl T.z_isinstance (se_var 0 rfl (.inr (.inl rfl))) rfl T.z_tuple (by decide +kernel) (by decide)))) (sss_one (ss_ret se_bl)) sss_nil)
    (sss_cons (ss_if (st_cmp (op_neE hr.units) snd_neE (se_lc (own := [("_law_pair", 3)]) rfl sc_law_are_pairs.nd (si_seq (se_var 0 rfl (.inr (.inl rfl)))) (blkOk_by (N := N_law_are_pairs) (sc := defScope s_law_are_pairs) (by decide +kernel)) (fun _ _ _ _ _ => (sgv_name sc_law_are_pairs.nd rfl (by first | exact .inl rfl | exact .inr rfl) (by decide))) (fun _ _ _ _ _ => (sts_one (PW.pt (sw_or (st_not (st_val (se_isi1 rfl T.z_isinstance (se_var 3 rfl (by first | exact .inl rfl | exact .inr (.inl rfl))) rfl T.z_tuple (by decide +kernel) (by decide)))) (sw_or1 (st_cmp (op_neD hr.units) snd_ne (se_B call_lenA snd_len rfl T.z_len (by decide +kernel) (sa_cons (se_var 3 rfl (by first | exact .inl rfl | exact .inr (.inl rfl))) sa_nil)) se_int (nomark _))))))) (fun _ _ _ _ _ => (se_var 3 rfl (by first | exact .inl rfl | exact .inr (.inl rfl))))) (se_lst sa_nil) (nomark _)) (sss_one (ss_ret se_bl)) sss_nil)
    (sss_cons (ss_if (st_cmp (op_neE hr.units) snd_neE (se_lc (own := [("_law_pair", 3)]) rfl sc_law_are_pairs.nd (si_seq (se_var 0 rfl (.inr (.inl rfl)))) (blkOk_by (N := N_law_are_pairs) (sc := defScope s_law_are_pairs) (by decide +kernel)) (fun _ _ _ _ _ => (sgv_name sc_law_are_pairs.nd rfl (by first | exact .inl rfl | exact .inr rfl) (by decide))) (fun _ _ _ _ _ => (sts_one (st_not (st_val (se_call g_law_is_from hr (by omega) rfl takes0 (sa_cons (se_ix hr.units (se_var 3 rfl (by first | exact .inl rfl | exact .inr (.inl rfl))) se_int) (sa_cons (se_var 1 rfl (.inr (.inl rfl))) (sa_cons (se_var 2 rfl (.inr (.inl rfl))) sa_nil))) (mCons_len (mCons_len (mCons_len mNil_len)))))))) (fun _ _ _ _ _ => (se_var 3 rfl (by first | exact .inl rfl | exact .inr (.inl rfl))))) (se_lst sa_nil) (nomark _)) (sss_one (ss_ret se_bl)) sss_nil)
    (sss_one (ss_ret (se_cmp (op_eqE hr.units) snd_eqE (se_lc (own := [("_law_k", 4)]) rfl sc_law_are_pairs.nd (si_range2 rfl T.z_range (sa_cons se_int (sa_cons (se_B call_lenA snd_len rfl T.z_len (by decide +kernel) (sa_cons (se_var 0 rfl (.inr (.inl rfl))) sa_nil)) sa_nil))) (blkOk_by (N := N_law_are_pairs) (sc := defScope s_law_are_pairs) (by decide +kernel)) (fun _ _ _ _ _ => (sgv_name sc_law_are_pairs.nd rfl (by first | exact .inl rfl | exact .inr rfl) (by decide))) (fun _ _ _ _ _ => (sts_one (st_cmp op_ge snd_cmpI (se_ix hr.units (se_ix hr.units (se_var 0 rfl (.inr (.inl rfl))) (se_op op_sub snd_sub (se_var 4 rfl (by first | exact .inl rfl | exact .inr (.inl rfl))) se_int)) se_int) (se_ix hr.units (se_ix hr.units (se_var 0 rfl (.inr (.inl rfl))) (se_var 4 rfl (by first | exact .inl rfl | exact .inr (.inl rfl)))) se_int) (nomark _)))) (fun _ _ _ _ _ => (se_var 4 rfl (by first | exact .inl rfl | exact .inr (.inl rfl))))) (se_lst sa_nil) (nomark _)))))))
theorem o_law_is_pipe {f : Addr} {fd : FuncData} (F : L2.Fun K "_law_is_pipe" "_law_is_pipe" s_law_is_pipe f fd) (T : Txt K mg) (g_law_is_from : Fn ⟨P, w, K, mg⟩ base "_law_is_from" 1 3 m_law_is_from) (g_law_are_pairs : Fn ⟨P, w, K, mg⟩ base "_law_are_pairs" 2 3 m_law_are_pairs) : FnG P w K mg base (L2.CX P w) 3 f fd ["_law_rooms", "_law_thing"] (spM ⟨P, w, K, mg⟩ 2 m_law_is_pipe) :=
  fn_ok (k := 2) F sc_law_is_pipe fun cdv A outer s H E hr => (sss_cons (ss_if (PW.pt (sw_or (st_not (st_val (se_isi1 rfl T.z_isinstance (se_var 1 rfl (.inl rfl)) rfl T.z_tuple (by decide +kernel) (by decide)))) (sw_or1 (st_cmp (op_neD hr.units) snd_ne (se_B call_lenA snd_len rfl T.z_len (by decide +kernel) (sa_cons (se_var 1 rfl (.inl rfl)) sa_nil)) se_int (nomark _))))) (sss_one (ss_ret se_bl)) sss_nil)
    (sss_cons (ss_asg (se_var 1 rfl (.inl rfl)) (sg_tup rfl (sgs_cons (sg_name sc_law_is_pipe.nd rfl (.inl rfl)) (sgs_cons (sg_name sc_law_is_pipe.nd rfl (.inl rfl)) (sgs_cons (sg_name sc_law_is_pipe.nd rfl (.inl rfl)) (sgs_cons (sg_name sc_law_is_pipe.nd rfl (.inl rfl)) (sgs_cons (sg_name sc_law_is_pipe.nd rfl (.inl rfl)) sgs_nil)))))))
    (sss_cons (ss_if (PW.pt (sw_or (st_not (st_val (se_call g_law_is_from hr (by omega) rfl (takes_of rfl rfl rfl rfl) (sa_cons (se_var 2 rfl (.inl rfl)) (sa_cons se_int (sa_cons (se_op op_sub snd_sub (se_var 0 rfl (.inl rfl)) se_int) sa_nil))) (mCons_len (mCons_len (mCons_len mNil_len)))))) (sw_or (st_not (st_val (se_call g_law_is_from hr (by omega) rfl (takes_of rfl rfl rfl rfl) (sa_cons (se_var 3 rfl (.inl rfl)) (sa_cons se_int (sa_cons (se_op op_sub snd_sub (se_var 0 rfl (.inl rfl)) se_int) sa_nil))) (mCons_len (mCons_len (mCons_len mNil_len)))))) (sw_or1 (st_cmp op_ge snd_cmpI (se_var 2 rfl (.inl rfl)) (se_var 3 rfl (.inl rfl)) (nomark _)))))) (sss_one (ss_ret se_bl)) sss_nil)
    (sss_cons (ss_if (st_not (st_val (se_call g_law_is_from hr (by omega) rfl (takes_of rfl rfl rfl rfl) (sa_cons (se_var 4 rfl (.inl rfl)) (sa_cons se_int (sa_cons (se_op op_pow snd_pow se_int se_int) sa_nil))) (mCons_len (mCons_len (mCons_len mNil_len)))))) (sss_one (ss_ret se_bl)) sss_nil)
    (sss_cons (ss_if (PW.pt (sw_or (st_not (st_val (se_call g_law_are_pairs hr (by omega) rfl (takes_of rfl rfl rfl rfl) (sa_cons (se_var 5 rfl (.inl rfl)) (sa_cons se_int (sa_cons (se_op op_sub snd_sub (se_var 4 rfl (.inl rfl)) se_int) sa_nil))) (mCons_len (mCons_len (mCons_len mNil_len)))))) (sw_or1 (st_not (st_val (se_call g_law_are_pairs hr (by omega) rfl (takes_of rfl rfl rfl rfl) (sa_cons (se_var 6 rfl (.inl rfl)) (sa_cons se_int (sa_cons (se_op op_sub snd_sub (se_var 4 rfl (.inl rfl)) se_int) sa_nil))) (mCons_len (mCons_len (mCons_len mNil_len))))))))) (sss_one (ss_ret se_bl)) sss_nil)
    (sss_cons (ss_if (st_cmp (op_neE hr.units) snd_neE (se_lc (own := [("_law_pair", 7)]) rfl sc_law_is_pipe.nd (si_seq (se_var 5 rfl (.inl rfl))) (blkOk_by (N := N_law_is_pipe) (sc := defScope s_law_is_pipe) (by decide +kernel)) (fun _ _ _ _ _ => (sgv_name sc_law_is_pipe.nd rfl (by first | exact .inl rfl | exact .inr rfl) (by decide))) (fun _ _ _ _ _ => (sts_one (st_not (st_val (se_call g_law_is_from hr (by omega) rfl takes0 (sa_cons (se_ix hr.units (se_var 7 rfl (by first | exact .inl rfl | exact .inr (.inl rfl))) se_int) (sa_cons se_int (sa_cons (se_op op_pow snd_pow se_int se_int) sa_nil))) (mCons_len (mCons_len (mCons_len mNil_len)))))))) (fun _ _ _ _ _ => (se_var 7 rfl (by first | exact .inl rfl | exact .inr (.inl rfl))))) (se_lst sa_nil) (nomark _)) (sss_one (ss_ret se_bl)) sss_nil)
    (sss_one (ss_ret (se_cmp (op_eqE hr.units) snd_eqE (se_lc (own := [("_law_pair", 7)]) rfl sc_law_is_pipe.nd (si_seq (se_var 6 rfl (.inl rfl))) (blkOk_by (N := N_law_is_pipe) (sc := defScope s_law_is_pipe) (by decide +kernel)) (fun _ _ _ _ _ => (sgv_name sc_law_is_pipe.nd rfl (by first | exact .inl rfl | exact .inr rfl) (by decide))) (fun _ _ _ _ _ => (sts_one (PW.pt (sw_or (st_not (st_val (se_call g_law_is_from hr (by omega) rfl takes0 (sa_cons (se_ix hr.units (se_var 7 rfl (by first | exact .inl rfl | exact .inr (.inl rfl))) se_int) (sa_cons (se_un un_neg snd_neg se_int) (sa_cons se_int sa_nil))) (mCons_len (mCons_len (mCons_len mNil_len)))))) (sw_or1 (st_cmp (op_eqD hr.units) snd_eq (se_ix hr.units (se_var 7 rfl (by first | exact .inl rfl | exact .inr (.inl rfl))) se_int) se_int (nomark _))))))) (fun _ _ _ _ _ => (se_var 7 rfl (by first | exact .inl rfl | exact .inr (.inl rfl))))) (se_lst sa_nil) (nomark _))))))))))
theorem o_law_is_one {f : Addr} {fd : FuncData} (F : L2.Fun K "_law_is_one" "_law_is_one" s_law_is_one f fd) (T : Txt K mg) (g_law_all_joined : Fn ⟨P, w, K, mg⟩ base "_law_all_joined" 1 2 m_law_all_joined) (g_law_is_from : Fn ⟨P, w, K, mg⟩ base "_law_is_from" 1 3 m_law_is_from) (g_law_is_pipe : Fn ⟨P, w, K, mg⟩ base "_law_is_pipe" 3 2 m_law_is_pipe) : FnG P w K mg base (L2.CX P w) 4 f fd ["_law_thing"] (spM ⟨P, w, K, mg⟩ 1 m_law_is_one) :=
  fn_ok (k := 3) F sc_law_is_one fun cdv A outer s H E hr => (sss_cons (ss_if (PW.pt (sw_or (st_not (st_val (se_isi1 rfl T.z_isinstance (se_var 0 rfl (.inl rfl)) rfl T.z_tuple (by decide +kernel) (by decide)))) (sw_or (st_cmp (op_neD hr.units) snd_ne (se_B call_lenA snd_len rfl T.z_len (by decide +kernel) (sa_cons (se_var 0 rfl (.inl rfl)) sa_nil)) se_int (nomark _)) (sw_or1 (st_not (st_val (se_call g_law_is_from hr (by omega) rfl (takes_of rfl rfl rfl rfl) (sa_cons (se_ix hr.units (se_var 0 rfl (.inl rfl)) se_int) (sa_cons se_int (sa_cons se_int sa_nil))) (mCons_len (mCons_len (mCons_len mNil_len)))))))))) (sss_one (ss_ret se_bl)) sss_nil)
    (sss_cons (ss_asg (se_var 0 rfl (.inl rfl)) (sg_tup rfl (sgs_cons (sg_name sc_law_is_one.nd rfl (.inr rfl)) (sgs_cons (sg_name sc_law_is_one.nd rfl (.inl rfl)) sgs_nil))))
    (sss_cons (ss_if (PW.pt (sw_or (st_not (st_val (se_isi1 rfl T.z_isinstance (se_var 2 rfl (.inl rfl)) rfl T.z_tuple (by decide +kernel) (by decide)))) (sw_or1 (st_cmp (op_neD hr.units) snd_ne (se_B call_lenA snd_len rfl T.z_len (by decide +kernel) (sa_cons (se_var 2 rfl (.inl rfl)) sa_nil)) (se_op op_sub snd_sub (se_var 1 rfl (.inr (.inl rfl))) se_int) (nomark _))))) (sss_one (ss_ret se_bl)) sss_nil)
    (sss_cons (ss_if (st_cmp (op_neE hr.units) snd_neE (se_lc (own := [("_law_pipe_here", 3)]) rfl sc_law_is_one.nd (si_seq (se_var 2 rfl (.inl rfl))) (blkOk_by (N := N_law_is_one) (sc := defScope s_law_is_one) (by decide +kernel)) (fun _ _ _ _ _ => (sgv_name sc_law_is_one.nd rfl (by first | exact .inl rfl | exact .inr rfl) (by decide))) (fun _ _ _ _ _ => (sts_one (st_not (st_val (se_call g_law_is_pipe hr (by omega) rfl takes0 (sa_cons (se_var 1 rfl (.inr (.inl rfl))) (sa_cons (se_var 3 rfl (by first | exact .inl rfl | exact .inr (.inl rfl))) sa_nil)) (mCons_len (mCons_len mNil_len))))))) (fun _ _ _ _ _ => (se_var 3 rfl (by first | exact .inl rfl | exact .inr (.inl rfl))))) (se_lst sa_nil) (nomark _)) (sss_one (ss_ret se_bl)) sss_nil)
    (sss_cons (ss_if (PW.pt (sw_or (st_cmp op_gt snd_cmpI (se_B (cr_sum rfl) snd_sum rfl T.z_sum (by decide +kernel) (sa_cons (se_lc (own := [("_law_pipe_here", 3)]) rfl sc_law_is_one.nd (si_seq (se_var 2 rfl (.inl rfl))) (blkOk_by (N := N_law_is_one) (sc := defScope s_law_is_one) (by decide +kernel)) (fun _ _ _ _ _ => (sgv_name sc_law_is_one.nd rfl (by first | exact .inl rfl | exact .inr rfl) (by decide))) (fun _ _ _ _ _ => sts_nil) (fun _ _ _ _ _ => (se_B call_lenA snd_len rfl T.z_len (by decide +kernel) (sa_cons (se_ix hr.units (se_var 3 rfl (by first | exact .inl rfl | exact .inr (.inl rfl))) se_int) sa_nil)))) sa_nil)) se_int (nomark _)) (sw_or1 (st_cmp op_gt snd_cmpI (se_B (cr_sum rfl) snd_sum rfl T.z_sum (by decide +kernel) (sa_cons (se_lc (own := [("_law_pipe_here", 3)]) rfl sc_law_is_one.nd (si_seq (se_var 2 rfl (.inl rfl))) (blkOk_by (N := N_law_is_one) (sc := defScope s_law_is_one) (by decide +kernel)) (fun _ _ _ _ _ => (sgv_name sc_law_is_one.nd rfl (by first | exact .inl rfl | exact .inr rfl) (by decide))) (fun _ _ _ _ _ => sts_nil) (fun _ _ _ _ _ => (se_B call_lenA snd_len rfl T.z_len (by decide +kernel) (sa_cons (se_ix hr.units (se_var 3 rfl (by first | exact .inl rfl | exact .inr (.inl rfl))) se_int) sa_nil)))) sa_nil)) se_int (nomark _))))) (sss_one (ss_ret se_bl)) sss_nil)
    (sss_one (ss_ret (se_call g_law_all_joined hr (by omega) rfl (takes_of rfl rfl rfl rfl) (sa_cons (se_var 1 rfl (.inr (.inl rfl))) (sa_cons (se_var 2 rfl (.inl rfl)) sa_nil)) (mCons_len (mCons_len mNil_len))))))))))
theorem o_law {f : Addr} {fd : FuncData} (F : L2.Fun K "law" "law" s_law f fd) (T : Txt K mg) (g_law_deck : Fn ⟨P, w, K, mg⟩ base "_law_deck" 1 1 m_law_deck) (g_law_same : Fn ⟨P, w, K, mg⟩ base "_law_same" 8 2 (m_law_same 8)) (g_law_edges : Fn ⟨P, w, K, mg⟩ base "_law_edges" 1 0 m_law_edges) (g_law_house : Fn ⟨P, w, K, mg⟩ base "_law_house" 6 4 m_law_house) (g_law_spoilt : Fn ⟨P, w, K, mg⟩ base "_law_spoilt" 4 2 m_law_spoilt) (g_is_house : Fn ⟨P, w, K, mg⟩ base "is_house" 6 1 m_is_house) (g_law_next : Fn ⟨P, w, K, mg⟩ base "_law_next" 1 2 m_law_next) (g_law_is_one : Fn ⟨P, w, K, mg⟩ base "_law_is_one" 4 1 m_law_is_one) (g_is_whole : Fn ⟨P, w, K, mg⟩ base "is_whole" 1 1 m_is_whole) : FnG P w K mg base (L2.CX P w) 9 f fd ["_law_script"] (spM ⟨P, w, K, mg⟩ 1 m_law) :=
  fn_ok (k := 8) F sc_law fun cdv A outer s H E hr => (sss_cons (ss_set (i := 1) sc_law.nd rfl (.inl rfl) (se_call g_law_deck hr (by omega) rfl (takes_of rfl rfl rfl rfl) (sa_cons (se_var 0 rfl (.inl rfl)) sa_nil) (mCons_len mNil_len)))
    (sss_cons (ss_set (i := 2) sc_law.nd rfl (.inl rfl) (se_op op_addA snd_add (se_call0 g_law_edges hr (by omega) rfl (takes_of rfl rfl rfl rfl)) (se_lst (sa_cons se_non (sa_cons se_bl (sa_cons se_int (sa_cons se_int (sa_cons se_str (sa_cons (se_tup sa_nil) (sa_cons (se_lst sa_nil) (sa_cons se_dicNew (sa_cons (se_tup (sa_cons se_int sa_nil)) (sa_cons (se_lst (sa_cons se_int (sa_cons (se_tup sa_nil) sa_nil))) (sa_cons (se_tup (sa_cons se_int (sa_cons (se_lst sa_nil) sa_nil))) (sa_cons (se_tup (sa_cons se_bl (sa_cons (se_tup sa_nil) sa_nil))) (sa_cons (se_tup (sa_cons se_str (sa_cons (se_tup sa_nil) sa_nil))) (sa_cons (se_tup (sa_cons se_int (sa_cons (se_tup sa_nil) (sa_cons (se_tup sa_nil) sa_nil)))) sa_nil)))))))))))))))))
    (sss_cons (ss_for (passes_of rfl) rfl (si_range1 rfl T.z_range (sa_cons se_int sa_nil)) (sg_name sc_law.nd rfl (.inl rfl)) (sss_cons (ss_set (i := 4) sc_law.nd rfl (.inl rfl) (se_call g_law_house hr (by omega) rfl (takes_of rfl rfl rfl rfl) (sa_cons (se_var 1 rfl (.inl rfl)) (sa_cons (se_ix hr.units (se_lst (sa_cons se_int (sa_cons se_int sa_nil))) (se_call g_law_next hr (by omega) rfl (takes_of rfl rfl rfl rfl) (sa_cons (se_var 1 rfl (.inl rfl)) (sa_cons se_int sa_nil)) (mCons_len (mCons_len mNil_len)))) (sa_cons (se_call g_law_next hr (by omega) rfl (takes_of rfl rfl rfl rfl) (sa_cons (se_var 1 rfl (.inl rfl)) (sa_cons se_int sa_nil)) (mCons_len (mCons_len mNil_len))) (sa_cons se_int sa_nil)))) (mCons_len (mCons_len (mCons_len (mCons_len mNil_len))))))
    (sss_cons (ss_set (i := 5) sc_law.nd rfl (.inl rfl) (se_call g_law_spoilt hr (by omega) rfl (takes_of rfl rfl rfl rfl) (sa_cons (se_var 1 rfl (.inl rfl)) (sa_cons (se_var 4 rfl (.inl rfl)) sa_nil)) (mCons_len (mCons_len mNil_len))))
    (sss_cons (ss_set (i := 2) sc_law.nd rfl (.inl rfl) (se_op op_addA snd_add (se_var 2 rfl (.inl rfl)) (se_lst (sa_cons (se_var 4 rfl (.inl rfl)) (sa_cons (se_var 5 rfl (.inl rfl)) (sa_cons (se_call g_law_spoilt hr (by omega) rfl (takes_of rfl rfl rfl rfl) (sa_cons (se_var 1 rfl (.inl rfl)) (sa_cons (se_var 4 rfl (.inl rfl)) sa_nil)) (mCons_len (mCons_len mNil_len))) (sa_cons (se_call g_law_spoilt hr (by omega) rfl (takes_of rfl rfl rfl rfl) (sa_cons (se_var 1 rfl (.inl rfl)) (sa_cons (se_var 5 rfl (.inl rfl)) sa_nil)) (mCons_len (mCons_len mNil_len))) sa_nil)))))))
    (sss_one (ss_if (st_not (st_val (se_call g_is_house hr (by omega) rfl (takes_of rfl rfl rfl rfl) (sa_cons (se_var 4 rfl (.inl rfl)) sa_nil) (mCons_len mNil_len)))) (sss_one (ss_ret se_bl)) sss_nil))))))
    (sss_cons (ss_for (passes_of rfl) rfl (si_seq (se_var 2 rfl (.inl rfl))) (sg_name sc_law.nd rfl (.inl rfl)) (sss_cons (ss_set (i := 7) sc_law.nd rfl (.inl rfl) (se_B (cr_repr hr.gd hr.units) snd_repr rfl T.z_repr (by decide +kernel) (sa_cons (se_var 6 rfl (.inl rfl)) sa_nil)))
    (sss_cons (ss_set (i := 8) sc_law.nd rfl (.inl rfl) (se_call g_is_house hr (by omega) rfl (takes_of rfl rfl rfl rfl) (sa_cons (se_var 6 rfl (.inl rfl)) sa_nil) (mCons_len mNil_len)))
    (sss_cons (ss_if (PW.pt (sw_or (st_not (st_val (se_isi1 rfl T.z_isinstance (se_var 8 rfl (.inl rfl)) rfl T.z_bool (by decide +kernel) (by decide)))) (sw_or (st_cmp (op_neD hr.units) snd_ne (se_var 8 rfl (.inl rfl)) (se_call g_law_is_one hr (by omega) rfl (takes_of rfl rfl rfl rfl) (sa_cons (se_var 6 rfl (.inl rfl)) sa_nil) (mCons_len mNil_len)) (nomark _)) (sw_or1 (st_cmp op_ne snd_neT (se_B (cr_repr hr.gd hr.units) snd_repr rfl T.z_repr (by decide +kernel) (sa_cons (se_var 6 rfl (.inl rfl)) sa_nil)) (se_var 7 rfl (.inl rfl)) (nomark _)))))) (sss_one (ss_ret se_bl)) sss_nil)
    (sss_one (ss_if (st_cmp op_ne snd_neT (se_B (cr_repr hr.gd hr.units) snd_repr rfl T.z_repr (by decide +kernel) (sa_cons (se_call g_is_whole hr (by omega) rfl (takes_of rfl rfl rfl rfl) (sa_cons (se_var 6 rfl (.inl rfl)) sa_nil) (mCons_len mNil_len)) sa_nil)) (se_B (cr_repr hr.gd hr.units) snd_repr rfl T.z_repr (by decide +kernel) (sa_cons (se_and (se_isi1 rfl T.z_isinstance (se_var 6 rfl (.inl rfl)) rfl T.z_int (by decide +kernel) (by decide)) (se_one (se_not (se_isi1 rfl T.z_isinstance (se_var 6 rfl (.inl rfl)) rfl T.z_bool (by decide +kernel) (by decide))))) sa_nil)) (nomark _)) (sss_one (ss_ret se_bl)) sss_nil))))))
    (sss_cons (ss_if (st_not (st_val (se_call g_law_same hr (by omega) rfl (takes_of rfl rfl rfl rfl) (sa_cons (se_tup (sa_cons (T.c_ROOMS.elim fun _ hc => se_globI rfl hc) (sa_cons (T.c_LONG.elim fun _ hc => se_globI rfl hc) (sa_cons (T.c_WIDE.elim fun _ hc => se_globI rfl hc) (sa_cons (T.c_NARROWS.elim fun _ hc => se_globI rfl hc) (sa_cons (T.c_FLAPS.elim fun _ hc => se_globI rfl hc) sa_nil)))))) (sa_cons (se_tup (sa_cons se_int (sa_cons (se_op op_pow snd_pow se_int se_int) (sa_cons (se_op op_pow snd_pow se_int se_int) (sa_cons se_int (sa_cons se_int sa_nil)))))) sa_nil)) (mCons_len (mCons_len mNil_len))))) (sss_one (ss_ret se_bl)) sss_nil)
    (sss_one (ss_ret (se_call g_law_same hr (by omega) rfl (takes_of rfl rfl rfl rfl) (sa_cons (se_tup (sa_cons (T.c_REACH.elim fun _ hc => se_globI rfl hc) (sa_cons (T.c_KNOTS.elim fun _ hc => se_globI rfl hc) (sa_cons (T.c_TAIL.elim fun _ hc => se_globI rfl hc) (sa_cons (T.c_HEAD.elim fun _ hc => se_globI rfl hc) sa_nil))))) (sa_cons (se_tup (sa_cons (se_op op_pow snd_pow se_int se_int) (sa_cons se_int (sa_cons se_int (sa_cons se_int sa_nil))))) sa_nil)) (mCons_len (mCons_len mNil_len))))))))))
end
theorem all_mk {l : PySem.W.OpenLaw} {w : World} {K : PySem.W.Frag} {h : Heap} {mg : Str → Option Value} {fa : Addr} (X : K.In h) (G : h.Ns mainGlobals mg) (hfa : mg "law" = some (.ref fa)) {f_law_deck : Addr} {od_law_deck an_law_deck : Option Addr} {sl_law_deck : Array (Option Value)} {oc_law_deck kV_law_deck dc_law_deck pm_law_deck cd_law_deck ct_law_deck : Value} {f_law_same : Addr} {od_law_same an_law_same : Option Addr} {sl_law_same : Array (Option Value)} {oc_law_same kV_law_same dc_law_same pm_law_same cd_law_same ct_law_same : Value} {f_law_edges : Addr} {od_law_edges an_law_edges : Option Addr} {sl_law_edges : Array (Option Value)} {oc_law_edges kV_law_edges dc_law_edges pm_law_edges cd_law_edges ct_law_edges : Value} {f_law_next : Addr} {od_law_next an_law_next : Option Addr} {sl_law_next : Array (Option Value)} {oc_law_next kV_law_next dc_law_next pm_law_next cd_law_next ct_law_next : Value} {f_law_one : Addr} {od_law_one an_law_one : Option Addr} {sl_law_one : Array (Option Value)} {oc_law_one kV_law_one dc_law_one pm_law_one cd_law_one ct_law_one : Value} {f_law_length : Addr} {od_law_length an_law_length : Option Addr} {sl_law_length : Array (Option Value)} {oc_law_length kV_law_length dc_law_length pm_law_length cd_law_length ct_law_length : Value} {f_law_edge : Addr} {od_law_edge an_law_edge : Option Addr} {sl_law_edge : Array (Option Value)} {oc_law_edge kV_law_edge dc_law_edge pm_law_edge cd_law_edge ct_law_edge : Value} {f_law_spots : Addr} {od_law_spots an_law_spots : Option Addr} {sl_law_spots : Array (Option Value)} {oc_law_spots kV_law_spots dc_law_spots pm_law_spots cd_law_spots ct_law_spots : Value} {f_law_pipe : Addr} {od_law_pipe an_law_pipe : Option Addr} {sl_law_pipe : Array (Option Value)} {oc_law_pipe kV_law_pipe dc_law_pipe pm_law_pipe cd_law_pipe ct_law_pipe : Value} {f_law_house : Addr} {od_law_house an_law_house : Option Addr} {sl_law_house : Array (Option Value)} {oc_law_house kV_law_house dc_law_house pm_law_house cd_law_house ct_law_house : Value} {f_law_odd : Addr} {od_law_odd an_law_odd : Option Addr} {sl_law_odd : Array (Option Value)} {oc_law_odd kV_law_odd dc_law_odd pm_law_odd cd_law_odd ct_law_odd : Value} {f_law_otherwise : Addr} {od_law_otherwise an_law_otherwise : Option Addr} {sl_law_otherwise : Array (Option Value)} {oc_law_otherwise kV_law_otherwise dc_law_otherwise pm_law_otherwise cd_law_otherwise ct_law_otherwise : Value} {f_law_spoilt : Addr} {od_law_spoilt an_law_spoilt : Option Addr} {sl_law_spoilt : Array (Option Value)} {oc_law_spoilt kV_law_spoilt dc_law_spoilt pm_law_spoilt cd_law_spoilt ct_law_spoilt : Value} {f_is_joined : Addr} {od_is_joined an_is_joined : Option Addr} {sl_is_joined : Array (Option Value)} {oc_is_joined kV_is_joined dc_is_joined pm_is_joined cd_is_joined ct_is_joined : Value} {f_is_whole : Addr} {od_is_whole an_is_whole : Option Addr} {sl_is_whole : Array (Option Value)} {oc_is_whole kV_is_whole dc_is_whole pm_is_whole cd_is_whole ct_is_whole : Value} {f_is_from : Addr} {od_is_from an_is_from : Option Addr} {sl_is_from : Array (Option Value)} {oc_is_from kV_is_from dc_is_from pm_is_from cd_is_from ct_is_from : Value} {f_is_pair : Addr} {od_is_pair an_is_pair : Option Addr} {sl_is_pair : Array (Option Value)} {oc_is_pair kV_is_pair dc_is_pair pm_is_pair cd_is_pair ct_is_pair : Value} {f_is_size : Addr} {od_is_size an_is_size : Option Addr} {sl_is_size : Array (Option Value)} {oc_is_size kV_is_size dc_is_size pm_is_size cd_is_size ct_is_size : Value} {f_is_course : Addr} {od_is_course an_is_course : Option Addr} {sl_is_course : Array (Option Value)} {oc_is_course kV_is_course dc_is_course pm_is_course cd_is_course ct_is_course : Value} {f_are_pairs : Addr} {od_are_pairs an_are_pairs : Option Addr} {sl_are_pairs : Array (Option Value)} {oc_are_pairs kV_are_pairs dc_are_pairs pm_are_pairs cd_are_pairs ct_are_pairs : Value} {f_is_pipe : Addr} {od_is_pipe an_is_pipe : Option Addr} {sl_is_pipe : Array (Option Value)} {oc_is_pipe kV_is_pipe dc_is_pipe pm_is_pipe cd_is_pipe ct_is_pipe : Value} {f_is_house : Addr} {od_is_house an_is_house : Option Addr} {sl_is_house : Array (Option Value)} {oc_is_house kV_is_house dc_is_house pm_is_house cd_is_house ct_is_house : Value} {f_law_all_joined : Addr} {od_law_all_joined an_law_all_joined : Option Addr} {sl_law_all_joined : Array (Option Value)} {oc_law_all_joined kV_law_all_joined dc_law_all_joined pm_law_all_joined cd_law_all_joined ct_law_all_joined : Value} {f_law_is_from : Addr} {od_law_is_from an_law_is_from : Option Addr} {sl_law_is_from : Array (Option Value)} {oc_law_is_from kV_law_is_from dc_law_is_from pm_law_is_from cd_law_is_from ct_law_is_from : Value} {f_law_are_pairs : Addr} {od_law_are_pairs an_law_are_pairs : Option Addr} {sl_law_are_pairs : Array (Option Value)} {oc_law_are_pairs kV_law_are_pairs dc_law_are_pairs pm_law_are_pairs cd_law_are_pairs ct_law_are_pairs : Value} {f_law_is_pipe : Addr} {od_law_is_pipe an_law_is_pipe : Option Addr} {sl_law_is_pipe : Array (Option Value)} {oc_law_is_pipe kV_law_is_pipe dc_law_is_pipe pm_law_is_pipe cd_law_is_pipe ct_law_is_pipe : Value} {f_law_is_one : Addr} {od_law_is_one an_law_is_one : Option Addr} {sl_law_is_one : Array (Option Value)} {oc_law_is_one kV_law_is_one dc_law_is_one pm_law_is_one cd_law_is_one ct_law_is_one : Value} {f_law : Addr} {od_law an_law : Option Addr} {sl_law : Array (Option Value)} {oc_law kV_law dc_law pm_law cd_law ct_law : Value} {t_FLAPS : Tok} {t_HEAD : Tok} {t_KNOTS : Tok} {t_LONG : Tok} {t_NARROWS : Tok} {t_REACH : Tok} {t_ROOMS : Tok} {t_TAIL : Tok} {t_WIDE : Tok}
    (a_law_deck : PySem.W.nsIn K mainGlobals "_law_deck" = some (some (.ref f_law_deck)))
    (l_law_deck : K.lookup f_law_deck = some ⟨oc_law_deck, od_law_deck, .func (PySem.W.fnOf "_law_deck" "_law_deck" (defArgs s_law_deck) (defBody s_law_deck) (defScope s_law_deck) .none kV_law_deck dc_law_deck pm_law_deck an_law_deck cd_law_deck ct_law_deck), sl_law_deck⟩)
    (c_law_deck : PySem.W.codeIn K cd_law_deck "_law_deck" = true)
    (k_law_deck : PySem.W.keepIn K (.ref f_law_deck) = true)
    (a_law_same : PySem.W.nsIn K mainGlobals "_law_same" = some (some (.ref f_law_same)))
    (l_law_same : K.lookup f_law_same = some ⟨oc_law_same, od_law_same, .func (PySem.W.fnOf "_law_same" "_law_same" (defArgs s_law_same) (defBody s_law_same) (defScope s_law_same) .none kV_law_same dc_law_same pm_law_same an_law_same cd_law_same ct_law_same), sl_law_same⟩)
    (c_law_same : PySem.W.codeIn K cd_law_same "_law_same" = true)
    (k_law_same : PySem.W.keepIn K (.ref f_law_same) = true)
    (a_law_edges : PySem.W.nsIn K mainGlobals "_law_edges" = some (some (.ref f_law_edges)))
    (l_law_edges : K.lookup f_law_edges = some ⟨oc_law_edges, od_law_edges, .func (PySem.W.fnOf "_law_edges" "_law_edges" (defArgs s_law_edges) (defBody s_law_edges) (defScope s_law_edges) .none kV_law_edges dc_law_edges pm_law_edges an_law_edges cd_law_edges ct_law_edges), sl_law_edges⟩)
    (c_law_edges : PySem.W.codeIn K cd_law_edges "_law_edges" = true)
    (k_law_edges : PySem.W.keepIn K (.ref f_law_edges) = true)
    (a_law_next : PySem.W.nsIn K mainGlobals "_law_next" = some (some (.ref f_law_next)))
    (l_law_next : K.lookup f_law_next = some ⟨oc_law_next, od_law_next, .func (PySem.W.fnOf "_law_next" "_law_next" (defArgs s_law_next) (defBody s_law_next) (defScope s_law_next) .none kV_law_next dc_law_next pm_law_next an_law_next cd_law_next ct_law_next), sl_law_next⟩)
    (c_law_next : PySem.W.codeIn K cd_law_next "_law_next" = true)
    (k_law_next : PySem.W.keepIn K (.ref f_law_next) = true)
    (a_law_one : PySem.W.nsIn K mainGlobals "_law_one" = some (some (.ref f_law_one)))
    (l_law_one : K.lookup f_law_one = some ⟨oc_law_one, od_law_one, .func (PySem.W.fnOf "_law_one" "_law_one" (defArgs s_law_one) (defBody s_law_one) (defScope s_law_one) .none kV_law_one dc_law_one pm_law_one an_law_one cd_law_one ct_law_one), sl_law_one⟩)
    (c_law_one : PySem.W.codeIn K cd_law_one "_law_one" = true)
    (k_law_one : PySem.W.keepIn K (.ref f_law_one) = true)
    (a_law_length : PySem.W.nsIn K mainGlobals "_law_length" = some (some (.ref f_law_length)))
    (l_law_length : K.lookup f_law_length = some ⟨oc_law_length, od_law_length, .func (PySem.W.fnOf "_law_length" "_law_length" (defArgs s_law_length) (defBody s_law_length) (defScope s_law_length) .none kV_law_length dc_law_length pm_law_length an_law_length cd_law_length ct_law_length), sl_law_length⟩)
    (c_law_length : PySem.W.codeIn K cd_law_length "_law_length" = true)
    (k_law_length : PySem.W.keepIn K (.ref f_law_length) = true)
    (a_law_edge : PySem.W.nsIn K mainGlobals "_law_edge" = some (some (.ref f_law_edge)))
    (l_law_edge : K.lookup f_law_edge = some ⟨oc_law_edge, od_law_edge, .func (PySem.W.fnOf "_law_edge" "_law_edge" (defArgs s_law_edge) (defBody s_law_edge) (defScope s_law_edge) .none kV_law_edge dc_law_edge pm_law_edge an_law_edge cd_law_edge ct_law_edge), sl_law_edge⟩)
    (c_law_edge : PySem.W.codeIn K cd_law_edge "_law_edge" = true)
    (k_law_edge : PySem.W.keepIn K (.ref f_law_edge) = true)
    (a_law_spots : PySem.W.nsIn K mainGlobals "_law_spots" = some (some (.ref f_law_spots)))
    (l_law_spots : K.lookup f_law_spots = some ⟨oc_law_spots, od_law_spots, .func (PySem.W.fnOf "_law_spots" "_law_spots" (defArgs s_law_spots) (defBody s_law_spots) (defScope s_law_spots) .none kV_law_spots dc_law_spots pm_law_spots an_law_spots cd_law_spots ct_law_spots), sl_law_spots⟩)
    (c_law_spots : PySem.W.codeIn K cd_law_spots "_law_spots" = true)
    (k_law_spots : PySem.W.keepIn K (.ref f_law_spots) = true)
    (a_law_pipe : PySem.W.nsIn K mainGlobals "_law_pipe" = some (some (.ref f_law_pipe)))
    (l_law_pipe : K.lookup f_law_pipe = some ⟨oc_law_pipe, od_law_pipe, .func (PySem.W.fnOf "_law_pipe" "_law_pipe" (defArgs s_law_pipe) (defBody s_law_pipe) (defScope s_law_pipe) .none kV_law_pipe dc_law_pipe pm_law_pipe an_law_pipe cd_law_pipe ct_law_pipe), sl_law_pipe⟩)
    (c_law_pipe : PySem.W.codeIn K cd_law_pipe "_law_pipe" = true)
    (k_law_pipe : PySem.W.keepIn K (.ref f_law_pipe) = true)
    (a_law_house : PySem.W.nsIn K mainGlobals "_law_house" = some (some (.ref f_law_house)))
    (l_law_house : K.lookup f_law_house = some ⟨oc_law_house, od_law_house, .func (PySem.W.fnOf "_law_house" "_law_house" (defArgs s_law_house) (defBody s_law_house) (defScope s_law_house) .none kV_law_house dc_law_house pm_law_house an_law_house cd_law_house ct_law_house), sl_law_house⟩)
    (c_law_house : PySem.W.codeIn K cd_law_house "_law_house" = true)
    (k_law_house : PySem.W.keepIn K (.ref f_law_house) = true)
    (a_law_odd : PySem.W.nsIn K mainGlobals "_law_odd" = some (some (.ref f_law_odd)))
    (l_law_odd : K.lookup f_law_odd = some ⟨oc_law_odd, od_law_odd, .func (PySem.W.fnOf "_law_odd" "_law_odd" (defArgs s_law_odd) (defBody s_law_odd) (defScope s_law_odd) .none kV_law_odd dc_law_odd pm_law_odd an_law_odd cd_law_odd ct_law_odd), sl_law_odd⟩)
    (c_law_odd : PySem.W.codeIn K cd_law_odd "_law_odd" = true)
    (k_law_odd : PySem.W.keepIn K (.ref f_law_odd) = true)
    (a_law_otherwise : PySem.W.nsIn K mainGlobals "_law_otherwise" = some (some (.ref f_law_otherwise)))
    (l_law_otherwise : K.lookup f_law_otherwise = some ⟨oc_law_otherwise, od_law_otherwise, .func (PySem.W.fnOf "_law_otherwise" "_law_otherwise" (defArgs s_law_otherwise) (defBody s_law_otherwise) (defScope s_law_otherwise) .none kV_law_otherwise dc_law_otherwise pm_law_otherwise an_law_otherwise cd_law_otherwise ct_law_otherwise), sl_law_otherwise⟩)
    (c_law_otherwise : PySem.W.codeIn K cd_law_otherwise "_law_otherwise" = true)
    (k_law_otherwise : PySem.W.keepIn K (.ref f_law_otherwise) = true)
    (a_law_spoilt : PySem.W.nsIn K mainGlobals "_law_spoilt" = some (some (.ref f_law_spoilt)))
    (l_law_spoilt : K.lookup f_law_spoilt = some ⟨oc_law_spoilt, od_law_spoilt, .func (PySem.W.fnOf "_law_spoilt" "_law_spoilt" (defArgs s_law_spoilt) (defBody s_law_spoilt) (defScope s_law_spoilt) .none kV_law_spoilt dc_law_spoilt pm_law_spoilt an_law_spoilt cd_law_spoilt ct_law_spoilt), sl_law_spoilt⟩)
    (c_law_spoilt : PySem.W.codeIn K cd_law_spoilt "_law_spoilt" = true)
    (k_law_spoilt : PySem.W.keepIn K (.ref f_law_spoilt) = true)
    (a_is_joined : PySem.W.nsIn K mainGlobals "is_joined" = some (some (.ref f_is_joined)))
    (l_is_joined : K.lookup f_is_joined = some ⟨oc_is_joined, od_is_joined, .func (PySem.W.fnOf "is_joined" "is_joined" (defArgs s_is_joined) (defBody s_is_joined) (defScope s_is_joined) .none kV_is_joined dc_is_joined pm_is_joined an_is_joined cd_is_joined ct_is_joined), sl_is_joined⟩)
    (c_is_joined : PySem.W.codeIn K cd_is_joined "is_joined" = true)
    (k_is_joined : PySem.W.keepIn K (.ref f_is_joined) = true)
    (a_is_whole : PySem.W.nsIn K mainGlobals "is_whole" = some (some (.ref f_is_whole)))
    (l_is_whole : K.lookup f_is_whole = some ⟨oc_is_whole, od_is_whole, .func (PySem.W.fnOf "is_whole" "is_whole" (defArgs s_is_whole) (defBody s_is_whole) (defScope s_is_whole) .none kV_is_whole dc_is_whole pm_is_whole an_is_whole cd_is_whole ct_is_whole), sl_is_whole⟩)
    (c_is_whole : PySem.W.codeIn K cd_is_whole "is_whole" = true)
    (k_is_whole : PySem.W.keepIn K (.ref f_is_whole) = true)
    (a_is_from : PySem.W.nsIn K mainGlobals "is_from" = some (some (.ref f_is_from)))
    (l_is_from : K.lookup f_is_from = some ⟨oc_is_from, od_is_from, .func (PySem.W.fnOf "is_from" "is_from" (defArgs s_is_from) (defBody s_is_from) (defScope s_is_from) .none kV_is_from dc_is_from pm_is_from an_is_from cd_is_from ct_is_from), sl_is_from⟩)
    (c_is_from : PySem.W.codeIn K cd_is_from "is_from" = true)
    (k_is_from : PySem.W.keepIn K (.ref f_is_from) = true)
    (a_is_pair : PySem.W.nsIn K mainGlobals "is_pair" = some (some (.ref f_is_pair)))
    (l_is_pair : K.lookup f_is_pair = some ⟨oc_is_pair, od_is_pair, .func (PySem.W.fnOf "is_pair" "is_pair" (defArgs s_is_pair) (defBody s_is_pair) (defScope s_is_pair) .none kV_is_pair dc_is_pair pm_is_pair an_is_pair cd_is_pair ct_is_pair), sl_is_pair⟩)
    (c_is_pair : PySem.W.codeIn K cd_is_pair "is_pair" = true)
    (k_is_pair : PySem.W.keepIn K (.ref f_is_pair) = true)
    (a_is_size : PySem.W.nsIn K mainGlobals "is_size" = some (some (.ref f_is_size)))
    (l_is_size : K.lookup f_is_size = some ⟨oc_is_size, od_is_size, .func (PySem.W.fnOf "is_size" "is_size" (defArgs s_is_size) (defBody s_is_size) (defScope s_is_size) .none kV_is_size dc_is_size pm_is_size an_is_size cd_is_size ct_is_size), sl_is_size⟩)
    (c_is_size : PySem.W.codeIn K cd_is_size "is_size" = true)
    (k_is_size : PySem.W.keepIn K (.ref f_is_size) = true)
    (a_is_course : PySem.W.nsIn K mainGlobals "is_course" = some (some (.ref f_is_course)))
    (l_is_course : K.lookup f_is_course = some ⟨oc_is_course, od_is_course, .func (PySem.W.fnOf "is_course" "is_course" (defArgs s_is_course) (defBody s_is_course) (defScope s_is_course) .none kV_is_course dc_is_course pm_is_course an_is_course cd_is_course ct_is_course), sl_is_course⟩)
    (c_is_course : PySem.W.codeIn K cd_is_course "is_course" = true)
    (k_is_course : PySem.W.keepIn K (.ref f_is_course) = true)
    (a_are_pairs : PySem.W.nsIn K mainGlobals "are_pairs" = some (some (.ref f_are_pairs)))
    (l_are_pairs : K.lookup f_are_pairs = some ⟨oc_are_pairs, od_are_pairs, .func (PySem.W.fnOf "are_pairs" "are_pairs" (defArgs s_are_pairs) (defBody s_are_pairs) (defScope s_are_pairs) .none kV_are_pairs dc_are_pairs pm_are_pairs an_are_pairs cd_are_pairs ct_are_pairs), sl_are_pairs⟩)
    (c_are_pairs : PySem.W.codeIn K cd_are_pairs "are_pairs" = true)
    (k_are_pairs : PySem.W.keepIn K (.ref f_are_pairs) = true)
    (a_is_pipe : PySem.W.nsIn K mainGlobals "is_pipe" = some (some (.ref f_is_pipe)))
    (l_is_pipe : K.lookup f_is_pipe = some ⟨oc_is_pipe, od_is_pipe, .func (PySem.W.fnOf "is_pipe" "is_pipe" (defArgs s_is_pipe) (defBody s_is_pipe) (defScope s_is_pipe) .none kV_is_pipe dc_is_pipe pm_is_pipe an_is_pipe cd_is_pipe ct_is_pipe), sl_is_pipe⟩)
    (c_is_pipe : PySem.W.codeIn K cd_is_pipe "is_pipe" = true)
    (k_is_pipe : PySem.W.keepIn K (.ref f_is_pipe) = true)
    (a_is_house : PySem.W.nsIn K mainGlobals "is_house" = some (some (.ref f_is_house)))
    (l_is_house : K.lookup f_is_house = some ⟨oc_is_house, od_is_house, .func (PySem.W.fnOf "is_house" "is_house" (defArgs s_is_house) (defBody s_is_house) (defScope s_is_house) .none kV_is_house dc_is_house pm_is_house an_is_house cd_is_house ct_is_house), sl_is_house⟩)
    (c_is_house : PySem.W.codeIn K cd_is_house "is_house" = true)
    (k_is_house : PySem.W.keepIn K (.ref f_is_house) = true)
    (a_law_all_joined : PySem.W.nsIn K mainGlobals "_law_all_joined" = some (some (.ref f_law_all_joined)))
    (l_law_all_joined : K.lookup f_law_all_joined = some ⟨oc_law_all_joined, od_law_all_joined, .func (PySem.W.fnOf "_law_all_joined" "_law_all_joined" (defArgs s_law_all_joined) (defBody s_law_all_joined) (defScope s_law_all_joined) .none kV_law_all_joined dc_law_all_joined pm_law_all_joined an_law_all_joined cd_law_all_joined ct_law_all_joined), sl_law_all_joined⟩)
    (c_law_all_joined : PySem.W.codeIn K cd_law_all_joined "_law_all_joined" = true)
    (k_law_all_joined : PySem.W.keepIn K (.ref f_law_all_joined) = true)
    (a_law_is_from : PySem.W.nsIn K mainGlobals "_law_is_from" = some (some (.ref f_law_is_from)))
    (l_law_is_from : K.lookup f_law_is_from = some ⟨oc_law_is_from, od_law_is_from, .func (PySem.W.fnOf "_law_is_from" "_law_is_from" (defArgs s_law_is_from) (defBody s_law_is_from) (defScope s_law_is_from) .none kV_law_is_from dc_law_is_from pm_law_is_from an_law_is_from cd_law_is_from ct_law_is_from), sl_law_is_from⟩)
    (c_law_is_from : PySem.W.codeIn K cd_law_is_from "_law_is_from" = true)
    (k_law_is_from : PySem.W.keepIn K (.ref f_law_is_from) = true)
    (a_law_are_pairs : PySem.W.nsIn K mainGlobals "_law_are_pairs" = some (some (.ref f_law_are_pairs)))
    (l_law_are_pairs : K.lookup f_law_are_pairs = some ⟨oc_law_are_pairs, od_law_are_pairs, .func (PySem.W.fnOf "_law_are_pairs" "_law_are_pairs" (defArgs s_law_are_pairs) (defBody s_law_are_pairs) (defScope s_law_are_pairs) .none kV_law_are_pairs dc_law_are_pairs pm_law_are_pairs an_law_are_pairs cd_law_are_pairs ct_law_are_pairs), sl_law_are_pairs⟩)
    (c_law_are_pairs : PySem.W.codeIn K cd_law_are_pairs "_law_are_pairs" = true)
    (k_law_are_pairs : PySem.W.keepIn K (.ref f_law_are_pairs) = true)
    (a_law_is_pipe : PySem.W.nsIn K mainGlobals "_law_is_pipe" = some (some (.ref f_law_is_pipe)))
    (l_law_is_pipe : K.lookup f_law_is_pipe = some ⟨oc_law_is_pipe, od_law_is_pipe, .func (PySem.W.fnOf "_law_is_pipe" "_law_is_pipe" (defArgs s_law_is_pipe) (defBody s_law_is_pipe) (defScope s_law_is_pipe) .none kV_law_is_pipe dc_law_is_pipe pm_law_is_pipe an_law_is_pipe cd_law_is_pipe ct_law_is_pipe), sl_law_is_pipe⟩)
    (c_law_is_pipe : PySem.W.codeIn K cd_law_is_pipe "_law_is_pipe" = true)
    (k_law_is_pipe : PySem.W.keepIn K (.ref f_law_is_pipe) = true)
    (a_law_is_one : PySem.W.nsIn K mainGlobals "_law_is_one" = some (some (.ref f_law_is_one)))
    (l_law_is_one : K.lookup f_law_is_one = some ⟨oc_law_is_one, od_law_is_one, .func (PySem.W.fnOf "_law_is_one" "_law_is_one" (defArgs s_law_is_one) (defBody s_law_is_one) (defScope s_law_is_one) .none kV_law_is_one dc_law_is_one pm_law_is_one an_law_is_one cd_law_is_one ct_law_is_one), sl_law_is_one⟩)
    (c_law_is_one : PySem.W.codeIn K cd_law_is_one "_law_is_one" = true)
    (k_law_is_one : PySem.W.keepIn K (.ref f_law_is_one) = true)
    (a_law : PySem.W.nsIn K mainGlobals "law" = some (some (.ref f_law)))
    (l_law : K.lookup f_law = some ⟨oc_law, od_law, .func (PySem.W.fnOf "law" "law" (defArgs s_law) (defBody s_law) (defScope s_law) .none kV_law dc_law pm_law an_law cd_law ct_law), sl_law⟩)
    (c_law : PySem.W.codeIn K cd_law "law" = true)
    (k_law : PySem.W.keepIn K (.ref f_law) = true)
    (z_abs : PySem.W.nsIn K mainGlobals "abs" = some none)
    (z_all : PySem.W.nsIn K mainGlobals "all" = some none)
    (z_bool : PySem.W.nsIn K mainGlobals "bool" = some none)
    (z_int : PySem.W.nsIn K mainGlobals "int" = some none)
    (z_isinstance : PySem.W.nsIn K mainGlobals "isinstance" = some none)
    (z_len : PySem.W.nsIn K mainGlobals "len" = some none)
    (z_list : PySem.W.nsIn K mainGlobals "list" = some none)
    (z_min : PySem.W.nsIn K mainGlobals "min" = some none)
    (z_range : PySem.W.nsIn K mainGlobals "range" = some none)
    (z_repr : PySem.W.nsIn K mainGlobals "repr" = some none)
    (z_reversed : PySem.W.nsIn K mainGlobals "reversed" = some none)
    (z_set : PySem.W.nsIn K mainGlobals "set" = some none)
    (z_sorted : PySem.W.nsIn K mainGlobals "sorted" = some none)
    (z_str : PySem.W.nsIn K mainGlobals "str" = some none)
    (z_sum : PySem.W.nsIn K mainGlobals "sum" = some none)
    (z_tuple : PySem.W.nsIn K mainGlobals "tuple" = some none)
    (c_FLAPS : PySem.W.nsIn K mainGlobals "FLAPS" = some (some (.int 6 t_FLAPS)))
    (c_HEAD : PySem.W.nsIn K mainGlobals "HEAD" = some (some (.int 1 t_HEAD)))
    (c_KNOTS : PySem.W.nsIn K mainGlobals "KNOTS" = some (some (.int 4 t_KNOTS)))
    (c_LONG : PySem.W.nsIn K mainGlobals "LONG" = some (some (.int 1000000000000 t_LONG)))
    (c_NARROWS : PySem.W.nsIn K mainGlobals "NARROWS" = some (some (.int 12 t_NARROWS)))
    (c_REACH : PySem.W.nsIn K mainGlobals "REACH" = some (some (.int 100000000000000 t_REACH)))
    (c_ROOMS : PySem.W.nsIn K mainGlobals "ROOMS" = some (some (.int 16 t_ROOMS)))
    (c_TAIL : PySem.W.nsIn K mainGlobals "TAIL" = some (some (.int 0 t_TAIL)))
    (c_WIDE : PySem.W.nsIn K mainGlobals "WIDE" = some (some (.int 1000000 t_WIDE)))
    (math : ∀ ns : List Int, ns.length ≤ 63 → ∃ μ, m_law [.frl (ns.map D.int)] [] = .ok (.bl true) μ) :
    ∃ fd : FuncData, (∀ (s : Shared) (v : Value), BindsTo s fd ⟨[v], []⟩ [("_law_script", v)]) ∧ ∀ base : Heap, K.In base → base.Ns mainGlobals mg → FnG l.prog w K mg base (L2.CX l.prog w) 9 fa fd ["_law_script"] (spLaw K) := by
  have e := hfa.symm.trans (PySem.W.mg_of X G a_law)
  cases e
  have T : Txt K mg := ⟨PySem.W.mg_none_of X G z_abs, PySem.W.mg_none_of X G z_all, PySem.W.mg_none_of X G z_bool, PySem.W.mg_none_of X G z_int, PySem.W.mg_none_of X G z_isinstance, PySem.W.mg_none_of X G z_len, PySem.W.mg_none_of X G z_list, PySem.W.mg_none_of X G z_min, PySem.W.mg_none_of X G z_range, PySem.W.mg_none_of X G z_repr, PySem.W.mg_none_of X G z_reversed, PySem.W.mg_none_of X G z_set, PySem.W.mg_none_of X G z_sorted, PySem.W.mg_none_of X G z_str, PySem.W.mg_none_of X G z_sum, PySem.W.mg_none_of X G z_tuple, ⟨_, PySem.W.mg_of X G c_FLAPS⟩, ⟨_, PySem.W.mg_of X G c_HEAD⟩, ⟨_, PySem.W.mg_of X G c_KNOTS⟩, ⟨_, PySem.W.mg_of X G c_LONG⟩, ⟨_, PySem.W.mg_of X G c_NARROWS⟩, ⟨_, PySem.W.mg_of X G c_REACH⟩, ⟨_, PySem.W.mg_of X G c_ROOMS⟩, ⟨_, PySem.W.mg_of X G c_TAIL⟩, ⟨_, PySem.W.mg_of X G c_WIDE⟩⟩
  have F_law_deck := fun_mk (st := s_law_deck) l_law_deck c_law_deck k_law_deck
  have b_law_deck := F_law_deck.binds (ps := ["_law_script"]) fun _ _ _ _ _ _ us hl => match us, hl with | [_], _ => rfl
  have F_law_same := fun_mk (st := s_law_same) l_law_same c_law_same k_law_same
  have b_law_same := F_law_same.binds (ps := ["_law_found", "_law_due"]) fun _ _ _ _ _ _ us hl => match us, hl with | [_, _], _ => rfl
  have F_law_edges := fun_mk (st := s_law_edges) l_law_edges c_law_edges k_law_edges
  have b_law_edges := F_law_edges.binds (ps := []) fun _ _ _ _ _ _ us hl => match us, hl with | [], _ => rfl
  have F_law_next := fun_mk (st := s_law_next) l_law_next c_law_next k_law_next
  have b_law_next := F_law_next.binds (ps := ["_law_deck_here", "_law_many"]) fun _ _ _ _ _ _ us hl => match us, hl with | [_, _], _ => rfl
  have F_law_one := fun_mk (st := s_law_one) l_law_one c_law_one k_law_one
  have b_law_one := F_law_one.binds (ps := ["_law_deck_here", "_law_some"]) fun _ _ _ _ _ _ us hl => match us, hl with | [_, _], _ => rfl
  have F_law_length := fun_mk (st := s_law_length) l_law_length c_law_length k_law_length
  have b_law_length := F_law_length.binds (ps := ["_law_deck_here", "_law_far"]) fun _ _ _ _ _ _ us hl => match us, hl with | [_, _], _ => rfl
  have F_law_edge := fun_mk (st := s_law_edge) l_law_edge c_law_edge k_law_edge
  have b_law_edge := F_law_edge.binds (ps := ["_law_deck_here", "_law_many"]) fun _ _ _ _ _ _ us hl => match us, hl with | [_, _], _ => rfl
  have F_law_spots := fun_mk (st := s_law_spots) l_law_spots c_law_spots k_law_spots
  have b_law_spots := F_law_spots.binds (ps := ["_law_deck_here", "_law_low", "_law_high", "_law_many"]) fun _ _ _ _ _ _ us hl => match us, hl with | [_, _, _, _], _ => rfl
  have F_law_pipe := fun_mk (st := s_law_pipe) l_law_pipe c_law_pipe k_law_pipe
  have b_law_pipe := F_law_pipe.binds (ps := ["_law_deck_here", "_law_one_here", "_law_other", "_law_left", "_law_far"]) fun _ _ _ _ _ _ us hl => match us, hl with | [_, _, _, _, _], _ => rfl
  have F_law_house := fun_mk (st := s_law_house) l_law_house c_law_house k_law_house
  have b_law_house := F_law_house.binds (ps := ["_law_deck_here", "_law_most", "_law_far", "_law_flaps"]) fun _ _ _ _ _ _ us hl => match us, hl with | [_, _, _, _], _ => rfl
  have F_law_odd := fun_mk (st := s_law_odd) l_law_odd c_law_odd k_law_odd
  have b_law_odd := F_law_odd.binds (ps := ["_law_deck_here"]) fun _ _ _ _ _ _ us hl => match us, hl with | [_], _ => rfl
  have F_law_otherwise := fun_mk (st := s_law_otherwise) l_law_otherwise c_law_otherwise k_law_otherwise
  have b_law_otherwise := F_law_otherwise.binds (ps := ["_law_deck_here", "_law_thing"]) fun _ _ _ _ _ _ us hl => match us, hl with | [_, _], _ => rfl
  have F_law_spoilt := fun_mk (st := s_law_spoilt) l_law_spoilt c_law_spoilt k_law_spoilt
  have b_law_spoilt := F_law_spoilt.binds (ps := ["_law_deck_here", "_law_thing"]) fun _ _ _ _ _ _ us hl => match us, hl with | [_, _], _ => rfl
  have F_is_joined := fun_mk (st := s_is_joined) l_is_joined c_is_joined k_is_joined
  have b_is_joined := F_is_joined.binds (ps := ["rooms", "pipes"]) fun _ _ _ _ _ _ us hl => match us, hl with | [_, _], _ => rfl
  have F_is_whole := fun_mk (st := s_is_whole) l_is_whole c_is_whole k_is_whole
  have b_is_whole := F_is_whole.binds (ps := ["thing"]) fun _ _ _ _ _ _ us hl => match us, hl with | [_], _ => rfl
  have F_is_from := fun_mk (st := s_is_from) l_is_from c_is_from k_is_from
  have b_is_from := F_is_from.binds (ps := ["thing", "low", "high"]) fun _ _ _ _ _ _ us hl => match us, hl with | [_, _, _], _ => rfl
  have F_is_pair := fun_mk (st := s_is_pair) l_is_pair c_is_pair k_is_pair
  have b_is_pair := F_is_pair.binds (ps := ["thing"]) fun _ _ _ _ _ _ us hl => match us, hl with | [_], _ => rfl
  have F_is_size := fun_mk (st := s_is_size) l_is_size c_is_size k_is_size
  have b_is_size := F_is_size.binds (ps := ["thing"]) fun _ _ _ _ _ _ us hl => match us, hl with | [_], _ => rfl
  have F_is_course := fun_mk (st := s_is_course) l_is_course c_is_course k_is_course
  have b_is_course := F_is_course.binds (ps := ["thing"]) fun _ _ _ _ _ _ us hl => match us, hl with | [_], _ => rfl
  have F_are_pairs := fun_mk (st := s_are_pairs) l_are_pairs c_are_pairs k_are_pairs
  have b_are_pairs := F_are_pairs.binds (ps := ["thing", "low", "high", "fits"]) fun _ _ _ _ _ _ us hl => match us, hl with | [_, _, _, _], _ => rfl
  have F_is_pipe := fun_mk (st := s_is_pipe) l_is_pipe c_is_pipe k_is_pipe
  have b_is_pipe := F_is_pipe.binds (ps := ["rooms", "thing"]) fun _ _ _ _ _ _ us hl => match us, hl with | [_, _], _ => rfl
  have F_is_house := fun_mk (st := s_is_house) l_is_house c_is_house k_is_house
  have b_is_house := F_is_house.binds (ps := ["thing"]) fun _ _ _ _ _ _ us hl => match us, hl with | [_], _ => rfl
  have F_law_all_joined := fun_mk (st := s_law_all_joined) l_law_all_joined c_law_all_joined k_law_all_joined
  have b_law_all_joined := F_law_all_joined.binds (ps := ["_law_rooms", "_law_pipes"]) fun _ _ _ _ _ _ us hl => match us, hl with | [_, _], _ => rfl
  have F_law_is_from := fun_mk (st := s_law_is_from) l_law_is_from c_law_is_from k_law_is_from
  have b_law_is_from := F_law_is_from.binds (ps := ["_law_thing", "_law_low", "_law_high"]) fun _ _ _ _ _ _ us hl => match us, hl with | [_, _, _], _ => rfl
  have F_law_are_pairs := fun_mk (st := s_law_are_pairs) l_law_are_pairs c_law_are_pairs k_law_are_pairs
  have b_law_are_pairs := F_law_are_pairs.binds (ps := ["_law_thing", "_law_low", "_law_high"]) fun _ _ _ _ _ _ us hl => match us, hl with | [_, _, _], _ => rfl
  have F_law_is_pipe := fun_mk (st := s_law_is_pipe) l_law_is_pipe c_law_is_pipe k_law_is_pipe
  have b_law_is_pipe := F_law_is_pipe.binds (ps := ["_law_rooms", "_law_thing"]) fun _ _ _ _ _ _ us hl => match us, hl with | [_, _], _ => rfl
  have F_law_is_one := fun_mk (st := s_law_is_one) l_law_is_one c_law_is_one k_law_is_one
  have b_law_is_one := F_law_is_one.binds (ps := ["_law_thing"]) fun _ _ _ _ _ _ us hl => match us, hl with | [_], _ => rfl
  have F_law := fun_mk (st := s_law) l_law c_law k_law
  have b_law := F_law.binds (ps := ["_law_script"]) fun _ _ _ _ _ _ us hl => match us, hl with | [_], _ => rfl
  refine ⟨PySem.W.fnOf "law" "law" (defArgs s_law) (defBody s_law) (defScope s_law) .none kV_law dc_law pm_law an_law cd_law ct_law, fun s v => .of_eq rfl, fun base _ _ => ?_⟩
  have g_law_deck : Fn ⟨l.prog, w, K, mg⟩ base "_law_deck" 1 1 m_law_deck := ⟨f_law_deck, _, _, PySem.W.mg_of X G a_law_deck, F_law_deck.kp, b_law_deck, o_law_deck F_law_deck T⟩
  have g_law_same : Fn ⟨l.prog, w, K, mg⟩ base "_law_same" 8 2 (m_law_same 8) := ⟨f_law_same, _, _, PySem.W.mg_of X G a_law_same, F_law_same.kp, b_law_same, o_law_same F_law_same T (PySem.W.mg_of X G a_law_same) b_law_same 8⟩
  have g_law_edges : Fn ⟨l.prog, w, K, mg⟩ base "_law_edges" 1 0 m_law_edges := ⟨f_law_edges, _, _, PySem.W.mg_of X G a_law_edges, F_law_edges.kp, b_law_edges, o_law_edges F_law_edges T⟩
  have g_law_next : Fn ⟨l.prog, w, K, mg⟩ base "_law_next" 1 2 m_law_next := ⟨f_law_next, _, _, PySem.W.mg_of X G a_law_next, F_law_next.kp, b_law_next, o_law_next F_law_next T⟩
  have g_law_one : Fn ⟨l.prog, w, K, mg⟩ base "_law_one" 2 2 m_law_one := ⟨f_law_one, _, _, PySem.W.mg_of X G a_law_one, F_law_one.kp, b_law_one, o_law_one F_law_one T g_law_next⟩
  have g_law_length : Fn ⟨l.prog, w, K, mg⟩ base "_law_length" 3 2 m_law_length := ⟨f_law_length, _, _, PySem.W.mg_of X G a_law_length, F_law_length.kp, b_law_length, o_law_length F_law_length T g_law_one g_law_next⟩
  have g_law_edge : Fn ⟨l.prog, w, K, mg⟩ base "_law_edge" 3 2 m_law_edge := ⟨f_law_edge, _, _, PySem.W.mg_of X G a_law_edge, F_law_edge.kp, b_law_edge, o_law_edge F_law_edge T g_law_one g_law_next⟩
  have g_law_spots : Fn ⟨l.prog, w, K, mg⟩ base "_law_spots" 4 4 m_law_spots := ⟨f_law_spots, _, _, PySem.W.mg_of X G a_law_spots, F_law_spots.kp, b_law_spots, o_law_spots F_law_spots T g_law_edge⟩
  have g_law_pipe : Fn ⟨l.prog, w, K, mg⟩ base "_law_pipe" 5 5 m_law_pipe := ⟨f_law_pipe, _, _, PySem.W.mg_of X G a_law_pipe, F_law_pipe.kp, b_law_pipe, o_law_pipe F_law_pipe T g_law_length g_law_spots g_law_next g_law_edge⟩
  have g_law_house : Fn ⟨l.prog, w, K, mg⟩ base "_law_house" 6 4 m_law_house := ⟨f_law_house, _, _, PySem.W.mg_of X G a_law_house, F_law_house.kp, b_law_house, o_law_house F_law_house T g_law_next g_law_pipe⟩
  have g_law_odd : Fn ⟨l.prog, w, K, mg⟩ base "_law_odd" 2 1 m_law_odd := ⟨f_law_odd, _, _, PySem.W.mg_of X G a_law_odd, F_law_odd.kp, b_law_odd, o_law_odd F_law_odd T g_law_next⟩
  have g_law_otherwise : Fn ⟨l.prog, w, K, mg⟩ base "_law_otherwise" 3 2 m_law_otherwise := ⟨f_law_otherwise, _, _, PySem.W.mg_of X G a_law_otherwise, F_law_otherwise.kp, b_law_otherwise, o_law_otherwise F_law_otherwise T g_law_next g_law_odd⟩
  have g_law_spoilt : Fn ⟨l.prog, w, K, mg⟩ base "_law_spoilt" 4 2 m_law_spoilt := ⟨f_law_spoilt, _, _, PySem.W.mg_of X G a_law_spoilt, F_law_spoilt.kp, b_law_spoilt, o_law_spoilt F_law_spoilt T g_law_otherwise g_law_next⟩
  have g_is_joined : Fn ⟨l.prog, w, K, mg⟩ base "is_joined" 1 2 m_is_joined := ⟨f_is_joined, _, _, PySem.W.mg_of X G a_is_joined, F_is_joined.kp, b_is_joined, o_is_joined F_is_joined T⟩
  have g_is_whole : Fn ⟨l.prog, w, K, mg⟩ base "is_whole" 1 1 m_is_whole := ⟨f_is_whole, _, _, PySem.W.mg_of X G a_is_whole, F_is_whole.kp, b_is_whole, o_is_whole F_is_whole T⟩
  have g_is_from : Fn ⟨l.prog, w, K, mg⟩ base "is_from" 2 3 m_is_from := ⟨f_is_from, _, _, PySem.W.mg_of X G a_is_from, F_is_from.kp, b_is_from, o_is_from F_is_from T g_is_whole⟩
  have g_is_pair : Fn ⟨l.prog, w, K, mg⟩ base "is_pair" 1 1 m_is_pair := ⟨f_is_pair, _, _, PySem.W.mg_of X G a_is_pair, F_is_pair.kp, b_is_pair, o_is_pair F_is_pair T⟩
  have g_is_size : Fn ⟨l.prog, w, K, mg⟩ base "is_size" 3 1 m_is_size := ⟨f_is_size, _, _, PySem.W.mg_of X G a_is_size, F_is_size.kp, b_is_size, o_is_size F_is_size T g_is_from⟩
  have g_is_course : Fn ⟨l.prog, w, K, mg⟩ base "is_course" 2 1 m_is_course := ⟨f_is_course, _, _, PySem.W.mg_of X G a_is_course, F_is_course.kp, b_is_course, o_is_course F_is_course T g_is_whole⟩
  have g_are_pairs : Fn ⟨l.prog, w, K, mg⟩ base "are_pairs" 4 4 m_are_pairs := ⟨f_are_pairs, _, _, PySem.W.mg_of X G a_are_pairs, F_are_pairs.kp, b_are_pairs, o_are_pairs F_are_pairs T g_is_pair g_is_from g_is_size g_is_course⟩
  have g_is_pipe : Fn ⟨l.prog, w, K, mg⟩ base "is_pipe" 5 2 m_is_pipe := ⟨f_is_pipe, _, _, PySem.W.mg_of X G a_is_pipe, F_is_pipe.kp, b_is_pipe, o_is_pipe F_is_pipe T g_are_pairs g_is_from g_is_size g_is_course⟩
  have g_is_house : Fn ⟨l.prog, w, K, mg⟩ base "is_house" 6 1 m_is_house := ⟨f_is_house, _, _, PySem.W.mg_of X G a_is_house, F_is_house.kp, b_is_house, o_is_house F_is_house T g_is_joined g_is_from g_is_pipe⟩
  have g_law_all_joined : Fn ⟨l.prog, w, K, mg⟩ base "_law_all_joined" 1 2 m_law_all_joined := ⟨f_law_all_joined, _, _, PySem.W.mg_of X G a_law_all_joined, F_law_all_joined.kp, b_law_all_joined, o_law_all_joined F_law_all_joined T⟩
  have g_law_is_from : Fn ⟨l.prog, w, K, mg⟩ base "_law_is_from" 1 3 m_law_is_from := ⟨f_law_is_from, _, _, PySem.W.mg_of X G a_law_is_from, F_law_is_from.kp, b_law_is_from, o_law_is_from F_law_is_from T⟩
  have g_law_are_pairs : Fn ⟨l.prog, w, K, mg⟩ base "_law_are_pairs" 2 3 m_law_are_pairs := ⟨f_law_are_pairs, _, _, PySem.W.mg_of X G a_law_are_pairs, F_law_are_pairs.kp, b_law_are_pairs, o_law_are_pairs F_law_are_pairs T g_law_is_from⟩
  have g_law_is_pipe : Fn ⟨l.prog, w, K, mg⟩ base "_law_is_pipe" 3 2 m_law_is_pipe := ⟨f_law_is_pipe, _, _, PySem.W.mg_of X G a_law_is_pipe, F_law_is_pipe.kp, b_law_is_pipe, o_law_is_pipe F_law_is_pipe T g_law_is_from g_law_are_pairs⟩
  have g_law_is_one : Fn ⟨l.prog, w, K, mg⟩ base "_law_is_one" 4 1 m_law_is_one := ⟨f_law_is_one, _, _, PySem.W.mg_of X G a_law_is_one, F_law_is_one.kp, b_law_is_one, o_law_is_one F_law_is_one T g_law_all_joined g_law_is_from g_law_is_pipe⟩
  exact (o_law (P := l.prog) (w := w) (base := base) F_law T g_law_deck g_law_same g_law_edges g_law_house g_law_spoilt g_is_house g_law_next g_law_is_one g_is_whole).less fun vs H Q E q => law_sp (G := ⟨l.prog, w, K, mg⟩) math q
theorem walk {l : PySem.W.OpenLaw} {q : Program} {loose : List Str} {XP : (Str → Option Value) → Heap → Prop} {YP : World → Heap → Prop} {d : DefRec} {K : Params → PySem.W.Frag} (hn : l.most = some 63) (hdf : d.params.defaults = [])
    (hY : ∀ (w : World) (h : Heap), YP w h → (K w.params).In h)
    (F : ∀ (w : World) (mg : Str → Option Value) (fa : Addr) (h : Heap), (K w.params).In h → h.Ns mainGlobals mg → mg d.name = some (.ref fa) →
      ∃ fd : FuncData, (∀ (s : Shared) (u : Value), BindsTo s fd ⟨[u], []⟩ [("_law_script", u)]) ∧ ∀ base : Heap, (K w.params).In base → base.Ns mainGlobals mg → FnG l.prog w (K w.params) mg base (L2.CX l.prog w) 9 fa fd ["_law_script"] (spLaw (K w.params))) :
    PySem.W.WalkO q loose XP YP l.row.toRowW d [] (fun f vs => PySem.call f vs) :=
  RW.walkG (n := 63) (k := 9) (x := "_law_script") (Z := fun w => L2.CX l.prog w) (pr := fun w => spLaw (K w.params)) hn (by decide) hdf ⟨⟨rfl, by decide, by decide⟩, rfl⟩ hY F (fun _ _ a ns hl hO hS => ⟨a, ns, rfl, only_frl hO hS, hl, fun _ => rfl⟩) fun _ _ _ _ _ ⟨_, _, _, _, _, _, _, _, _, _, _, _, z⟩ => z
end K01

namespace K01
open PySem L2 RW
/-! ### the deck -/
/-- the deck at k: its cells at c, its rests at r; it was asked at most N times -/
structure Dk (μ : Mem) (k c r N : Nat) : Prop where
  ne : k ≠ c ∧ k ≠ r ∧ c ≠ r
  ex : ∃ (cs rs : List Int) (n : Nat), μ[k]? = some (.lst [.ref c, .ref r, .int (n : Int)]) ∧ μ[c]? = some (.lst (cs.map .int)) ∧ μ[r]? = some (.lst (rs.map .int)) ∧ cs.length = rs.length ∧ 0 < cs.length ∧ n ≤ N
theorem Dk.mono {μ : Mem} {k c r N M : Nat} (h : Dk μ k c r N) (hm : N ≤ M) : Dk μ k c r M := by
  obtain ⟨ne, cs, rs, n, h1, h2, h3, h4, h5, h6⟩ := h
  exact ⟨ne, cs, rs, n, h1, h2, h3, h4, h5, by omega⟩
theorem Dk.keep {μ μ' : Mem} {k c r N : Nat} {ex : List Nat} (h : Dk μ k c r N) (q : Keep ex μ μ') (h1 : k ∉ ex) (h2 : c ∉ ex) (h3 : r ∉ ex) : Dk μ' k c r N := by
  obtain ⟨ne, cs, rs, n, e1, e2, e3, e⟩ := h
  exact ⟨ne, cs, rs, n, q.get e1 h1, q.get e2 h2, q.get e3 h3, e⟩
theorem Dk.app {μ : Mem} {k c r N : Nat} {cs : List Cell} (h : Dk μ k c r N) : Dk (μ ++ cs) k c r N := h.keep (ex := []) Keep.app (by simp) (by simp) (by simp)
theorem Dk.lt {μ : Mem} {k c r N : Nat} (h : Dk μ k c r N) : k < μ.length ∧ c < μ.length ∧ r < μ.length := by
  obtain ⟨ne, cs, rs, n, e1, e2, e3, e⟩ := h
  exact ⟨at_lt e1, at_lt e2, at_lt e3⟩
theorem next_spec {μ : Mem} {k c r N : Nat} {j : Int} (h : Dk μ k c r N) (hN : N < 1000000) (hj : 0 < j) (hj2 : j < 18446744073709551616) :
    ∃ (x : Int) (μ' : Mem), m_law_next [.ref k, .int j] μ = .ok (.int x) μ' ∧ 0 ≤ x ∧ x < j ∧ Dk μ' k c r (N + 1) ∧ Keep [k, r] μ μ' ∧ μ'.length = μ.length := by
  obtain ⟨⟨n1, n2, n3⟩, cs, rs, n, e1, e2, e3, hl, hp, hn⟩ := h
  have l1 := at_lt e1
  have hlen : (0 : Int) < cs.length := by omega
  obtain ⟨m1, m2⟩ := mod_rng (i := (n : Int)) hlen
  generalize hi : (n : Int) % (cs.length : Int) = i at m1 m2
  have hiN : i.toNat < cs.length := by omega
  obtain ⟨μ1, hμ⟩ : ∃ μ1, μ1 = μ.set k (.lst [.ref c, .ref r, .int ((n : Int) + 1)]) := ⟨_, rfl⟩
  have e1' : μ1[k]? = some (.lst [.ref c, .ref r, .int (((n + 1 : Nat) : Int))]) := by rw [hμ, set_at l1]; rfl
  have e2' : μ1[c]? = some (.lst (cs.map .int)) := by rw [hμ, set_ne' n1]; exact e2
  have e3' : μ1[r]? = some (.lst (rs.map .int)) := by rw [hμ, set_ne' n2]; exact e3
  have k1 : Keep [k, r] μ μ1 := by rw [hμ]; exact Keep.set (by simp)
  have z1 : μ1.length = μ.length := by rw [hμ]; simp
  have iR : idxA (.ref r) (.int i) μ1 = .ok (.int (rs[i.toNat]'(by omega))) μ1 :=
    ix_lst e3' m1 (by rw [List.getElem?_map, List.getElem?_eq_getElem (by omega)]; rfl)
  have iC : idxA (.ref c) (.int i) μ1 = .ok (.int (cs[i.toNat]'hiN)) μ1 :=
    ix_lst e2' m1 (by rw [List.getElem?_map, List.getElem?_eq_getElem hiN]; rfl)
  have sK : setDD (.ref k) (.int 2) (.int ((n : Int) + 1)) μ = .ok () μ1 := by rw [hμ]; exact set_lst' e1 (by decide) (by show (2 : Int) < 3; decide)
  have body : b_law_next (startR 8 [.ref k, .int j]) μ = sSeq (sIf (mTest (mBin (cmpI fun i j => decide (j < i)) (mBin idxA (mVar 3) (mVar 5)) (mC (.int 0)))) (sSeq (sSet 6 (mBin modD (mBin idxA (mVar 3) (mVar 5)) (mVar 1)))
      (sSeq (sAsg (mBin fdivD (mBin idxA (mVar 3) (mVar 5)) (mVar 1)) (gSubM setDD (mVar 3) (mVar 5)))
      (sRet (mVar 6)))) (sNil)) (sSeq (sSet 7 (mBin mulD (mBin addD (mBin addD (mBin idxA (mVar 2) (mVar 5)) (mBin mulD (mC (.int 1009)) (mVar 4))) (mC (.int 3))) (mBin addD (mC (.int 50021)) (mBin mulD (mC (.int 2)) (mVar 4)))))
    (sSeq (sSet 7 (mBin modD (mBin addD (mVar 7) (mBin mulD (mC (.int 60013)) (mVar 4))) (mC (.int 2305843009213693951))))
    (sSeq (sSet 7 (mBin modD (mBin addD (mBin mulD (mVar 7) (mVar 7)) (mC (.int 79633))) (mC (.int 2305843009213693921))))
    (sSeq (sSet 7 (mBin modD (mBin mulD (mVar 7) (mVar 7)) (mC (.int 2305843009213693951))))
    (sRet (mBin modD (mBin fdivD (mVar 7) (mC (.int 512))) (mVar 1))))))) [some (.ref k), some (.int j), some (.ref c), some (.ref r), some (.int n), some (.int i), none, none] μ1 := by
    unfold b_law_next
    rw [seq_asg (d := .ref k) (μ1 := μ) (ρ2 := [some (.ref k), some (.int j), some (.ref c), some (.ref r), some (.int n), none, none, none]) (μ2 := μ) rfl (by simp [e1, startR])]
    rw [seq_asg (d := .int ((n : Int) + 1)) (μ1 := μ) (ρ2 := [some (.ref k), some (.int j), some (.ref c), some (.ref r), some (.int n), none, none, none]) (μ2 := μ1) rfl (by simp [sK])]
    rw [seq_set (d := .int i) (μ1 := μ1) (by simp only [mBin, mVar, mB, mCons, mNil, Res.bind, List.getElem?_cons_succ, List.getElem?_cons_zero, lenL, e2', List.length_map, mod_ok hlen, hi])]
    rfl
  by_cases hr : 0 < rs[i.toNat]'(by omega)
  · have sR : setDD (.ref r) (.int i) (.int (rs[i.toNat]'(by omega) / j)) μ1 = .ok () (μ1.set r (.lst ((rs.map D.int).set i.toNat (.int (rs[i.toNat]'(by omega) / j))))) :=
      set_lst' e3' m1 (by simp; omega)
    obtain ⟨q1, q2⟩ := mod_rng (i := rs[i.toNat]'(by omega)) hj
    refine ⟨_, _, run_is (body.trans (seq_ret ((if_t (μ1 := μ1) (by simp [iR, cmpI, hr])).trans ?_))), q1, q2, ⟨⟨n1, n2, n3⟩, cs, rs.set i.toNat (rs[i.toNat]'(by omega) / j), n + 1, ?_, ?_, ?_, by simp [hl], hp, by omega⟩, k1.trans (Keep.set (n := r) (c := .lst ((rs.map D.int).set i.toNat (.int (rs[i.toNat]'(by omega) / j)))) (by simp)), by simp [z1]⟩
    · simp [iR, mod_ok hj, fdiv_ok hj hj2, sR]
    · rw [set_ne' (Ne.symm n2)]; exact e1'
    · rw [set_ne' (Ne.symm n3)]; exact e2'
    · rw [set_at (at_lt e3'), List.map_set]
  · have hm : (50021 + 2 * (n : Int)).natAbs < 18446744073709551616 := by omega
    have hb : ∀ {x : Int}, 0 ≤ x → x < 2305843009213693951 → x.natAbs < 18446744073709551616 := fun h1 h2 => by omega
    obtain ⟨a1, a2⟩ := mod_rng (i := ((cs[i.toNat]'hiN + 1009 * n + 3) * (50021 + 2 * n) + 60013 * n)) (j := 2305843009213693951) (by decide)
    generalize hx1 : ((cs[i.toNat]'hiN + 1009 * n + 3) * (50021 + 2 * n) + 60013 * n) % 2305843009213693951 = x1 at a1 a2
    obtain ⟨b1, b2⟩ := mod_rng (i := x1 * x1 + 79633) (j := 2305843009213693921) (by decide)
    generalize hx2 : (x1 * x1 + 79633) % 2305843009213693921 = x2 at b1 b2
    obtain ⟨q1, q2⟩ := mod_rng (i := (x2 * x2) % 2305843009213693951 / 512) hj
    refine ⟨_, _, run_is (body.trans ((seq_skip (μ1 := μ1) (by simp [iR, cmpI, hr])).trans ?_)), q1, q2, ⟨⟨n1, n2, n3⟩, cs, rs, n + 1, e1', e2', e3', hl, hp, by omega⟩, k1, z1⟩
    rw [seq_set (d := .int ((cs[i.toNat]'hiN + 1009 * n + 3) * (50021 + 2 * n))) (μ1 := μ1) (by simp [iC, mul_ok, add_ok, hm])]
    rw [seq_set (d := .int x1) (μ1 := μ1) (by simp [mul_ok, add_ok, mod_ok, hx1])]
    rw [seq_set (d := .int x2) (μ1 := μ1) (by simp [mul_ok (.inl (hb a1 a2)), add_ok, mod_ok, hx2])]
    rw [seq_set (d := .int ((x2 * x2) % 2305843009213693951)) (μ1 := μ1) (by simp [mul_ok (.inl (hb b1 (by omega))), mod_ok])]
    exact ret_is (by simp [fdiv_ok, mod_ok hj])
theorem one_spec {μ : Mem} {k c r N n : Nat} {l : List D} (h : Dk μ k c r N) (hN : N < 1000000) (e : μ[n]? = some (.lst l)) (hk : n ≠ k) (hr : n ≠ r) (h0 : 0 < l.length) (h1 : l.length < 1000000) :
    ∃ (d : D) (μ' : Mem), m_law_one [.ref k, .ref n] μ = .ok d μ' ∧ d ∈ l ∧ Dk μ' k c r (N + 1) ∧ Keep [k, r] μ μ' ∧ μ'.length = μ.length := by
  obtain ⟨x, μ1, q, x0, x1, d1, k1, z1⟩ := next_spec (j := (l.length : Int)) h hN (by omega) (by omega)
  have e1 : μ1[n]? = some (.lst l) := k1.get e (by simp [hk, hr])
  have hx : x.toNat < l.length := by omega
  have e2 : idxA (.ref n) (.int x) μ1 = .ok (l[x.toNat]'hx) μ1 := ix_lst e1 x0 (List.getElem?_eq_getElem hx)
  exact ⟨l[x.toNat]'hx, μ1, run_is (ret_is (by simp [startR, lenL, e, q, e2])), List.getElem_mem _, d1, k1, z1⟩
theorem edge_spec {μ : Mem} {k c r N : Nat} {j : Int} (h : Dk μ k c r N) (hN : N + 3 < 1000000) (hj : 0 < j) (hj2 : j < 18446744073709551616) :
    ∃ (x : Int) (μ' : Mem), m_law_edge [.ref k, .int j] μ = .ok (.int x) μ' ∧ 0 ≤ x ∧ x < j ∧ Dk μ' k c r (N + 3) ∧ Keep [k, r] μ μ' := by
  obtain ⟨x, μ1, q, x0, x1, d1, k1, z1⟩ := next_spec h (by omega) hj hj2
  obtain ⟨y, μ2, q2, y0, y1, d2, k2, z2⟩ := next_spec (j := if 4 < j then 4 else j) d1 (by omega) (by split <;> omega) (by split <;> omega)
  have hl := d2.lt
  obtain ⟨d, μ3, q3, m3, d3, k3, z3⟩ := one_spec (n := μ2.length) (l := [.int 0, .int (j - 1), .int x, .int y]) (d2.app (cs := [.lst [.int 0, .int (j - 1), .int x, .int y]])) (by omega) app_new (by omega) (by omega) (by simp) (by simp)
  have hd : ∃ w : Int, d = .int w ∧ 0 ≤ w ∧ w < j := by
    simp at m3
    rcases m3 with rfl | rfl | rfl | rfl
    · exact ⟨0, rfl, by omega, hj⟩
    · exact ⟨_, rfl, by omega, by omega⟩
    · exact ⟨_, rfl, x0, x1⟩
    · exact ⟨_, rfl, y0, by split at y1 <;> omega⟩
  obtain ⟨w, rfl, w0, w1⟩ := hd
  exact ⟨w, μ3, run_is (ret_is (by simp [startR, q, subD, min2L, q2, q3])), w0, w1, d3, (k1.trans k2).trans (Keep.trans Keep.app k3)⟩
/-- sorted spots within lo .. hi -/
theorem spots_spec {μ : Mem} {k c r N : Nat} {lo hi m : Int} (h : Dk μ k c r N) (hN : N + 20 < 1000000) (h0 : 0 ≤ m) (h5 : m ≤ 5) (hh : hi - lo + 1 < 18446744073709551616) :
    ∃ (n : Nat) (xs : List Int) (μ' : Mem), m_law_spots [.ref k, .int lo, .int hi, .int m] μ = .ok (.ref n) μ' ∧ μ'[n]? = some (.lst (xs.map .int)) ∧ μ.length ≤ n ∧ xs.Pairwise (· < ·) ∧ (∀ x ∈ xs, lo ≤ x ∧ x ≤ hi) ∧ (xs.length : Int) ≤ m ∧ Dk μ' k c r (N + 20) ∧ Keep [k, r] μ μ' := by
  by_cases hlt : hi < lo
  · refine ⟨μ.length, [], μ ++ [.lst []], run_is (seq_ret ((if_t (μ1 := μ) (by simp [startR, cmpI, hlt])).trans (ret_is (by simp)))), app_new, Nat.le_refl _, .nil, by simp, by simpa using h0, h.app.mono (by omega), Keep.app⟩
  · have key := compL_ok (chk := fun _ => True) (g := gN 4) (tt := mYes) (te := mBin addD (mVar 1) (mB m_law_edge (mCons (mVar 0) (mCons (mBin addD (mBin subD (mVar 2) (mVar 1)) (mC (.int 1))) (mNil)))))
      (ρ0 := [some (.ref k), some (.int lo), some (.int hi), some (.int m), none]) (rangeItems 0 m.toNat)
      (fun i acc μ' => i ≤ m.toNat ∧ ∃ xs : List Int, acc = xs.map .int ∧ xs.length = i ∧ (∀ x ∈ xs, lo ≤ x ∧ x ≤ hi) ∧ Dk μ' k c r (N + 3 * i) ∧ Keep [k, r] μ μ') 0 (acc := []) (μ := μ)
      ⟨Nat.zero_le _, [], rfl, rfl, by simp, by simpa using h, .refl⟩ (fun _ _ _ _ => trivial) (fun i d acc μ' e ⟨hi', xs, ea, hl, hx, hd, hk⟩ => ?_)
    · have hlen : (rangeItems 0 m.toNat).length = m.toNat := by simp [rangeItems]
      rw [hlen, Nat.zero_add] at key
      obtain ⟨l, μ', e, _, xs, rfl, hl, hx, hd, hk⟩ := key
      have hlx : xs.length ≤ 5 := by omega
      have hul : (usort xs).length ≤ xs.length := by
        have : ∀ ys : List Int, (usort ys).length ≤ ys.length := fun ys => by
          induction ys with
          | nil => simp [usort]
          | cons y ys ih =>
            unfold usort
            split
            · simp; omega
            · rw [(insI_perm y _).length_eq]; simp; omega
        exact this xs
      refine ⟨μ'.length + 2, usort xs, μ' ++ [Cell.lst (xs.map D.int)] ++ [Cell.iset (usort xs)] ++ [Cell.lst ((usort xs).map D.int)], run_is ((seq_skip (μ1 := μ) (by simp [startR, cmpI, hlt])).trans (ret_is ?_)), ?_, ?_, usort_sorted xs, fun x q => hx x (usort_mem.mp q), by omega, (hd.app.app.app).mono (by omega), ((hk.trans Keep.app).trans Keep.app).trans Keep.app⟩
      · have e' : (iRange1 (mCons (mVar 3) mNil)) (startR 5 [.ref k, .int lo, .int hi, .int m]) μ = .ok (rangeItems 0 m.toNat, fun _ => True) μ := by
          simp [startR, range1]; omega
        have e2 : wipeR (startR 5 [.ref k, .int lo, .int hi, .int m]) [4] = [some (.ref k), some (.int lo), some (.int hi), some (.int m), none] := rfl
        have h3 : intsAt (.ref μ'.length) (μ' ++ [Cell.lst (xs.map D.int)]) = some xs := by simp [intsAt]
        have h4 : (μ' ++ [Cell.lst (xs.map D.int)] ++ [Cell.iset (usort xs)])[(μ' ++ [Cell.lst (xs.map D.int)]).length]? = some (.iset (usort xs)) := app_new
        simp only [mB, mCons, mNil, mComp, e', e2, e, Res.bind, setL, h3, if_pos (show xs.length ≤ 4000 by omega), sortedA, sortedL, h4, if_pos (show (usort xs).length < 64 by omega)]
        simp
      · simp
      · have := hk.1; omega
    · have hi2 : i < m.toNat := by
        have := (List.getElem?_eq_some_iff.mp e).1
        simpa [rangeItems] using this
      simp only [Nat.zero_add] at hi' ea hl hx hd hk ⊢
      obtain ⟨x, μ2, q, x0, x1, d2, k2⟩ := edge_spec (j := hi - lo + 1) hd (by omega) (by omega) hh
      refine .mk (μ := μ') rfl (.mk (μ := μ') rfl ?_)
      rw [if_pos rfl]
      refine ⟨by rw [ea, List.length_map, sizeLine_eq]; omega, .mk (a := .int (lo + x)) (μ := μ2) (by simp [subD, add_ok, q]) ⟨by omega, xs ++ [lo + x], by rw [ea]; simp, by simp [hl], fun y hy => ?_, d2.mono (by omega), hk.trans k2⟩⟩
      rcases List.mem_append.mp hy with hy | hy
      · exact hx y hy
      · simp at hy; omega
theorem length_spec {μ : Mem} {k c r N : Nat} {far : Int} (h : Dk μ k c r N) (hN : N + 10 < 1000000) :
    ∃ (L : Int) (μ' : Mem), m_law_length [.ref k, .int far] μ = .ok (.int L) μ' ∧ 1 ≤ L ∧ L ≤ (if 0 < far then 1000000000000 else 4) ∧ Dk μ' k c r (N + 10) ∧ Keep [k, r] μ μ' := by
  obtain ⟨x, μ1, q1, x0, x1, d1, k1, z1⟩ := next_spec (j := 3) h (by omega) (by decide) (by decide)
  obtain ⟨y, μ2, q2, y0, y1, d2, k2, z2⟩ := next_spec (j := 3) d1 (by omega) (by decide) (by decide)
  obtain ⟨μ3, hμ3⟩ : ∃ μ3, μ3 = μ2 ++ [Cell.lst [.int 1, .int (1 + x), .int (2 + y)]] := ⟨_, rfl⟩
  have d3 : Dk μ3 k c r (N + 2) := by rw [hμ3]; exact d2.app
  have e3 : μ3[μ2.length]? = some (.lst [.int 1, .int (1 + x), .int (2 + y)]) := by rw [hμ3]; exact app_new
  have k3 : Keep [k, r] μ μ3 := by rw [hμ3]; exact (k1.trans k2).trans Keep.app
  have hl := d2.lt
  have start : b_law_length (startR 3 [.ref k, .int far]) μ = sSeq (sIf (mTest (mBin (cmpI fun i j => decide (j < i)) (mVar 1) (mC (.int 0)))) (sSet 2 (mBin addD (mVar 2) (mLst (mCons (mBin addD (mC (.int 2)) (mB m_law_next (mCons (mVar 0) (mCons (mC (.int 12)) (mNil))))) (mCons (mBin subD (mBin powD (mC (.int 10)) (mC (.int 12))) (mB m_law_next (mCons (mVar 0) (mCons (mC (.int 3)) (mNil))))) (mCons (mBin addD (mC (.int 1)) (mB m_law_next (mCons (mVar 0) (mCons (mBin powD (mC (.int 10)) (mC (.int 12))) (mNil))))) (mNil))))))) (sNil))
      (sRet (mB m_law_one (mCons (mVar 0) (mCons (mVar 2) (mNil))))) [some (.ref k), some (.int far), some (.ref μ2.length)] μ3 := by
    unfold b_law_length
    rw [seq_set (d := .ref μ2.length) (μ1 := μ3) (by simp [startR, q1, q2, add_ok, hμ3])]
    rfl
  by_cases hf : 0 < far
  · obtain ⟨a, μ4, q4, a0, a1, d4, k4, z4⟩ := next_spec (j := 12) d3 (by omega) (by decide) (by decide)
    obtain ⟨b, μ5, q5, b0, b1, d5, k5, z5⟩ := next_spec (j := 3) d4 (by omega) (by decide) (by decide)
    obtain ⟨f, μ6, q6, f0, f1, d6, k6, z6⟩ := next_spec (j := 1000000000000) d5 (by omega) (by decide) (by decide)
    obtain ⟨μ7, hμ7⟩ : ∃ μ7, μ7 = μ6 ++ [Cell.lst [.int (2 + a), .int (1000000000000 - b), .int (1 + f)]] := ⟨_, rfl⟩
    have e7 : μ7[μ6.length]? = some (.lst [.int (2 + a), .int (1000000000000 - b), .int (1 + f)]) := by rw [hμ7]; exact app_new
    have e6 : μ6[μ2.length]? = some (.lst [.int 1, .int (1 + x), .int (2 + y)]) := ((k4.trans k5).trans k6).get e3 (by simp; omega)
    have e7' : μ7[μ2.length]? = some (.lst [.int 1, .int (1 + x), .int (2 + y)]) := by rw [hμ7]; exact app_at e6
    have d7 : Dk μ7 k c r (N + 5) := by rw [hμ7]; exact d6.app
    have hl7 := d7.lt
    obtain ⟨d, μ8, q8, m8, d8, k8, z8⟩ := one_spec (n := μ7.length) (l := [.int 1, .int (1 + x), .int (2 + y), .int (2 + a), .int (1000000000000 - b), .int (1 + f)]) (d7.app (cs := [.lst [.int 1, .int (1 + x), .int (2 + y), .int (2 + a), .int (1000000000000 - b), .int (1 + f)]])) (by omega) app_new (by omega) (by omega) (by simp) (by simp)
    have hd : ∃ L : Int, d = .int L ∧ 1 ≤ L ∧ L ≤ 1000000000000 := by
      simp at m8
      rcases m8 with rfl | rfl | rfl | rfl | rfl | rfl <;> exact ⟨_, rfl, by omega, by omega⟩
    obtain ⟨L, rfl, L0, L1⟩ := hd
    refine ⟨L, μ8, run_is (start.trans ((seq_run (ρ' := [some (.ref k), some (.int far), some (.ref μ7.length)]) (μ' := μ7 ++ [.lst [.int 1, .int (1 + x), .int (2 + y), .int (2 + a), .int (1000000000000 - b), .int (1 + f)]]) ?_).trans (ret_is (by simp [q8])))), L0, by rw [if_pos hf]; exact L1, d8.mono (by omega), k3.trans (((k4.trans k5).trans k6).trans ((show Keep [k, r] μ6 μ7 by rw [hμ7]; exact Keep.app).trans (Keep.trans Keep.app k8)))⟩
    refine (if_t (μ1 := μ3) (by simp [cmpI, hf])).trans (set_is ?_)
    simp [q4, q5, q6, add_ok, subD, powD, ← hμ7, catL_ok e7' e7]
  · obtain ⟨d, μ8, q8, m8, d8, k8, z8⟩ := one_spec (n := μ2.length) d3 (by omega) e3 (by omega) (by omega) (by simp) (by simp)
    have hd : ∃ L : Int, d = .int L ∧ 1 ≤ L ∧ L ≤ 4 := by
      simp at m8
      rcases m8 with rfl | rfl | rfl <;> exact ⟨_, rfl, by omega, by omega⟩
    obtain ⟨L, rfl, L0, L1⟩ := hd
    exact ⟨L, μ8, run_is (start.trans ((seq_skip (μ1 := μ3) (by simp [cmpI, hf])).trans (ret_is (by simp [q8])))), L0, by rw [if_neg hf]; exact L1, d8.mono (by omega), k3.trans k8⟩
/-! ### pipes -/
structure Pipe where
  a : Int
  b : Int
  len : Int
  nar : List (Int × Int)
  fl : List (Int × Int)
def pairD (p : Int × Int) : D := .tup [.int p.1, .int p.2]
def Pipe.d (p : Pipe) : D := .tup [.int p.a, .int p.b, .int p.len, .tup (p.nar.map pairD), .tup (p.fl.map pairD)]
/-- what stands on a pipe -/
structure Pipe.Ok (p : Pipe) : Prop where
  l1 : 1 ≤ p.len
  l2 : p.len ≤ 1000000000000
  n1 : (p.nar.map (·.1)).Pairwise (· < ·)
  n2 : ∀ x ∈ p.nar, 1 ≤ x.1 ∧ x.1 ≤ p.len - 1 ∧ 1 ≤ x.2 ∧ x.2 ≤ 1000000
  f1 : (p.fl.map (·.1)).Pairwise (· < ·)
  f2 : ∀ x ∈ p.fl, 0 ≤ x.1 ∧ x.1 ≤ p.len - 1 ∧ (x.2 = 1 ∨ x.2 = -1)
/-- [0, 0, 1, u][next 4] -/
theorem pick4 {y : Int} {u : Int} (y0 : 0 ≤ y) (y1 : y < 4) (hu : 1 ≤ u ∧ u ≤ 3) : ∃ v : Int, ([D.int 0, .int 0, .int 1, .int u] : List D)[y.toNat]? = some (.int v) ∧ 0 ≤ v ∧ v ≤ 3 := by
  have h : y.toNat = 0 ∨ y.toNat = 1 ∨ y.toNat = 2 ∨ y.toNat = 3 := by omega
  rcases h with h | h | h | h <;> rw [h]
  · exact ⟨0, rfl, by omega, by omega⟩
  · exact ⟨0, rfl, by omega, by omega⟩
  · exact ⟨1, rfl, by omega, by omega⟩
  · exact ⟨u, rfl, by omega, by omega⟩
theorem pairs_spec {μ : Mem} {k c r N n : Nat} {xs : List Int} {ρ0 : Rho} {te : MD} {P : Int → Prop} (cost : Nat) (h : Dk μ k c r N) (hn : μ[n]? = some (.lst (xs.map D.int))) (hk : n ≠ k) (hr : n ≠ r) (hx : xs.length ≤ 10)
    (ht : ∀ (x : Int) (μ : Mem) (M : Nat), Dk μ k c r M → M ≤ N + cost * 10 → ∃ (z : Int) (μ' : Mem), te (ρ0.set 9 (some (.int x))) μ = .ok (pairD (x, z)) μ' ∧ P z ∧ Dk μ' k c r (M + cost) ∧ Keep [k, r] μ μ') :
    ∃ (ps : List (Int × Int)) (μ' : Mem), compL (fun μ' => μ'[n]? = some (.lst (xs.map D.int))) (gN 9) mYes te ρ0 (xs.map D.int) [] μ = .ok (ps.map pairD) μ' ∧ ps.map (·.1) = xs ∧ (∀ p ∈ ps, P p.2) ∧ Dk μ' k c r (N + cost * 10) ∧ Keep [k, r] μ μ' := by
  have key := compL_ok (chk := fun μ' => μ'[n]? = some (.lst (xs.map D.int))) (g := gN 9) (tt := mYes) (te := te) (ρ0 := ρ0) (xs.map D.int)
    (fun i acc μ' => i ≤ xs.length ∧ ∃ ps : List (Int × Int), acc = ps.map pairD ∧ ps.map (·.1) = xs.take i ∧ (∀ p ∈ ps, P p.2) ∧ Dk μ' k c r (N + cost * i) ∧ Keep [k, r] μ μ') 0 (acc := []) (μ := μ)
    ⟨Nat.zero_le _, [], rfl, by simp, by simp, by simpa using h, .refl⟩ (fun i acc μ' ⟨_, ps, _, _, _, _, q⟩ => q.get hn (by simp [hk, hr])) (fun i d acc μ' e ⟨hi, ps, ea, hp, hP, hd, hq⟩ => ?_)
  · rw [List.length_map, Nat.zero_add] at key
    obtain ⟨l, μ', e, _, ps, rfl, hp, hP, hd, hq⟩ := key
    exact ⟨ps, μ', e, by rw [hp, List.take_length], hP, hd.mono (by have : cost * xs.length ≤ cost * 10 := Nat.mul_le_mul_left _ hx; omega), hq⟩
  · simp only [Nat.zero_add] at hi ea hp hP hd hq ⊢
    rw [List.getElem?_map] at e
    obtain ⟨x, ex, rfl⟩ := Option.map_eq_some_iff.mp e
    have hi2 := (List.getElem?_eq_some_iff.mp ex).1
    have hc : cost * i ≤ cost * 10 := Nat.mul_le_mul_left _ (by omega)
    obtain ⟨z, μ2, q, pz, d2, k2⟩ := ht x μ' _ hd (by omega)
    refine .mk (μ := μ') rfl (.mk (μ := μ') rfl ?_)
    rw [if_pos rfl]
    have hl : acc.length ≤ 10 := by
      rw [ea, List.length_map, ← List.length_map (f := (·.1)), hp, List.length_take]; omega
    refine ⟨by rw [sizeLine_eq]; omega, .mk q ⟨by omega, ps ++ [(x, z)], by rw [ea]; simp, ?_, fun p hpm => ?_, d2.mono (by rw [Nat.mul_add]; omega), hq.trans k2⟩⟩
    · rw [List.map_append, hp, List.take_add_one, ex]; rfl
    · rcases List.mem_append.mp hpm with hpm | hpm
      · exact hP p hpm
      · simp at hpm; subst hpm; exact pz
theorem pipe_spec {μ : Mem} {k c r N lf : Nat} {far a b l0 l1 : Int} (h : Dk μ k c r N) (hN : N + 200 < 1000000) (hf : far = 0 ∨ far = 1) (el : μ[lf]? = some (.lst [.int l0, .int l1])) (hk : lf ≠ k) (hc : lf ≠ c) (hr : lf ≠ r) (h0 : 0 ≤ l0) (h1 : 0 ≤ l1) :
    ∃ (p : Pipe) (μ' : Mem), m_law_pipe [.ref k, .int a, .int b, .ref lf, .int far] μ = .ok p.d μ' ∧ p.a = a ∧ p.b = b ∧ p.Ok ∧ p.len ≤ (if 0 < far then 1000000000000 else 4) ∧ p.nar.length ≤ l0 ∧ p.fl.length ≤ l1 ∧
      μ'[lf]? = some (.lst [.int (l0 - p.nar.length), .int (l1 - p.fl.length)]) ∧ Dk μ' k c r (N + 200) ∧ Keep [k, r, lf] μ μ' := by
  obtain ⟨L, μ1, q1, L1, L2, d1, k1⟩ := length_spec (far := far) h (by omega)
  have L3 : L ≤ 1000000000000 := by split at L2 <;> omega
  -- the narrow places
  obtain ⟨y, μ2, q2, y0, y1, d2, k2, z2⟩ := next_spec (j := 4) (d1.app (cs := [.lst [.int 0, .int 0, .int 1, .int 3]])) (by omega) (by decide) (by decide)
  obtain ⟨v, ev, v0, v1⟩ := pick4 (u := 3) y0 y1 (by omega)
  have hl1 := d1.lt
  have i2 : idxA (.ref μ1.length) (.int y) μ2 = .ok (.int v) μ2 := ix_lst (k2.get app_new (by simp; omega)) y0 ev
  have el1 := k1.get el (by simp [hk, hr])
  have jl0 : idxA (.ref lf) (.int 0) μ1 = .ok (.int l0) μ1 := ix_lst el1 (by decide) rfl
  obtain ⟨n3, xs, μ3, q3, e3, g3, s3, b3, c3, d3, k3⟩ := spots_spec (lo := 1) (hi := L - 1) (m := if v < l0 then v else l0) d2 (by omega) (by split <;> omega) (by split <;> omega) (by omega)
  -- the flaps
  obtain ⟨w, μ4, q4, w0, w1, d4, k4, z4⟩ := next_spec (j := 4) (d3.app (cs := [.lst [.int 0, .int 0, .int 1, .int 2]])) (by omega) (by decide) (by decide)
  obtain ⟨u, eu, u0, u1⟩ := pick4 (u := 2) w0 w1 (by omega)
  have hl3 := d3.lt
  have i4 : idxA (.ref μ3.length) (.int w) μ4 = .ok (.int u) μ4 := ix_lst (k4.get app_new (by simp; omega)) w0 eu
  have el3 := ((Keep.trans Keep.app k2).trans k3).get el1 (by simp [hk, hr])
  have jl1 : idxA (.ref lf) (.int 1) μ3 = .ok (.int l1) μ3 := ix_lst el3 (by decide) rfl
  obtain ⟨n5, ys, μ5, q5, e5, g5, s5, b5, c5, d5, k5⟩ := spots_spec (lo := 0) (hi := L - 1) (m := if u < l1 then u else l1) d4 (by omega) (by split <;> omega) (by split <;> omega) (by omega)
  have kk5 : Keep [k, r] μ3 μ5 := (Keep.trans Keep.app k4).trans k5
  have e3' := kk5.get e3 (by have := h.lt; have := k1.1; have := k2.1; simp at *; omega)
  have el5 := kk5.get el3 (by simp [hk, hr])
  -- what is left
  have hlf : lf < μ5.length := at_lt el5
  have f1 : n3 ≠ lf := by have := at_lt el; have := k1.1; have := k2.1; simp at *; omega
  have f2 : n5 ≠ lf := by have := at_lt el3; have := k4.1; simp at *; omega
  obtain ⟨μ6, h6⟩ : ∃ μ6, μ6 = μ5.set lf (.lst [.int (l0 - xs.length), .int l1]) := ⟨_, rfl⟩
  obtain ⟨μ7, h7⟩ : ∃ μ7, μ7 = μ6.set lf (.lst [.int (l0 - xs.length), .int (l1 - ys.length)]) := ⟨_, rfl⟩
  have g6 : idxA (.ref lf) (.int 0) μ5 = .ok (.int l0) μ5 := ix_lst el5 (by decide) rfl
  have t6 : setDD (.ref lf) (.int 0) (.int (l0 - xs.length)) μ5 = .ok () μ6 := by rw [h6]; exact set_lst' el5 (by decide) (by simp)
  have el6 : μ6[lf]? = some (.lst [.int (l0 - xs.length), .int l1]) := by rw [h6]; exact set_at hlf
  have g7 : idxA (.ref lf) (.int 1) μ6 = .ok (.int l1) μ6 := ix_lst el6 (by decide) rfl
  have t7 : setDD (.ref lf) (.int 1) (.int (l1 - ys.length)) μ6 = .ok () μ7 := by rw [h7]; exact set_lst' el6 (by decide) (by simp)
  have el7 : μ7[lf]? = some (.lst [.int (l0 - xs.length), .int (l1 - ys.length)]) := by rw [h7]; exact set_at (at_lt el6)
  have k67 : Keep [lf] μ5 μ7 := by rw [h7, h6]; exact (Keep.set (by simp)).trans (Keep.set (by simp))
  have e3'' := k67.get e3' (by simp [f1])
  have e5'' := k67.get e5 (by simp [f2])
  have e5_6 : μ6[n5]? = some (.lst (ys.map D.int)) := by rw [h6, set_ne' (Ne.symm f2)]; exact e5
  have d7 := d5.keep k67 (by simp [Ne.symm hk]) (by simp [Ne.symm hc]) (by simp [Ne.symm hr])
  have hn3 : n3 ≠ k ∧ n3 ≠ r := by have := h.lt; have := k1.1; have := k2.1; simp at *; omega
  have hn5 : n5 ≠ k ∧ n5 ≠ r := by have := d3.lt; have := k4.1; simp at *; omega
  -- the pairs
  obtain ⟨ps, μ8, q8, p1, p2, d8, k8⟩ := pairs_spec (P := fun z => 1 ≤ z ∧ z ≤ 1000000) (ρ0 := [some (.ref k), some (.int a), some (.int b), some (.ref lf), some (.int far), some (.int L), some (.ref n3), some (.ref n5), none, none])
    (te := mTup (mCons (mVar 9) (mCons (mBin addD (mC (.int 1)) (mB m_law_edge (mCons (mVar 0) (mCons (mBin idxA (mLst (mCons (mC (.int 3)) (mCons (mBin powD (mC (.int 10)) (mC (.int 6))) (mNil)))) (mVar 4)) (mNil))))) (mNil)))) 3 d7 e3'' hn3.1 hn3.2 (by split at c3 <;> omega) (fun x μ' M hd hM => by
      obtain ⟨z, μ2, q, z0, z1, dz, kz⟩ := edge_spec (j := if far = 0 then 3 else 1000000) (hd.app (cs := [.lst [.int 3, .int 1000000]])) (by omega) (by split <;> omega) (by split <;> omega)
      have ix : idxA (.ref μ'.length) (.int far) (μ' ++ [.lst [.int 3, .int 1000000]]) = .ok (.int (if far = 0 then 3 else 1000000)) (μ' ++ [.lst [.int 3, .int 1000000]]) := by
        rcases hf with rfl | rfl
        · exact ix_lst app_new (by decide) rfl
        · exact ix_lst app_new (by decide) rfl
      exact ⟨1 + z, μ2, by simp [powD, ix, q, add_ok, pairD], ⟨by omega, by split at z1 <;> omega⟩, dz, Keep.trans Keep.app kz⟩)
  have e5_8 := k8.get e5'' (by simp [hn5.1, hn5.2])
  obtain ⟨μ9, h9⟩ : ∃ μ9, μ9 = μ8 ++ [Cell.lst (ps.map pairD)] := ⟨_, rfl⟩
  have d9 : Dk μ9 k c r (N + 1 + 10 + 20 + 1 + 20 + 3 * 10) := by rw [h9]; exact d8.app.mono (by omega)
  have e5_9 : μ9[n5]? = some (.lst (ys.map D.int)) := by rw [h9]; exact app_at e5_8
  obtain ⟨fs, μA, qA, p1A, p2A, dA, kA⟩ := pairs_spec (P := fun z => z = 1 ∨ z = -1) (ρ0 := [some (.ref k), some (.int a), some (.int b), some (.ref lf), some (.int far), some (.int L), some (.ref n3), some (.ref n5), some (.tup (ps.map pairD)), none])
    (te := mTup (mCons (mVar 9) (mCons (mBin subD (mC (.int 1)) (mBin mulD (mC (.int 2)) (mB m_law_next (mCons (mVar 0) (mCons (mC (.int 2)) (mNil)))))) (mNil)))) 1 d9 e5_9 hn5.1 hn5.2 (by split at c5 <;> omega) (fun x μ' M hd hM => by
      obtain ⟨z, μ2, q, z0, z1, dz, kz, _⟩ := next_spec (j := 2) hd (by omega) (by decide) (by decide)
      exact ⟨1 - 2 * z, μ2, by simp [q, mul_ok, subD, pairD], by omega, dz, kz⟩)
  have hpl : ps.length = xs.length := by rw [← p1, List.length_map]
  have hfl : fs.length = ys.length := by rw [← p1A, List.length_map]
  have elA : μA[lf]? = some (.lst [.int (l0 - xs.length), .int (l1 - ys.length)]) := by
    have e8 := k8.get el7 (by simp [hk, hr])
    refine kA.get ?_ (by simp [hk, hr])
    rw [h9]; exact app_at e8
  refine ⟨⟨a, b, L, ps, fs⟩, μA ++ [.lst (fs.map pairD)], run_is ?_, rfl, rfl, ⟨L1, L3, by show (ps.map (·.1)).Pairwise _; rw [p1]; exact s3, fun x hx => ?_, by show (fs.map (·.1)).Pairwise _; rw [p1A]; exact s5, fun x hx => ?_⟩, L2, ?_, ?_, ?_, dA.app.mono (by omega), ?_⟩
  · unfold b_law_pipe
    rw [seq_set (d := .int L) (μ1 := μ1) (by simp [startR, q1])]
    rw [seq_set (d := .ref n3) (μ1 := μ3) (by simp [startR, subD, jl0, q2, i2, min2L, q3])]
    rw [seq_set (d := .ref n5) (μ1 := μ5) (by simp [startR, subD, jl1, q4, i4, min2L, q5])]
    rw [seq_asg (d := .int (l0 - xs.length)) (μ1 := μ5) (ρ2 := [some (.ref k), some (.int a), some (.int b), some (.ref lf), some (.int far), some (.int L), some (.ref n3), some (.ref n5), none, none]) (μ2 := μ6) (by simp [startR, g6, lenL, e3', subD]) (by simp [startR, t6])]
    rw [seq_asg (d := .int (l1 - ys.length)) (μ1 := μ6) (ρ2 := [some (.ref k), some (.int a), some (.int b), some (.ref lf), some (.int far), some (.int L), some (.ref n3), some (.ref n5), none, none]) (μ2 := μ7) (by simp [g7, lenL, e5_6, subD]) (by simp [t7])]
    have hw : wipeR [some (.ref k), some (.int a), some (.int b), some (.ref lf), some (.int far), some (.int L), some (.ref n3), some (.ref n5), none, none] [9] = [some (.ref k), some (.int a), some (.int b), some (.ref lf), some (.int far), some (.int L), some (.ref n3), some (.ref n5), none, none] := rfl
    rw [seq_set (d := .tup (ps.map pairD)) (μ1 := μ9) (by
      simp only [mB, mCons, mNil, mComp, iSeq, mVar, Res.bind, List.getElem?_cons_succ, List.getElem?_cons_zero, itSeq, e3'', hw, q8]
      simp [tupleL, h9])]
    refine ret_is ?_
    have hw2 : wipeR ([some (.ref k), some (.int a), some (.int b), some (.ref lf), some (.int far), some (.int L), some (.ref n3), some (.ref n5), none, none].set 8 (some (.tup (ps.map pairD)))) [9] = [some (.ref k), some (.int a), some (.int b), some (.ref lf), some (.int far), some (.int L), some (.ref n3), some (.ref n5), some (.tup (ps.map pairD)), none] := rfl
    simp only [mTup, mB, mCons, mNil, mComp, iSeq, mVar, Res.bind, List.set_cons_succ, List.set_cons_zero, List.getElem?_cons_succ, List.getElem?_cons_zero, itSeq, e5_9] at hw2 ⊢
    rw [hw2, qA]
    simp [tupleL, Pipe.d]
  · have h1 : x.1 ∈ xs := by rw [← p1]; exact List.mem_map_of_mem hx
    have h2 := p2 x hx
    have h3 := b3 _ h1
    exact ⟨h3.1, h3.2, h2.1, h2.2⟩
  · have h1 : x.1 ∈ ys := by rw [← p1A]; exact List.mem_map_of_mem hx
    have h3 := b5 _ h1
    exact ⟨h3.1, h3.2, p2A x hx⟩
  · show (ps.length : Int) ≤ l0
    rw [hpl]; split at c3 <;> omega
  · show (fs.length : Int) ≤ l1
    rw [hfl]; split at c5 <;> omega
  · show (μA ++ [.lst (fs.map pairD)])[lf]? = some (.lst [.int (l0 - ps.length), .int (l1 - fs.length)])
    rw [hpl, hfl]; exact app_at elA
  · have m2 : ∀ {μ μ' : Mem}, Keep [k, r] μ μ' → Keep [k, r, lf] μ μ' := fun q => q.mono fun i hi => .inl (by simp at hi ⊢; omega)
    have m3 : ∀ {μ μ' : Mem}, Keep [lf] μ μ' → Keep [k, r, lf] μ μ' := fun q => q.mono fun i hi => .inl (by simp at hi ⊢; omega)
    have c9 : Keep [k, r, lf] μ8 μ9 := by rw [h9]; exact Keep.app
    exact ((((m2 k1).trans (Keep.app)).trans (m2 k2)).trans (m2 k3)).trans (((m2 kk5).trans (m3 k67)).trans (((m2 k8).trans c9).trans ((m2 kA).trans Keep.app)))
/-! ### houses -/
def upTo (n : Nat) : List Int := (List.range n).map fun (i : Nat) => (i : Int)
theorem upTo_succ (n : Nat) : upTo (n + 1) = upTo n ++ [(n : Int)] := by simp [upTo, List.range_succ]
theorem upTo_len (n : Nat) : (upTo n).length = n := by simp [upTo]
theorem mem_upTo {n : Nat} {x : Int} : x ∈ upTo n ↔ 0 ≤ x ∧ x < n := by
  simp only [upTo, List.mem_map, List.mem_range]
  exact ⟨fun ⟨a, h, e⟩ => by omega, fun h => ⟨x.toNat, by omega, by omega⟩⟩
theorem upTo_nodup (n : Nat) : (upTo n).Nodup := by
  induction n with
  | zero => exact .nil
  | succ n ih =>
    rw [upTo_succ, List.nodup_append]
    exact ⟨ih, by simp, fun a ha b hb e => by simp at hb; have := (mem_upTo.mp ha); omega⟩
inductive Tree : List Int → List Pipe → Prop
  | one (x : Int) : Tree [x] []
  | grow {S : List Int} {ps1 ps2 : List Pipe} {p : Pipe} {x y : Int} (t : Tree S (ps1 ++ ps2)) (hy : y ∈ S) (hx : x ∉ S) (he : (p.a = y ∧ p.b = x) ∨ (p.a = x ∧ p.b = y)) (hl : p.a < p.b) : Tree (S ++ [x]) (ps1 ++ p :: ps2)
def houseD (R : Nat) (ps : List Pipe) : D := .tup [.int R, .tup (ps.map Pipe.d)]
structure House (R : Nat) (ps : List Pipe) : Prop where
  r1 : 1 ≤ R
  r2 : R ≤ 16
  tree : ∃ S : List Int, S.Perm (upTo R) ∧ Tree S ps
  len : ps.length + 1 = R
  ok : ∀ p ∈ ps, p.Ok
  rng : ∀ p ∈ ps, 0 ≤ p.a ∧ p.a < p.b ∧ p.b < R
  nar : ((ps.map fun p => (p.nar.length : Int)).sum) ≤ 12
  fla : ((ps.map fun p => (p.fl.length : Int)).sum) ≤ 6
theorem sum_ins (f : Pipe → Int) (l1 l2 : List Pipe) (p : Pipe) : ((l1 ++ [p] ++ l2).map f).sum = ((l1 ++ l2).map f).sum + f p := by
  simp only [List.map_append, List.map_cons, List.map_nil, List.sum_append, List.sum_cons, List.sum_nil]; omega
/-- the names in a drawn order -/
theorem names_spec {μ : Mem} {k c r N nm R : Nat} {o4 : Option D} {v1 v2 v3 : Option D} (h : Dk μ k c r N) (hN : N + 20 < 1000000) (hR : R ≤ 16) (en : μ[nm]? = some (.lst [])) (hk : nm ≠ k) (hc : nm ≠ c) (hr : nm ≠ r) :
    ∃ (o : Option D) (ns : List Int) (μ' : Mem), forL (fun _ => True) (gN 6) (sExpr (mMt isLst insertM (mVar 5) (mCons (mB m_law_next (mCons (mVar 0) (mCons (mBin addD (mVar 6) (mC (.int 1))) (mNil)))) (mCons (mVar 6) (mNil))))) (rangeItems 0 R)
      [some (.ref k), v1, v2, v3, o4, some (.ref nm), none, none, none, none, none, none] μ = .ok (.nx [some (.ref k), v1, v2, v3, o4, some (.ref nm), o, none, none, none, none, none]) μ' ∧
      μ'[nm]? = some (.lst (ns.map .int)) ∧ ns.Perm (upTo R) ∧ Dk μ' k c r (N + R) ∧ Keep [k, r, nm] μ μ' := by
  have loop1 := forL_ok (chk := fun _ => True) (g := gN 6) (body := sExpr (mMt isLst insertM (mVar 5) (mCons (mB m_law_next (mCons (mVar 0) (mCons (mBin addD (mVar 6) (mC (.int 1))) (mNil)))) (mCons (mVar 6) (mNil))))) (rangeItems 0 R)
    (fun i ρ μ' => i ≤ R ∧ ∃ (o : Option D) (ns : List Int), ρ = [some (.ref k), v1, v2, v3, o4, some (.ref nm), o, none, none, none, none, none] ∧ μ'[nm]? = some (.lst (ns.map .int)) ∧ ns.Perm (upTo i) ∧ Dk μ' k c r (N + i) ∧ Keep [k, r, nm] μ μ') 0
    (ρ := [some (.ref k), v1, v2, v3, o4, some (.ref nm), none, none, none, none, none, none]) (μ := μ)
    ⟨Nat.zero_le _, none, [], rfl, en, .refl _, h, .refl⟩ (fun _ _ _ _ => trivial) (fun i d ρ μ' e ⟨hi, o, ns, eρ, en, hp, hd, hk'⟩ => by
      simp only [Nat.zero_add] at hi eρ en hp hd hk' ⊢
      have hi2 : i < R := by have := (List.getElem?_eq_some_iff.mp e).1; simpa [rangeItems] using this
      have ed : d = .int (i : Int) := by
        rw [rangeItems, List.getElem?_map, List.getElem?_range hi2] at e
        simpa using e.symm
      subst ed eρ
      obtain ⟨y, μ2, q, y0, y1, d2, k2, _⟩ := next_spec (j := (i : Int) + 1) hd (by omega) (by omega) (by omega)
      have hlen : ns.length = i := by rw [hp.length_eq, upTo_len]
      have en2 := k2.get en (by simp [hk, hr])
      refine .mk (μ := μ') rfl (.mk (a := .nx [some (.ref k), v1, v2, v3, o4, some (.ref nm), some (.int i), none, none, none, none, none]) (μ := μ2.set nm (.lst ((ns.map D.int).take y.toNat ++ [.int i] ++ (ns.map D.int).drop y.toNat))) ?_ ⟨_, .inl rfl, by omega, some (.int i), ns.take y.toNat ++ [(i : Int)] ++ ns.drop y.toNat, rfl, ?_, ?_, ?_, ?_⟩)
      · simp [isLst, en, add_ok, q, ins_ok en2 y0 (by omega) (by simp; omega)]
      · rw [set_at (at_lt en2)]; simp [List.map_take, List.map_drop]
      · rw [upTo_succ]
        refine .trans ?_ (hp.append_right _)
        have h2 : (ns.take y.toNat ++ [(i : Int)] ++ ns.drop y.toNat).Perm (ns.take y.toNat ++ (ns.drop y.toNat ++ [(i : Int)])) := by
          rw [List.append_assoc]; exact (List.perm_append_comm).append_left _
        rw [← List.append_assoc, List.take_append_drop] at h2
        exact h2
      · exact (d2.keep (ex := [nm]) (Keep.set (by simp)) (by simp [Ne.symm hk]) (by simp [Ne.symm hc]) (by simp [Ne.symm hr])).mono (by omega)
      · exact (hk'.trans (k2.mono fun i hi => .inl (by simp at hi ⊢; omega))).trans (Keep.set (by simp)))
  have hrl : (rangeItems 0 R).length = R := by simp [rangeItems]
  rw [hrl, Nat.zero_add] at loop1
  obtain ⟨f1, μ2, w1, ρ1, rfl, _, o1, ns, rfl, en, hp, d2, k2⟩ := loop1
  exact ⟨o1, ns, μ2, w1, en, hp, d2, k2⟩
/-- what holds while the pipes are laid: i of them -/
structure Laid (R : Nat) (far fl : Int) (ns : List Int) (i : Nat) (ps : List Pipe) (l0 l1 : Int) : Prop where
  h0 : 0 ≤ l0
  h1 : 0 ≤ l1
  len : ps.length = i
  tree : Tree (ns.take (i + 1)) ps
  ok : ∀ p ∈ ps, p.Ok
  rng : ∀ p ∈ ps, 0 ≤ p.a ∧ p.a < p.b ∧ p.b < R
  nar : ((ps.map fun p => (p.nar.length : Int)).sum) + l0 = 12
  fla : ((ps.map fun p => (p.fl.length : Int)).sum) + l1 = 6 * fl
  lng : ∀ p ∈ ps, p.len ≤ (if 0 < far then 1000000000000 else 4)
theorem Laid.more {R i w : Nat} {far fl l0 l1 u v a b : Int} {ns : List Int} {ps : List Pipe} {p : Pipe} (L : Laid R far fl ns i ps l0 l1) (hw : w ≤ i) (hin : i + 1 < ns.length) (hv : ns[i + 1]'hin = v) (hum : u ∈ ns.take (i + 1)) (hvn : v ∉ ns.take (i + 1))
    (hur : 0 ≤ u ∧ u < R) (hvr : 0 ≤ v ∧ v < R) (he : ((a = u ∧ b = v) ∨ (a = v ∧ b = u)) ∧ a < b) (pa : p.a = a) (pb : p.b = b) (pok : p.Ok) (plen : p.len ≤ (if 0 < far then 1000000000000 else 4)) (pn : p.nar.length ≤ l0) (pf : p.fl.length ≤ l1) :
    Laid R far fl ns (i + 1) (ps.take w ++ [p] ++ ps.drop w) (l0 - p.nar.length) (l1 - p.fl.length) := by
  obtain ⟨g0, g1, hpl, ht, hok, hrg, hs0, hs1, hln⟩ := L
  have hmem : ∀ q ∈ ps.take w ++ [p] ++ ps.drop w, q = p ∨ q ∈ ps := fun q hq => by
    rcases List.mem_append.mp hq with hq | hq
    · rcases List.mem_append.mp hq with hq | hq
      · exact .inr (List.mem_of_mem_take hq)
      · simp at hq; exact .inl hq
    · exact .inr (List.mem_of_mem_drop hq)
  refine ⟨by omega, by omega, ?_, ?_, fun q hq => ?_, fun q hq => ?_, ?_, ?_, fun q hq => ?_⟩
  · simp; omega
  · rw [List.take_add_one, List.getElem?_eq_getElem hin, hv]
    have ht' : Tree (ns.take (i + 1)) (ps.take w ++ ps.drop w) := by rw [List.take_append_drop]; exact ht
    have := Tree.grow (p := p) (x := v) (y := u) ht' hum hvn (by
      rcases he.1 with ⟨h1, h2⟩ | ⟨h1, h2⟩
      · exact .inl ⟨by rw [pa, h1], by rw [pb, h2]⟩
      · exact .inr ⟨by rw [pa, h1], by rw [pb, h2]⟩) (by rw [pa, pb]; exact he.2)
    rw [List.append_assoc]
    exact this
  · rcases hmem q hq with rfl | hq
    · exact pok
    · exact hok q hq
  · rcases hmem q hq with rfl | hq
    · rw [pa, pb]; rcases he.1 with ⟨h1, h2⟩ | ⟨h1, h2⟩ <;> omega
    · exact hrg q hq
  · rw [sum_ins, List.take_append_drop]; omega
  · rw [sum_ins, List.take_append_drop]; omega
  · rcases hmem q hq with rfl | hq
    · exact plen
    · exact hln q hq
noncomputable abbrev layB : MS := sSeq (sSet 10 (mB sortedA (mCons (mLst (mCons (mBin idxA (mVar 5) (mB m_law_next (mCons (mVar 0) (mCons (mVar 9) (mNil))))) (mCons (mBin idxA (mVar 5) (mVar 9)) (mNil)))) (mNil))))
    (sSeq (sSet 11 (mB m_law_pipe (mCons (mVar 0) (mCons (mBin idxA (mVar 10) (mC (.int 0))) (mCons (mBin idxA (mVar 10) (mC (.int 1))) (mCons (mVar 8) (mCons (mVar 2) (mNil))))))))
    (sExpr (mMt isLst insertM (mVar 7) (mCons (mB m_law_next (mCons (mVar 0) (mCons (mVar 9) (mNil)))) (mCons (mVar 11) (mNil))))))
/-- one more pipe -/
theorem lay_step {μ : Mem} {k c r N nm pp lf R i : Nat} {far fl l0 l1 : Int} {v1 v3 v4 v6 a10 a11 : Option D} {ns : List Int} {ps : List Pipe} (h : Dk μ k c r N) (hN : N + 202 < 1000000) (hf : far = 0 ∨ far = 1) (hR : R ≤ 16) (hp : ns.Perm (upTo R)) (hi2 : i < R - 1)
    (L : Laid R far fl ns i ps l0 l1) (en : μ[nm]? = some (.lst (ns.map .int))) (ep : μ[pp]? = some (.lst (ps.map Pipe.d))) (el : μ[lf]? = some (.lst [.int l0, .int l1])) (a1 : nm ≠ k) (a2 : nm ≠ r) (a3 : pp ≠ k) (a4 : pp ≠ c) (a5 : pp ≠ r) (a6 : lf ≠ k) (a7 : lf ≠ c) (a8 : lf ≠ r) (a9 : pp ≠ lf) :
    ∃ (b10 b11 : D) (ps' : List Pipe) (m0 m1 : Int) (μ' : Mem), layB [some (.ref k), v1, some (.int far), v3, v4, some (.ref nm), v6, some (.ref pp), some (.ref lf), some (.int (1 + (i : Int))), a10, a11] μ =
      .ok (.nx [some (.ref k), v1, some (.int far), v3, v4, some (.ref nm), v6, some (.ref pp), some (.ref lf), some (.int (1 + (i : Int))), some b10, some b11]) μ' ∧ Laid R far fl ns (i + 1) ps' m0 m1 ∧
      μ'[pp]? = some (.lst (ps'.map Pipe.d)) ∧ μ'[lf]? = some (.lst [.int m0, .int m1]) ∧ Dk μ' k c r (N + 202) ∧ Keep [k, r, pp, lf] μ μ' := by
  have hnl : ns.length = R := by rw [hp.length_eq, upTo_len]
  have hns : ns.Nodup := hp.nodup_iff.mpr (upTo_nodup R)
  obtain ⟨y, μ4, q4, y0, y1, d4, k4, z4⟩ := next_spec (j := 1 + (i : Int)) h (by omega) (by omega) (by omega)
  have en4 : μ4[nm]? = some (.lst (ns.map .int)) := k4.get en (by simp [a1, a2])
  have hyn : y.toNat < ns.length := by omega
  have hin : i + 1 < ns.length := by omega
  have ij : idxA (.ref nm) (.int y) μ4 = .ok (.int (ns[y.toNat]'hyn)) μ4 := ix_lst en4 y0 (by rw [List.getElem?_map, List.getElem?_eq_getElem hyn]; rfl)
  have ik : idxA (.ref nm) (.int (1 + (i : Int))) μ4 = .ok (.int (ns[i + 1]'hin)) μ4 := ix_lst en4 (by omega) (by rw [show (1 + (i : Int)).toNat = i + 1 by omega, List.getElem?_map, List.getElem?_eq_getElem hin]; rfl)
  have hne : ns[y.toNat]'hyn ≠ ns[i + 1]'hin := fun z => by
    have := (List.getElem_inj hns).mp z
    omega
  generalize hu : ns[y.toNat]'hyn = u at ij hne
  generalize hv : ns[i + 1]'hin = v at ik hne
  have hum : u ∈ ns.take (i + 1) := by
    rw [List.mem_take_iff_getElem]
    exact ⟨y.toNat, by omega, hu⟩
  have hvn : v ∉ ns.take (i + 1) := fun z => by
    rw [List.mem_take_iff_getElem] at z
    obtain ⟨j, hj, e⟩ := z
    have := (List.getElem_inj hns).mp (e.trans hv.symm)
    omega
  have hur : 0 ≤ u ∧ u < R := mem_upTo.mp (hp.subset (hu ▸ List.getElem_mem hyn))
  have hvr : 0 ≤ v ∧ v < R := mem_upTo.mp (hp.subset (hv ▸ List.getElem_mem hin))
  obtain ⟨a, b, hab, he⟩ : ∃ a b, isort [u, v] = [a, b] ∧ ((a = u ∧ b = v) ∨ (a = v ∧ b = u)) ∧ a < b := by
    by_cases huv : u ≤ v
    · exact ⟨u, v, by simp [isort, insI, huv], .inl ⟨rfl, rfl⟩, by omega⟩
    · exact ⟨v, u, by simp [isort, insI, huv], .inr ⟨rfl, rfl⟩, by omega⟩
  obtain ⟨μ5, h5⟩ : ∃ μ5, μ5 = μ4 ++ [Cell.lst [.int u, .int v]] ++ [Cell.lst [.int a, .int b]] := ⟨_, rfl⟩
  have k45 : Keep [] μ4 μ5 := by rw [h5]; exact Keep.trans Keep.app Keep.app
  have l4 := d4.lt
  have e5 : μ5[μ4.length + 1]? = some (.lst [.int a, .int b]) := by rw [h5, show μ4.length + 1 = (μ4 ++ [Cell.lst [D.int u, .int v]]).length by simp]; exact app_new
  have el5 := k45.get (k4.get el (by simp [a6, a8])) (by simp)
  obtain ⟨p, μ6, q6, pa, pb, pok, plen, pn, pf, el6, d6, k6⟩ := pipe_spec (far := far) (a := a) (b := b) (d4.keep k45 (by simp) (by simp) (by simp)) (by omega) hf el5 a6 a7 a8 L.h0 L.h1
  have ep6 := k6.get (k45.get (k4.get ep (by simp [a3, a5])) (by simp)) (by simp [a3, a5, a9])
  obtain ⟨w, μ7, q7, w0, w1, d7, k7, z7⟩ := next_spec (j := 1 + (i : Int)) d6 (by omega) (by omega) (by omega)
  have ep7 := k7.get ep6 (by simp [a3, a5])
  have el7 := k7.get el6 (by simp [a6, a8])
  have hpl := L.len
  have hpd : (ps.map Pipe.d).take w.toNat ++ [p.d] ++ (ps.map Pipe.d).drop w.toNat = (ps.take w.toNat ++ [p] ++ ps.drop w.toNat).map Pipe.d := by simp [List.map_take, List.map_drop]
  refine ⟨.ref (μ4.length + 1), p.d, ps.take w.toNat ++ [p] ++ ps.drop w.toNat, l0 - p.nar.length, l1 - p.fl.length, μ7.set pp (.lst ((ps.take w.toNat ++ [p] ++ ps.drop w.toNat).map Pipe.d)), ?_, L.more (by omega) hin hv hum hvn hur hvr he pa pb pok plen pn pf, set_at (at_lt ep7), ?_, ?_, ?_⟩
  · unfold layB
    rw [seq_set (d := .ref (μ4.length + 1)) (μ1 := μ5) (by
      have h3' : intsAt (.ref μ4.length) (μ4 ++ [Cell.lst [D.int u, .int v]]) = some [u, v] := by simp [intsAt, toInts]
      have h4' : (μ4 ++ [Cell.lst [D.int u, .int v]])[μ4.length]? = some (Cell.lst [D.int u, .int v]) := app_new
      simp [q4, ij, ik, sortedA, sortedL, h3', h4', hab, h5])]
    have i0 : idxA (.ref (μ4.length + 1)) (.int 0) μ5 = .ok (.int a) μ5 := ix_lst e5 (by decide) rfl
    have i1 : idxA (.ref (μ4.length + 1)) (.int 1) μ5 = .ok (.int b) μ5 := ix_lst e5 (by decide) rfl
    rw [seq_set (d := p.d) (μ1 := μ6) (by simp [i0, i1, q6])]
    rw [← hpd]
    simp [isLst, ep6, q7, ins_ok ep7 w0 (by omega) (by simp; omega)]
  · rw [set_ne' a9]; exact el7
  · exact (d7.keep (ex := [pp]) (Keep.set (by simp)) (by simp [Ne.symm a3]) (by simp [Ne.symm a4]) (by simp [Ne.symm a5])).mono (by omega)
  · have m1 : ∀ {μ μ' : Mem}, Keep [k, r] μ μ' → Keep [k, r, pp, lf] μ μ' := fun q => q.mono fun i hi => .inl (by simp at hi ⊢; omega)
    have m2 : ∀ {μ μ' : Mem}, Keep [] μ μ' → Keep [k, r, pp, lf] μ μ' := fun q => q.mono fun i hi => by simp at hi
    have m3 : ∀ {μ μ' : Mem}, Keep [k, r, lf] μ μ' → Keep [k, r, pp, lf] μ μ' := fun q => q.mono fun i hi => .inl (by simp at hi ⊢; omega)
    exact (((m1 k4).trans (m2 k45)).trans ((m3 k6).trans (m1 k7))).trans (Keep.set (by simp))
theorem lay_spec {μ : Mem} {k c r N nm pp lf R : Nat} {far fl : Int} {v1 v3 v4 v6 : Option D} {ns : List Int} (h : Dk μ k c r N) (hN : N + 202 * 16 < 1000000) (hf : far = 0 ∨ far = 1) (hfl : fl = 0 ∨ fl = 1) (hR1 : 1 ≤ R) (hR : R ≤ 16) (hp : ns.Perm (upTo R))
    (en : μ[nm]? = some (.lst (ns.map .int))) (ep : μ[pp]? = some (.lst [])) (el : μ[lf]? = some (.lst [.int 12, .int (6 * fl)])) (a1 : nm ≠ k) (a2 : nm ≠ r) (a3 : pp ≠ k) (a4 : pp ≠ c) (a5 : pp ≠ r) (a6 : lf ≠ k) (a7 : lf ≠ c) (a8 : lf ≠ r) (a9 : pp ≠ lf) (a10 : nm ≠ pp) (a11 : nm ≠ lf) :
    ∃ (b9 b10 b11 : Option D) (ps : List Pipe) (m0 m1 : Int) (μ' : Mem), forL (fun _ => True) (gN 9) layB (rangeItems 1 (R - 1)) [some (.ref k), v1, some (.int far), v3, v4, some (.ref nm), v6, some (.ref pp), some (.ref lf), none, none, none] μ =
      .ok (.nx [some (.ref k), v1, some (.int far), v3, v4, some (.ref nm), v6, some (.ref pp), some (.ref lf), b9, b10, b11]) μ' ∧ Laid R far fl ns (R - 1) ps m0 m1 ∧ μ'[pp]? = some (.lst (ps.map Pipe.d)) ∧ Dk μ' k c r (N + 202 * 16) ∧ Keep [k, r, pp, lf] μ μ' := by
  have hnl : ns.length = R := by rw [hp.length_eq, upTo_len]
  obtain ⟨n0, nr, hnn⟩ : ∃ n0 nr, ns = n0 :: nr := by
    cases ns with
    | nil => simp at hnl; omega
    | cons a b => exact ⟨a, b, rfl⟩
  have loop2 := forL_ok (chk := fun _ => True) (g := gN 9) (body := layB) (rangeItems 1 (R - 1))
    (fun i ρ μ' => i ≤ R - 1 ∧ ∃ (b9 b10 b11 : Option D) (ps : List Pipe) (l0 l1 : Int), ρ = [some (.ref k), v1, some (.int far), v3, v4, some (.ref nm), v6, some (.ref pp), some (.ref lf), b9, b10, b11] ∧ Laid R far fl ns i ps l0 l1 ∧
      μ'[pp]? = some (.lst (ps.map Pipe.d)) ∧ μ'[lf]? = some (.lst [.int l0, .int l1]) ∧ Dk μ' k c r (N + 202 * i) ∧ Keep [k, r, pp, lf] μ μ') 0
    (ρ := [some (.ref k), v1, some (.int far), v3, v4, some (.ref nm), v6, some (.ref pp), some (.ref lf), none, none, none]) (μ := μ)
    ⟨Nat.zero_le _, none, none, none, [], 12, 6 * fl, rfl, ⟨by omega, by omega, rfl, by rw [hnn]; exact .one n0, by simp, by simp, by simp, by simp, by simp⟩, ep, el, h, .refl⟩ (fun _ _ _ _ => trivial)
    (fun i d ρ μ' e ⟨hi, b9, b10, b11, ps, l0, l1, eρ, L, ep, el, hd, hk⟩ => by
      simp only [Nat.zero_add] at hi eρ L ep el hd hk ⊢
      have hi2 : i < R - 1 := by have := (List.getElem?_eq_some_iff.mp e).1; simpa [rangeItems] using this
      have ed : d = .int (1 + (i : Int)) := by
        rw [rangeItems, List.getElem?_map, List.getElem?_range hi2] at e
        simpa using e.symm
      subst ed eρ
      obtain ⟨c10, c11, ps', m0, m1, μ2, q, L', ep', el', d', k'⟩ := lay_step (v1 := v1) (v3 := v3) (v4 := v4) (v6 := v6) (a10 := b10) (a11 := b11) hd (by omega) hf hR hp hi2 L (hk.get en (by simp [a1, a2, a10, a11])) ep el a1 a2 a3 a4 a5 a6 a7 a8 a9
      exact .mk (μ := μ') rfl (.mk q ⟨_, .inl rfl, by omega, _, _, _, ps', m0, m1, rfl, L', ep', el', d'.mono (by omega), hk.trans k'⟩))
  have hrl2 : (rangeItems 1 (R - 1)).length = R - 1 := by simp [rangeItems]
  rw [hrl2, Nat.zero_add] at loop2
  obtain ⟨f2, μ4, w2, ρ2, rfl, _, b9, b10, b11, ps, l0, l1, rfl, L, ep, el, d4, k4⟩ := loop2
  exact ⟨b9, b10, b11, ps, l0, l1, μ4, w2, L, ep, d4.mono (by omega), k4⟩
end K01

namespace K01
open PySem L2 RW
theorem house_spec {μ : Mem} {k c r N : Nat} {most far fl : Int} (h : Dk μ k c r N) (hN : N + 5000 < 1000000) (hm : 1 ≤ most) (hm2 : most ≤ 16) (hf : far = 0 ∨ far = 1) (hfl : fl = 0 ∨ fl = 1) :
    ∃ (R : Nat) (ps : List Pipe) (μ' : Mem), m_law_house [.ref k, .int most, .int far, .int fl] μ = .ok (houseD R ps) μ' ∧ House R ps ∧ (R : Int) ≤ most ∧ (∀ p ∈ ps, p.len ≤ (if 0 < far then 1000000000000 else 4)) ∧ Dk μ' k c r (N + 5000) ∧ Keep [k, r] μ μ' := by
  obtain ⟨x, μ1, q1, x0, x1, d1, k1, z1⟩ := next_spec (j := most) h (by omega) (by omega) (by omega)
  obtain ⟨R, hR⟩ : ∃ R : Nat, 1 + x = (R : Int) := ⟨(1 + x).toNat, by omega⟩
  have l1 := d1.lt
  have hR16 : R ≤ 16 := by omega
  have hR1 : 1 ≤ R := by omega
  obtain ⟨o1, ns, μ2, w1, en, hp, d2, k2⟩ := names_spec (nm := μ1.length) (R := R) (o4 := some (.int R)) (v1 := some (.int most)) (v2 := some (.int far)) (v3 := some (.int fl)) (d1.app (cs := [.lst []])) (by omega) hR16 app_new (by omega) (by omega) (by omega)
  have l2 := d2.lt
  have ln := at_lt en
  obtain ⟨μ3, h3⟩ : ∃ μ3, μ3 = μ2 ++ [Cell.lst []] ++ [Cell.lst [.int 12, .int (6 * fl)]] := ⟨_, rfl⟩
  have k23 : Keep [] μ2 μ3 := by rw [h3]; exact Keep.trans Keep.app Keep.app
  have l3 : μ3.length = μ2.length + 2 := by rw [h3]; simp
  have ep3 : μ3[μ2.length]? = some (.lst []) := by rw [h3]; exact app_at app_new
  have el3 : μ3[μ2.length + 1]? = some (.lst [.int 12, .int (6 * fl)]) := by rw [h3, show μ2.length + 1 = (μ2 ++ [Cell.lst []]).length by simp]; exact app_new
  obtain ⟨b9, b10, b11, ps, m0, m1, μ4, w2, L, ep, d4, k4⟩ := lay_spec (nm := μ1.length) (pp := μ2.length) (lf := μ2.length + 1) (v1 := some (.int most)) (v3 := some (.int fl)) (v4 := some (.int R)) (v6 := o1) (d2.keep k23 (by simp) (by simp) (by simp)) (by omega) hf hfl hR1 hR16 hp
    (k23.get en (by simp)) ep3 el3 (by omega) (by omega) (by omega) (by omega) (by omega) (by omega) (by omega) (by omega) (by omega) (by omega) (by omega)
  have hnl : ns.length = R := by rw [hp.length_eq, upTo_len]
  have ht := L.tree
  rw [show R - 1 + 1 = ns.length by omega, List.take_length] at ht
  have n0 := L.nar
  have f0 := L.fla
  have g0 := L.h0
  have g1 := L.h1
  refine ⟨R, ps, μ4, run_is ?_, ⟨hR1, hR16, ⟨ns, hp, ht⟩, by rw [L.len]; omega, L.ok, L.rng, by omega, by omega⟩, by omega, L.lng, d4.mono (by omega), ?_⟩
  · unfold b_law_house
    rw [seq_set (d := .int R) (μ1 := μ1) (by simp [startR, q1, add_ok, hR])]
    rw [seq_set (d := .ref μ1.length) (μ1 := μ1 ++ [.lst []]) (by simp)]
    refine (seq_run (for_run (ir1 (n := R) (e := mVar 4) rfl (by omega)) w1)).trans ?_
    rw [seq_set (d := .ref μ2.length) (μ1 := μ2 ++ [.lst []]) (by simp)]
    rw [seq_set (d := .ref (μ2.length + 1)) (μ1 := μ3) (by simp [h3, mul_ok])]
    refine (seq_run (for_run (ir2 (m := 1) (n := R) (e := mC (.int 1)) (f := mVar 4) rfl rfl (by omega) (by omega)) w2)).trans ?_
    refine ret_is ?_
    simp [tupleL, ep, houseD]
  · have s1 : Keep [k, r] μ (μ1 ++ [Cell.lst []]) := k1.trans Keep.app
    have s2 : Keep [k, r] μ μ2 := ((s1.mono (ex' := [k, r, μ1.length]) fun i hi => .inl (by simp at hi ⊢; omega)).trans k2).mono fun i hi => by
      simp at hi ⊢; omega
    have s3 : Keep [k, r] μ μ3 := s2.trans (k23.mono fun i hi => by simp at hi)
    have z2 := s2.1
    exact ((s3.mono (ex' := [k, r, μ2.length, μ2.length + 1]) fun i hi => .inl (by simp at hi ⊢; omega)).trans k4).mono fun i hi => by
      simp at hi ⊢; omega
end K01

/-! Q1: things that are shown (repr), whatever they are. -/
namespace K01
open PySem L2 RW
theorem sh_up {μ : Mem} : ∀ (n : Nat) (d : D) (p : PyData), D.sh? n μ d = some p → D.sh? (n + 1) μ d = some p := by
  have key : ∀ n, (∀ (d : D) (p : PyData), D.sh? n μ d = some p → D.sh? (n + 1) μ d = some p) → ∀ (l : List D) (ps : List PyData), D.shs? n μ l = some ps → D.shs? (n + 1) μ l = some ps := by
    intro n h l
    induction l with
    | nil => intro ps e; unfold D.shs? at e ⊢; exact e
    | cons d l ih =>
      intro ps e
      unfold D.shs? at e ⊢
      split at e
      · rename_i k r e1 e2
        rw [h d k e1, ih r e2]
        exact e
      · cases e
  intro n
  induction n with
  | zero =>
    intro d p e
    cases d <;> (unfold D.sh? at e ⊢; first | exact e | cases e)
  | succ n ih =>
    intro d p e
    cases d with
    | tup l =>
      unfold D.sh? at e ⊢
      obtain ⟨ps, e1, rfl⟩ := Option.map_eq_some_iff.mp e
      rw [key n ih l ps e1]; rfl
    | ref m =>
      unfold D.sh? at e ⊢
      split at e
      · rename_i l em
        obtain ⟨ps, e1, rfl⟩ := Option.map_eq_some_iff.mp e
        simp only [em, key n ih l ps e1]; rfl
      · rename_i em
        exact e
      · cases e
    | _ => unfold D.sh? at e ⊢; first | exact e | cases e
theorem sh_le {μ : Mem} {n m : Nat} (h : n ≤ m) {d : D} {p : PyData} (e : D.sh? n μ d = some p) : D.sh? m μ d = some p := by
  obtain ⟨k, rfl⟩ := Nat.le.dest h
  clear h
  induction k with
  | zero => exact e
  | succ k ih => exact sh_up _ _ _ ih
theorem shs_le {μ : Mem} {n m : Nat} (h : n ≤ m) : ∀ {l : List D} {ps : List PyData}, D.shs? n μ l = some ps → D.shs? m μ l = some ps
  | [], ps, e => by unfold D.shs? at e ⊢; exact e
  | d :: l, ps, e => by
    unfold D.shs? at e ⊢
    split at e
    · rename_i k r e1 e2
      rw [sh_le h e1, shs_le h e2]
      exact e
    · cases e
theorem sh_ty {μ : Mem} {n : Nat} {d : D} {p : PyData} (e : D.sh? n μ d = some p) : ∃ t, tyD d μ = some t := by
  cases d with
  | ref m =>
    cases n with
    | zero => unfold D.sh? at e; cases e
    | succ n =>
      unfold D.sh? at e
      split at e
      · rename_i l em; exact ⟨"list", by simp only [tyD, em]⟩
      · rename_i em; exact ⟨"dict", by simp only [tyD, em]⟩
      · cases e
  | fn x => cases n <;> (unfold D.sh? at e; cases e)
  | _ => exact ⟨_, rfl⟩
/-- a thing that stays what it shows while the cells but ex stay -/
structure Thg (ex : List Nat) (μ : Mem) (n B : Nat) (d : D) (p : PyData) : Prop where
  sh : ∀ μ', Keep ex μ μ' → D.sh? n μ' d = some p
  ok : p.showable = true
  short : p.leavesShort 60 = true
  small : p.bulk ≤ B
  deep : p.depth ≤ n
structure Thgs (ex : List Nat) (μ : Mem) (n B : Nat) (l : List D) (ps : List PyData) : Prop where
  sh : ∀ μ', Keep ex μ μ' → D.shs? n μ' l = some ps
  ok : PyData.showableAll ps = true
  short : PyData.leavesShortAll 60 ps = true
  small : PyData.bulkAll ps ≤ B
  deep : PyData.depthAll ps ≤ n
section
variable {ex : List Nat} {μ μ' : Mem} {n m B C : Nat} {d : D} {p : PyData} {l : List D} {ps : List PyData}
theorem Thg.keep (T : Thg ex μ n B d p) (k : Keep ex μ μ') : Thg ex μ' n B d p := ⟨fun μ2 k2 => T.sh μ2 (k.trans k2), T.ok, T.short, T.small, T.deep⟩
theorem Thgs.keep (T : Thgs ex μ n B l ps) (k : Keep ex μ μ') : Thgs ex μ' n B l ps := ⟨fun μ2 k2 => T.sh μ2 (k.trans k2), T.ok, T.short, T.small, T.deep⟩
theorem Thg.le (T : Thg ex μ n B d p) (h : n ≤ m) (h2 : B ≤ C) : Thg ex μ m C d p := ⟨fun μ2 k2 => sh_le h (T.sh μ2 k2), T.ok, T.short, Nat.le_trans T.small h2, Nat.le_trans T.deep h⟩
theorem Thgs.le (T : Thgs ex μ n B l ps) (h : n ≤ m) (h2 : B ≤ C) : Thgs ex μ m C l ps := ⟨fun μ2 k2 => shs_le h (T.sh μ2 k2), T.ok, T.short, Nat.le_trans T.small h2, Nat.le_trans T.deep h⟩
theorem Thg.ty (T : Thg ex μ n B d p) : ∃ t, tyD d μ = some t := sh_ty (T.sh μ .refl)
theorem thg_non : Thg ex μ n B .non .none := ⟨fun _ _ => by unfold D.sh?; rfl, rfl, rfl, Nat.zero_le _, Nat.zero_le _⟩
theorem thg_bl {b : Bool} : Thg ex μ n B (.bl b) (.bool b) := ⟨fun _ _ => by unfold D.sh?; rfl, rfl, rfl, Nat.zero_le _, Nat.zero_le _⟩
theorem thg_int {i : Int} (h : i.natAbs < 10 ^ 50) : Thg ex μ n B (.int i) (.int i) := ⟨fun _ _ => by unfold D.sh?; rfl, by
  simp only [PyData.showable, decide_eq_true_eq]
  have h1 : i.natAbs < 2 ^ 170 := Nat.lt_of_lt_of_le h (by decide)
  by_cases h0 : i.natAbs = 0
  · rw [h0]; decide
  · have := (Nat.log2_lt h0).mpr h1
    omega, by
  simp only [PyData.leavesShort, decide_eq_true_eq]
  have := int_text_length_le10 (k := 50) (by decide) h
  have e : (PyData.shown (.int i)).length = (toString i).length := by
    simp only [PyData.shown]
    exact ofString_length _
  omega, Nat.zero_le _, Nat.zero_le _⟩
theorem thg_str {s : Str} (h : s.cps.toList.all (fun c => decide (c < 16 ^ 8)) = true) (h2 : s.cps.size ≤ B) : Thg ex μ n B (.str s) (.str s) := ⟨fun _ _ => by unfold D.sh?; rfl, rfl, h, h2, Nat.zero_le _⟩
theorem thgs_nil : Thgs ex μ n 0 [] [] := ⟨fun _ _ => by unfold D.shs?; rfl, rfl, rfl, Nat.le_refl _, Nat.zero_le _⟩
theorem thgs_cons (T : Thg ex μ n B d p) (Ts : Thgs ex μ n C l ps) : Thgs ex μ n (B + 1 + C) (d :: l) (p :: ps) := ⟨fun μ2 k2 => by
  unfold D.shs?
  rw [T.sh μ2 k2, Ts.sh μ2 k2], by simp [PyData.showableAll, T.ok, Ts.ok], by simp [PyData.leavesShortAll, T.short, Ts.short], by
  have := T.small; have := Ts.small
  simp only [PyData.bulkAll]; omega, by
  simp only [PyData.depthAll]
  exact Nat.max_le.mpr ⟨T.deep, Ts.deep⟩⟩
theorem thg_tup (Ts : Thgs ex μ n B l ps) : Thg ex μ (n + 1) B (.tup l) (.tuple ps) := ⟨fun μ2 k2 => by
  unfold D.sh?
  rw [Ts.sh μ2 k2]; rfl, Ts.ok, Ts.short, Ts.small, by simp only [PyData.depth]; exact Nat.succ_le_succ Ts.deep⟩
theorem thg_lst {a : Nat} (e : μ[a]? = some (.lst l)) (ha : a ∉ ex) (Ts : Thgs ex μ n B l ps) : Thg ex μ (n + 1) B (.ref a) (.list ps) := ⟨fun μ2 k2 => by
  unfold D.sh?
  rw [k2.get e ha]
  simp only [Ts.sh μ2 k2]; rfl, Ts.ok, Ts.short, Ts.small, by simp only [PyData.depth]; exact Nat.succ_le_succ Ts.deep⟩
theorem thg_dic {a : Nat} (e : μ[a]? = some (.dic [])) (ha : a ∉ ex) : Thg ex μ (n + 1) B (.ref a) (.dict []) := ⟨fun μ2 k2 => by
  unfold D.sh?
  rw [k2.get e ha], rfl, rfl, Nat.zero_le _, by simp [PyData.depth, PyData.depthKv]⟩
/-- repr([x, y]) -/
theorem repr_two {x y : D} {a b : PyData} (T : Thg ex μ 6 1000 x a) (U : Thg ex μ 6 1000 y b) : reprL [.ref μ.length] (μ ++ [.lst [x, y]]) = .ok (.str (PyData.list [a, b]).shown) (μ ++ [.lst [x, y]]) := by
  have k : Keep ex μ (μ ++ [.lst [x, y]]) := Keep.app
  have Ts := thgs_cons (T.keep k) (thgs_cons (U.keep k) thgs_nil)
  have e : D.sh? 8 (μ ++ [.lst [x, y]]) (.ref μ.length) = some (.list [a, b]) := by
    have h := Ts.sh _ .refl
    unfold D.sh?
    rw [show (μ ++ [Cell.lst [x, y]])[μ.length]? = some (.lst [x, y]) by simp]
    simp only [shs_le (by decide : 6 ≤ 7) h]; rfl
  have ok : showOk (.list [a, b]) = true := by
    simp only [showOk, Bool.and_eq_true, decide_eq_true_eq]
    refine ⟨⟨Ts.ok, ?_⟩, ?_⟩
    · have h1 := PyData.shown_le_bulk 60 (by decide) (.list [a, b]) Ts.short
      have h2 := Ts.small
      simp only [PyData.bulk] at h1
      rw [sizeLine_eq]
      omega
    · have := Ts.deep
      simp only [PyData.depth]
      omega
  simp only [reprL, e, ok, if_true]
end
end K01

/-! Q2: what a house shows; whether anything is a place. -/
namespace K01
open PySem L2 RW
namespace Q
def pairE (p : Int × Int) : PyData := .tuple [.int p.1, .int p.2]
def pipeE (p : Pipe) : PyData := .tuple [.int p.a, .int p.b, .int p.len, .tuple (p.nar.map pairE), .tuple (p.fl.map pairE)]
def houseE (R : Nat) (ps : List Pipe) : PyData := .tuple [.int R, .tuple (ps.map pipeE)]
section
variable {ex : List Nat} {μ : Mem} {n b : Nat}
theorem thgs_map {α : Type} {f : α → D} {e : α → PyData} : ∀ {l : List α}, (∀ x ∈ l, Thg ex μ n b (f x) (e x)) → Thgs ex μ n (l.length * (b + 1)) (l.map f) (l.map e)
  | [], _ => (thgs_nil (n := n)).le (Nat.le_refl _) (Nat.zero_le _)
  | x :: l, h => (thgs_cons (h x List.mem_cons_self) (thgs_map fun y hy => h y (List.mem_cons_of_mem _ hy))).le (Nat.le_refl _) (by simp only [List.length_cons, Nat.add_mul]; omega)
theorem thg_pair {p : Int × Int} (h1 : p.1.natAbs < 10 ^ 50) (h2 : p.2.natAbs < 10 ^ 50) : Thg ex μ 1 2 (pairD p) (pairE p) := (thg_tup (thgs_cons (B := 0) (thg_int h1) (thgs_cons (B := 0) (thg_int h2) thgs_nil))).le (Nat.le_refl _) (by omega)
theorem abs_lt {i : Int} (h1 : -100000000000000 ≤ i) (h2 : i ≤ 100000000000000) : i.natAbs < 10 ^ 50 := by
  have : i.natAbs ≤ 100000000000000 := by omega
  exact Nat.lt_of_le_of_lt this (by decide)
theorem thg_pipe {p : Pipe} (ok : p.Ok) (ha : 0 ≤ p.a ∧ p.a < 100) (hb : 0 ≤ p.b ∧ p.b < 100) (hn : p.nar.length ≤ 12) (hf : p.fl.length ≤ 6) : Thg ex μ 3 59 p.d (pipeE p) := by
  have l1 := ok.l1
  have l2 := ok.l2
  have t1 := thg_tup (thgs_map (ex := ex) (μ := μ) (l := p.nar) fun x hx => by
    obtain ⟨q1, q2, q3, q4⟩ := ok.n2 x hx
    have i1 : x.1.natAbs < 10 ^ 50 := abs_lt (by omega) (by omega)
    have i2 : x.2.natAbs < 10 ^ 50 := abs_lt (by omega) (by omega)
    exact thg_pair i1 i2)
  have t2 := thg_tup (thgs_map (ex := ex) (μ := μ) (l := p.fl) fun x hx => by
    obtain ⟨q1, q2, q3⟩ := ok.f2 x hx
    have i1 : x.1.natAbs < 10 ^ 50 := abs_lt (by omega) (by omega)
    have i2 : x.2.natAbs < 10 ^ 50 := abs_lt (by omega) (by omega)
    exact thg_pair i1 i2)
  have i1 : p.a.natAbs < 10 ^ 50 := abs_lt (by omega) (by omega)
  have i2 : p.b.natAbs < 10 ^ 50 := abs_lt (by omega) (by omega)
  have i3 : p.len.natAbs < 10 ^ 50 := abs_lt (by omega) (by omega)
  refine (thg_tup (thgs_cons (B := 0) (thg_int i1) (thgs_cons (B := 0) (thg_int i2) (thgs_cons (B := 0) (thg_int i3) (thgs_cons (t1.le (Nat.le_refl _) (Nat.mul_le_mul_right 3 hn)) (thgs_cons (t2.le (Nat.le_refl _) (Nat.mul_le_mul_right 3 hf)) thgs_nil)))))).le (Nat.le_refl _) ?_
  omega
theorem le_sum {f : Pipe → Int} (h0 : ∀ p, 0 ≤ f p) : ∀ {ps : List Pipe} {p : Pipe}, p ∈ ps → f p ≤ (ps.map f).sum
  | q :: ps, p, hm => by
    have pos : ∀ l : List Pipe, 0 ≤ (l.map f).sum := fun l => by
      induction l with
      | nil => simp
      | cons a l ih => have := h0 a; simp only [List.map_cons, List.sum_cons]; omega
    simp only [List.map_cons, List.sum_cons]
    rcases List.mem_cons.mp hm with rfl | hm
    · have := pos ps; omega
    · have := le_sum h0 hm; have := h0 q; omega
theorem thg_house {R : Nat} {ps : List Pipe} (H : House R ps) : Thg ex μ 6 1000 (houseD R ps) (houseE R ps) := by
  have h1 := H.r2
  have h2 := H.len
  have t := thg_tup (thgs_map (ex := ex) (μ := μ) (l := ps) fun p hp => by
    obtain ⟨a0, a1, a2⟩ := H.rng p hp
    have n := le_sum (f := fun p => (p.nar.length : Int)) (fun p => by omega) hp
    have f := le_sum (f := fun p => (p.fl.length : Int)) (fun p => by omega) hp
    have n2 := H.nar
    have f2 := H.fla
    exact thg_pipe (H.ok p hp) ⟨by omega, by omega⟩ ⟨by omega, by omega⟩ (by omega) (by omega))
  have most : ps.length * (59 + 1) ≤ 15 * (59 + 1) := Nat.mul_le_mul_right _ (by omega)
  have u : Thg ex μ 4 0 (.int (R : Int)) (.int (R : Int)) := thg_int (abs_lt (by omega) (by omega))
  exact (thg_tup (thgs_cons u (thgs_cons t thgs_nil))).le (by decide) (by omega)
end
/-! ### whether a thing is a place -/
def within (v : D) (lo hi : Int) : Bool := match v with
  | .int i => decide (lo ≤ i) && decide (i ≤ hi)
  | _ => false
def isOne (R : Nat) (ps : List Pipe) (d : D) : Bool := match d with
  | .tup [v] => within v 0 (R - 1)
  | .tup [.int i, w] => (decide (0 ≤ i) && decide (i ≤ ps.length - 1)) && within w 1 (((ps[i.toNat]?).map Pipe.len).getD 0 - 1)
  | _ => false
section
variable {μ : Mem}
theorem s_ii : subT "int" "int" = true := by decide +kernel
theorem s_ib : subT "int" "bool" = false := by decide +kernel
theorem s_bi : subT "bool" "int" = true := by decide +kernel
theorem s_bb : subT "bool" "bool" = true := by decide +kernel
theorem s_tt : subT "tuple" "tuple" = true := by decide +kernel
/-- is it a whole number -/
def isInt : D → Bool
  | .int _ => true
  | _ => false
theorem whole_any {v : D} {t : String} (h : tyD v μ = some t) : m_is_whole [v] μ = .ok (.bl (isInt v)) μ := by
  have e1 : isT1 "int" v μ = .ok (.bl (subT t "int")) μ := by simp only [isT1, h]
  have e2 : isT1 "bool" v μ = .ok (.bl (subT t "bool")) μ := by simp only [isT1, h]
  have e : (subT t "int" = true → subT t "bool" = !isInt v) ∧ (subT t "int" = false → isInt v = false) := by
    cases v with
    | bl b => cases h; exact ⟨fun _ => by rw [s_bb]; rfl, fun z => by rw [s_bi] at z; cases z⟩
    | int b => cases h; exact ⟨fun _ => by rw [s_ib]; rfl, fun z => by rw [s_ii] at z; cases z⟩
    | ref n =>
      refine ⟨fun z => ?_, fun _ => rfl⟩
      simp only [tyD] at h
      split at h <;> first | (cases h; exact absurd z (by decide +kernel)) | cases h
    | fn x => cases h
    | _ => cases h; exact ⟨fun z => absurd z (by decide +kernel), fun _ => rfl⟩
  refine run_is (ret_is ?_)
  cases hs : subT t "int" with
  | true => simp [startR, e1, e2, hs, e.1 hs]
  | false => simp [startR, e1, hs, e.2 hs]
theorem from_any {v : D} {t : String} {lo hi : Int} (h : tyD v μ = some t) : m_is_from [v, .int lo, .int hi] μ = .ok (.bl (within v lo hi)) μ := by
  have w := whole_any h
  refine run_is (ret_is ?_)
  cases v with
  | int i =>
    by_cases h1 : lo ≤ i
    · simp [startR, w, isInt, within, cmpI, h1]
    · simp [startR, w, isInt, within, cmpI, h1]
  | _ => simp [startR, w, isInt, within]
theorem lfrom_any {v : D} {t : String} {lo hi : Int} (h : tyD v μ = some t) : m_law_is_from [v, .int lo, .int hi] μ = .ok (.bl (within v lo hi)) μ := by
  have e1 : isT1 "int" v μ = .ok (.bl (subT t "int")) μ := by simp only [isT1, h]
  have e2 : isT1 "bool" v μ = .ok (.bl (subT t "bool")) μ := by simp only [isT1, h]
  refine run_is (ret_is ?_)
  cases v with
  | int i =>
    cases h
    by_cases h1 : lo ≤ i
    · simp [startR, e1, e2, s_ii, s_ib, within, cmpI, h1]
    · simp [startR, e1, e2, s_ii, s_ib, within, cmpI, h1]
  | bl b => cases h; simp [startR, e1, e2, s_bi, s_bb, within]
  | ref n =>
    have z : subT t "int" = false := by
      simp only [tyD] at h
      split at h <;> first | (cases h; decide +kernel) | cases h
    simp [startR, e1, z, within]
  | fn x => cases h
  | non => cases h; simp [startR, e1, show subT "NoneType" "int" = false by decide +kernel, within]
  | str s => cases h; simp [startR, e1, show subT "str" "int" = false by decide +kernel, within]
  | tup l => cases h; simp [startR, e1, show subT "tuple" "int" = false by decide +kernel, within]
  | frl l => cases h; simp [startR, e1, show subT "list" "int" = false by decide +kernel, within]
variable {R : Nat} {ps : List Pipe}
theorem not_tuple {d : D} {t : String} (h : tyD d μ = some t) (hd : ∀ l, d ≠ .tup l) : isT1 "tuple" d μ = .ok (.bl false) μ := by
  have e : subT t "tuple" = false := by
    cases d with
    | tup l => exact absurd rfl (hd l)
    | ref n =>
      simp only [tyD] at h
      split at h <;> first | (cases h; decide +kernel) | cases h
    | fn x => cases h
    | _ => cases h; decide +kernel
  simp only [isT1, h, e]
theorem len_t {l : List D} : lenL [.tup l] μ = .ok (.int l.length) μ := rfl
end
end Q
end K01

/-! S120: things of any kind: pairs, rows of pairs, pipes, as the program judges them. -/
namespace K01
open PySem L2 RW
open Q
/-- data that is known, whatever lists are made -/
def Sk (μ : Mem) (n : Nat) (d : D) : Prop := ∃ p, ∀ μ', Keep [] μ μ' → D.sh? n μ' d = some p
section
variable {μ μ' : Mem} {n : Nat} {d : D} {l : List D}
theorem Sk.keep (h : Sk μ n d) (k : Keep [] μ μ') : Sk μ' n d := let ⟨p, e⟩ := h; ⟨p, fun μ2 k2 => e μ2 (k.trans k2)⟩
theorem Sk.ty (h : Sk μ n d) : ∃ t, tyD d μ = some t := let ⟨p, e⟩ := h; sh_ty (e μ .refl)
theorem shs_mem {P : Mem → Prop} : ∀ {l : List D} {ps : List PyData}, (∀ μ', P μ' → D.shs? n μ' l = some ps) → (∃ μ, P μ) → ∀ x ∈ l, ∃ q, ∀ μ', P μ' → D.sh? n μ' x = some q
  | [], _, _, _, x, hx => (List.not_mem_nil hx).elim
  | y :: l, ps, h, ⟨μ0, h0⟩, x, hx => by
    have e0 := h μ0 h0
    unfold D.shs? at e0
    split at e0
    · rename_i k r e1 e2
      cases e0
      have both : ∀ μ', P μ' → D.sh? n μ' y = some k ∧ D.shs? n μ' l = some r := fun μ' hp => by
        have e := h μ' hp
        unfold D.shs? at e
        split at e
        · rename_i k' r' e1' e2'
          cases e
          exact ⟨e1', e2'⟩
        · cases e
      rcases List.mem_cons.mp hx with rfl | hx
      · exact ⟨k, fun μ' hp => (both μ' hp).1⟩
      · exact shs_mem (fun μ' hp => (both μ' hp).2) ⟨μ0, h0⟩ x hx
    · cases e0
theorem Sk.tup (h : Sk μ n (.tup l)) : ∀ x ∈ l, Sk μ n x := fun x hx => by
  obtain ⟨p, e⟩ := h
  cases n with
  | zero => have := e μ .refl; unfold D.sh? at this; cases this
  | succ n =>
    have e0 := e μ .refl
    unfold D.sh? at e0
    obtain ⟨ps, e1, rfl⟩ := Option.map_eq_some_iff.mp e0
    obtain ⟨q, hq⟩ := shs_mem (n := n) (P := fun μ' => Keep [] μ μ') (l := l) (ps := ps) (fun μ' k => by
      have := e μ' k
      unfold D.sh? at this
      obtain ⟨ps', e1', e2'⟩ := Option.map_eq_some_iff.mp this
      cases e2'
      exact e1') ⟨μ, .refl⟩ x hx
    exact ⟨q, fun μ' k => sh_up _ _ _ (hq μ' k)⟩
/-! ### two parts -/
def isP2 : D → Bool
  | .tup [_, _] => true
  | _ => false
theorem isP2_iff : isP2 d = true ↔ ∃ a b, d = .tup [a, b] := by
  constructor
  · intro h
    unfold isP2 at h
    split at h
    · rename_i a b; exact ⟨a, b, rfl⟩
    · cases h
  · rintro ⟨a, b, rfl⟩; rfl
def isTupB : D → Bool
  | .tup _ => true
  | _ => false
theorem tupT {t : String} (h : tyD d μ = some t) : isT1 "tuple" d μ = .ok (.bl (isTupB d)) μ := by
  cases d with
  | tup l => simp [isT1, tyD, s_tt, isTupB]
  | _ => exact not_tuple h (fun l e => by cases e)
theorem is_pair_any {t : String} (h : tyD d μ = some t) : m_is_pair [d] μ = .ok (.bl (isP2 d)) μ := by
  have ht := tupT h
  refine run_is (ret_is ?_)
  cases d with
  | tup l =>
    refine andV_t (un_k (p := .tup l) (μ1 := μ) rfl ht) (bin_k (call1k (p := .tup l) (μ1 := μ) rfl len_t) (q := .int 2) rfl ?_)
    rw [eqI]
    match l with
    | [] => rfl
    | [a] => rfl
    | [a, b] => rfl
    | a :: b :: c :: l =>
      have : ¬ (((a :: b :: c :: l).length : Nat) : Int) = 2 := by simp only [List.length_cons]; omega
      simp only [decide_eq_false this, isP2]
  | _ => exact andV_f (un_k (μ1 := μ) rfl ht)
theorem is_size_any {t : String} (h : tyD d μ = some t) : m_is_size [d] μ = .ok (.bl (within d 1 1000000)) μ := by
  have e := from_any (lo := 1) (hi := 1000000) h
  refine run_is (ret_is ?_)
  simp only [mB, mCons, mNil, mVar, mC, startR, Res.bind]
  exact e
def courseB : D → Bool
  | .int i => decide (i = 1 ∨ i = -1)
  | _ => false
theorem is_course_any {t : String} (h : tyD d μ = some t) : m_is_course [d] μ = .ok (.bl (courseB d)) μ := by
  have e := whole_any h
  refine run_is (ret_is ?_)
  cases d with
  | int i =>
    refine andV_t (call1k (p := .int i) (μ1 := μ) rfl e) (bin_k (p := .int i) (q := .tup [.int (-1), .int 1]) (μ1 := μ) (μ2 := μ) rfl rfl ?_)
    have : inV (.int i) [.int (-1), .int 1] = decide (i = 1 ∨ i = -1) := by
      show (((-1 : Int) == i) || (((1 : Int) == i) || false)) = _
      by_cases h1 : i = 1
      · subst h1; rfl
      · by_cases h2 : i = -1
        · subst h2; rfl
        · have a : ((-1 : Int) == i) = false := by simp; omega
          have b : ((1 : Int) == i) = false := by simp; omega
          rw [a, b, decide_eq_false (by omega)]; rfl
    show Res.ok (D.bl (inV (.int i) [.int (-1), .int 1])) μ = _
    rw [this]; rfl
  | _ => exact andV_f (call1k (μ1 := μ) rfl e)
/-! ### rows of pairs -/
/-- numbers that a handed def says yes of -/
def Fit (f : Str) (x : Int) : Prop := (f = "is_size" ∧ 1 ≤ x ∧ x ≤ 1000000) ∨ (f = "is_course" ∧ (x = 1 ∨ x = -1))
theorem ne_names : ¬ (("is_course" : Str) = ("is_size" : Str)) := by decide +kernel
theorem fits_any {ρ : Rho} {f : Str} {e : MD} {t : String} (hf : f = "is_size" ∨ f = "is_course") (h3 : ρ[3]? = some (some (.fn f))) (he : e ρ μ = .ok d μ) (h : tyD d μ = some t) :
    ∃ b, mCallV 3 "is_size" m_is_size "is_course" m_is_course (mCons e mNil) ρ μ = .ok (.bl b) μ ∧ (b = true ↔ ∃ x, d = .int x ∧ Fit f x) := by
  rcases hf with rfl | rfl
  · refine ⟨within d 1 1000000, ?_, ?_⟩
    · simp only [mCallV, h3, mCons, mNil, he, Res.bind, if_true]
      exact is_size_any h
    · cases d with
      | int x =>
        simp only [within, Bool.and_eq_true, decide_eq_true_eq]
        refine ⟨fun h => ⟨x, rfl, .inl ⟨rfl, h.1, h.2⟩⟩, fun ⟨y, e, hy⟩ => ?_⟩
        cases e
        rcases hy with ⟨_, h1, h2⟩ | ⟨z, _⟩
        · exact ⟨h1, h2⟩
        · exact absurd z.symm ne_names
      | _ => exact ⟨fun h => by simp [within] at h, fun ⟨y, e, _⟩ => by cases e⟩
  · refine ⟨courseB d, ?_, ?_⟩
    · simp only [mCallV, h3, mCons, mNil, he, Res.bind, if_true, if_neg ne_names]
      exact is_course_any h
    · cases d with
      | int x =>
        simp only [courseB, decide_eq_true_eq]
        refine ⟨fun h => ⟨x, rfl, .inr ⟨rfl, h⟩⟩, fun ⟨y, e, hy⟩ => ?_⟩
        cases e
        rcases hy with ⟨z, _⟩ | ⟨_, h⟩
        · exact absurd z ne_names
        · exact h
      | _ => exact ⟨fun h => by simp [courseB] at h, fun ⟨y, e, _⟩ => by cases e⟩
/-- a rising row of pairs (number, number that fits) -/
def RowIs (F : Int → Prop) (lo hi : Int) (l : List D) : Prop := ∃ zs : List (Int × Int), l = zs.map pairD ∧ (zs.map (·.1)).Pairwise (· < ·) ∧ ∀ z ∈ zs, lo ≤ z.1 ∧ z.1 ≤ hi ∧ F z.2
theorem RowIs.nil {F : Int → Prop} {lo hi : Int} : RowIs F lo hi [] := ⟨[], rfl, by simp, by simp⟩
theorem RowIs.cons_iff {F : Int → Prop} {lo hi : Int} {d : D} {l : List D} : RowIs F lo hi (d :: l) ↔ ∃ i x, d = pairD (i, x) ∧ lo ≤ i ∧ i ≤ hi ∧ F x ∧ RowIs F (i + 1) hi l := by
  constructor
  · rintro ⟨zs, e, hp, hr⟩
    cases zs with
    | nil => cases e
    | cons z zs =>
      rw [List.map_cons] at e hp
      injection e with e1 e2
      rw [List.pairwise_cons] at hp
      have h0 := hr z (List.mem_cons_self ..)
      refine ⟨z.1, z.2, e1, h0.1, h0.2.1, h0.2.2, zs, e2, hp.2, fun y hy => ?_⟩
      have h1 := hr y (List.mem_cons_of_mem _ hy)
      have h2 := hp.1 y.1 (List.mem_map_of_mem hy)
      exact ⟨by omega, h1.2.1, h1.2.2⟩
  · rintro ⟨i, x, rfl, h1, h2, h3, zs, rfl, hp, hr⟩
    refine ⟨(i, x) :: zs, rfl, ?_, fun z hz => ?_⟩
    · rw [List.map_cons, List.pairwise_cons]
      refine ⟨fun a ha => ?_, hp⟩
      obtain ⟨y, hy, rfl⟩ := List.mem_map.mp ha
      have := hr y hy
      show i < y.1
      omega
    · rcases List.mem_cons.mp hz with rfl | hz
      · exact ⟨h1, h2, h3⟩
      · have := hr z hz
        exact ⟨by omega, this.2.1, this.2.2⟩
noncomputable def apI : MS := sSeq (sIf (mOr (mNot (mTest (mB m_is_pair (mCons (mVar 5) (mNil))))) (mOr (mNot (mTest (mB m_is_from (mCons (mBin idxA (mVar 5) (mC (.int 0))) (mCons (mVar 4) (mCons (mVar 2) (mNil))))))) (mNot (mTest (mCallV 3 "is_size" m_is_size "is_course" m_is_course (mCons (mBin idxA (mVar 5) (mC (.int 1))) (mNil))))))) (sRet (mC (.bl false))) (sNil))
    (sSet 4 (mBin addD (mBin idxA (mVar 5) (mC (.int 0))) (mC (.int 1))))
theorem are_pairs_eq : b_are_pairs = sSeq (sIf (mNot (mTest (mUn (isT1 "tuple") (mVar 0)))) (sRet (mC (.bl false))) (sNil))
    (sSeq (sSet 4 (mVar 1))
    (sSeq (sFor (iSeq (mVar 0)) (gN 5) apI)
    (sRet (mC (.bl true))))) := rfl
theorem within_iff {lo hi : Int} : within d lo hi = true ↔ ∃ i, d = .int i ∧ lo ≤ i ∧ i ≤ hi := by
  cases d with
  | int i =>
    simp only [within, Bool.and_eq_true, decide_eq_true_eq]
    exact ⟨fun h => ⟨i, rfl, h⟩, fun ⟨j, e, h⟩ => by cases e; exact h⟩
  | _ => exact ⟨fun h => by simp [within] at h, fun ⟨j, e, _⟩ => by cases e⟩
theorem call3k {ρ : Rho} {μ1 μ2 μ3 μ4 : Mem} {p q r d : D} {f : Sem} {x y z : MD} (h1 : x ρ μ = .ok p μ1) (h2 : y ρ μ1 = .ok q μ2) (h3 : z ρ μ2 = .ok r μ3) (h : f [p, q, r] μ3 = .ok d μ4) : mB f (mCons x (mCons y (mCons z mNil))) ρ μ = .ok d μ4 := by
  simp only [mB, mCons, mNil, h1, h2, h3, Res.bind]; exact h
abbrev rhoA (L : D) (lo hi : Int) (f : Str) (v : Int) (o5 : Option D) : Rho := [some L, some (.int lo), some (.int hi), some (.fn f), some (.int v), o5]
theorem ap_loop {f : Str} (hf : f = "is_size" ∨ f = "is_course") {L : D} {lo hi : Int} : ∀ (l : List D) (v : Int) (o5 : Option D), (∀ x ∈ l, Sk μ n x) →
    (RowIs (Fit f) v hi l ∧ ∃ v' o5', forL (fun _ => True) (gN 5) apI l (rhoA L lo hi f v o5) μ = .ok (.nx (rhoA L lo hi f v' o5')) μ) ∨
    (¬ RowIs (Fit f) v hi l ∧ forL (fun _ => True) (gN 5) apI l (rhoA L lo hi f v o5) μ = .ok (.ret (.bl false)) μ)
  | [], v, o5, _ => .inl ⟨RowIs.nil, v, o5, for_nil trivial⟩
  | d :: l, v, o5, hs => by
    have sd := hs d (List.mem_cons_self ..)
    obtain ⟨t, ht⟩ := sd.ty
    let ρ1 : Rho := rhoA L lo hi f v (some d)
    have g : gN 5 d (rhoA L lo hi f v o5) μ = .ok ρ1 μ := rfl
    have cp : mNot (mTest (mB m_is_pair (mCons (mVar 5) (mNil)))) ρ1 μ = .ok (!isP2 d) μ := not_k (test_k (call1k (p := d) (μ1 := μ) rfl (is_pair_any ht)))
    have bad : ∀ {c : MB} {r : MS}, c ρ1 μ = .ok true μ → apI = sSeq (sIf c (sRet (mC (.bl false))) sNil) r → forL (fun _ => True) (gN 5) apI (d :: l) (rhoA L lo hi f v o5) μ = .ok (.ret (.bl false)) μ := fun hc he => for_ret trivial g (by rw [he]; exact seq_if_ret hc rfl)
    cases hp : isP2 d with
    | false =>
      rw [hp] at cp
      refine .inr ⟨fun h => ?_, bad (or_t cp) rfl⟩
      obtain ⟨i, x, rfl, -⟩ := RowIs.cons_iff.mp h
      simp [isP2, pairD] at hp
    | true =>
      rw [hp] at cp
      obtain ⟨a, b, rfl⟩ := isP2_iff.mp hp
      obtain ⟨ta, hta⟩ := (sd.tup a (by simp)).ty
      obtain ⟨tb, htb⟩ := (sd.tup b (by simp)).ty
      have i0 : mBin idxA (mVar 5) (mC (.int 0)) ρ1 μ = .ok a μ := bin_k (p := .tup [a, b]) (q := .int 0) (μ1 := μ) (μ2 := μ) rfl rfl (ix_tup (by decide) rfl)
      have i1 : mBin idxA (mVar 5) (mC (.int 1)) ρ1 μ = .ok b μ := bin_k (p := .tup [a, b]) (q := .int 1) (μ1 := μ) (μ2 := μ) rfl rfl (ix_tup (by decide) rfl)
      have cf : mNot (mTest (mB m_is_from (mCons (mBin idxA (mVar 5) (mC (.int 0))) (mCons (mVar 4) (mCons (mVar 2) (mNil)))))) ρ1 μ = .ok (!within a v hi) μ := not_k (test_k (call3k i0 (y := mVar 4) (z := mVar 2) (q := .int v) (r := .int hi) (μ2 := μ) (μ3 := μ) rfl rfl (from_any hta)))
      obtain ⟨bf, cb, hb⟩ := fits_any (ρ := ρ1) (d := b) hf rfl i1 htb
      have cb := not_k (test_k cb)
      cases hw : within a v hi with
      | false =>
        rw [hw] at cf
        refine .inr ⟨fun h => ?_, bad (or_f cp (or_t cf)) rfl⟩
        obtain ⟨i, x, e, h1, h2, -⟩ := RowIs.cons_iff.mp h
        cases e
        rw [within_iff.mpr ⟨i, rfl, h1, h2⟩] at hw
        cases hw
      | true =>
        rw [hw] at cf
        obtain ⟨i, rfl, h1, h2⟩ := within_iff.mp hw
        cases hbf : bf with
        | false =>
          rw [hbf] at cb
          refine .inr ⟨fun h => ?_, bad (or_f cp (or_f cf cb)) rfl⟩
          obtain ⟨j, x, e, -, -, h3, -⟩ := RowIs.cons_iff.mp h
          cases e
          rw [hb.mpr ⟨x, rfl, h3⟩] at hbf
          cases hbf
        | true =>
          rw [hbf] at cb
          obtain ⟨x, rfl, hx⟩ := hb.mp hbf
          have st : apI ρ1 μ = .ok (.nx (rhoA L lo hi f (i + 1) (some (.tup [.int i, .int x])))) μ := (seq_skip (or_f cp (or_f cf cb))).trans ((set_is (bin_k i0 (q := .int 1) rfl rfl)).trans rfl)
          have next := for_nx (chk := fun _ => True) (ds := l) trivial g st
          have key : RowIs (Fit f) v hi (.tup [.int i, .int x] :: l) ↔ RowIs (Fit f) (i + 1) hi l := by
            rw [RowIs.cons_iff]
            exact ⟨fun ⟨j, y, e, _, _, _, h⟩ => by cases e; exact h, fun h => ⟨i, x, rfl, h1, h2, hx, h⟩⟩
          rcases ap_loop hf (L := L) (lo := lo) (hi := hi) l (i + 1) (some (.tup [.int i, .int x])) (fun y hy => hs y (List.mem_cons_of_mem _ hy)) with ⟨q1, v', o5', q2⟩ | ⟨q1, q2⟩
          · exact .inl ⟨key.mpr q1, v', o5', next.trans q2⟩
          · exact .inr ⟨fun h => q1 (key.mp h), next.trans q2⟩
theorem are_pairs_any {f : Str} {lo hi : Int} (hf : f = "is_size" ∨ f = "is_course") (h : Sk μ n d) :
    ∃ b, m_are_pairs [d, .int lo, .int hi, .fn f] μ = .ok (.bl b) μ ∧ (b = true ↔ ∃ l, d = .tup l ∧ RowIs (Fit f) lo hi l) := by
  obtain ⟨t, ht⟩ := h.ty
  have tt := tupT ht
  have c0 : mNot (mTest (mUn (isT1 "tuple") (mVar 0))) (startR 6 [d, .int lo, .int hi, .fn f]) μ = .ok (!isTupB d) μ := not_k (test_k (un_k (p := d) (μ1 := μ) rfl tt))
  by_cases hd : ∃ l, d = .tup l
  · obtain ⟨l, rfl⟩ := hd
    have begin_ : b_are_pairs (startR 6 [.tup l, .int lo, .int hi, .fn f]) μ = sSeq (sFor (iSeq (mVar 0)) (gN 5) apI) (sRet (mC (.bl true))) (rhoA (.tup l) lo hi f lo none) μ := by
      rw [are_pairs_eq]
      exact (seq_skip c0).trans ((seq_set (d := .int lo) (μ1 := μ) rfl).trans rfl)
    have lp : sFor (iSeq (mVar 0)) (gN 5) apI (rhoA (.tup l) lo hi f lo none) μ = forL (fun _ => True) (gN 5) apI l (rhoA (.tup l) lo hi f lo none) μ := for_to (seq_tup (l := l) (μ1 := μ) rfl)
    rcases ap_loop hf (L := .tup l) (lo := lo) (hi := hi) l lo none h.tup with ⟨q1, v', o5', q2⟩ | ⟨q1, q2⟩
    · exact ⟨true, run_is (begin_.trans ((seq_run (lp.trans q2)).trans (ret_is rfl))), fun _ => ⟨l, rfl, q1⟩, fun _ => rfl⟩
    · exact ⟨false, run_is (begin_.trans (seq_ret (lp.trans q2))), (fun z => by cases z), (fun ⟨l', e, hr⟩ => by cases e; exact absurd hr q1)⟩
  · have hn : isTupB d = false := by cases d <;> first | rfl | exact absurd ⟨_, rfl⟩ hd
    rw [hn] at c0
    refine ⟨false, run_is ?_, (fun z => by cases z), fun ⟨l, e, _⟩ => absurd ⟨l, e⟩ hd⟩
    rw [are_pairs_eq]
    exact seq_if_ret c0 rfl
end
end K01

/-! S121: pipes of any kind, as the program judges them. -/
namespace K01
open PySem L2 RW
open Q
section
variable {μ : Mem} {n : Nat} {d : D} {R : Int}
/-- a pipe of a house of R rooms -/
def PipeIs (R : Int) (d : D) : Prop := ∃ p : Pipe, d = p.d ∧ p.Ok ∧ 0 ≤ p.a ∧ p.a < p.b ∧ p.b < R
theorem of5 {l : List D} (h : l.length = 5) : ∃ a b c e f, l = [a, b, c, e, f] := by
  match l, h with
  | [a, b, c, e, f], _ => exact ⟨a, b, c, e, f, rfl⟩
theorem row_sizes {hi : Int} {l : List D} : RowIs (Fit "is_size") 1 hi l ↔ ∃ zs : List (Int × Int), l = zs.map pairD ∧ (zs.map (·.1)).Pairwise (· < ·) ∧ ∀ z ∈ zs, 1 ≤ z.1 ∧ z.1 ≤ hi ∧ 1 ≤ z.2 ∧ z.2 ≤ 1000000 := by
  constructor
  · rintro ⟨zs, e, h1, h2⟩
    refine ⟨zs, e, h1, fun z hz => ?_⟩
    obtain ⟨a, b, c⟩ := h2 z hz
    rcases c with ⟨_, c⟩ | ⟨c, _⟩
    · exact ⟨a, b, c⟩
    · exact absurd c.symm ne_names
  · rintro ⟨zs, e, h1, h2⟩
    exact ⟨zs, e, h1, fun z hz => ⟨(h2 z hz).1, (h2 z hz).2.1, .inl ⟨rfl, (h2 z hz).2.2⟩⟩⟩
theorem row_courses {hi : Int} {l : List D} : RowIs (Fit "is_course") 0 hi l ↔ ∃ zs : List (Int × Int), l = zs.map pairD ∧ (zs.map (·.1)).Pairwise (· < ·) ∧ ∀ z ∈ zs, 0 ≤ z.1 ∧ z.1 ≤ hi ∧ (z.2 = 1 ∨ z.2 = -1) := by
  constructor
  · rintro ⟨zs, e, h1, h2⟩
    refine ⟨zs, e, h1, fun z hz => ?_⟩
    obtain ⟨a, b, c⟩ := h2 z hz
    rcases c with ⟨c, _⟩ | ⟨_, c⟩
    · exact absurd c ne_names
    · exact ⟨a, b, c⟩
  · rintro ⟨zs, e, h1, h2⟩
    exact ⟨zs, e, h1, fun z hz => ⟨(h2 z hz).1, (h2 z hz).2.1, .inr ⟨rfl, (h2 z hz).2.2⟩⟩⟩
theorem call4k {ρ : Rho} {x y z u : MD} {a b c d e : D} {f : Sem} (h1 : x ρ μ = .ok a μ) (h2 : y ρ μ = .ok b μ) (h3 : z ρ μ = .ok c μ) (h4 : u ρ μ = .ok d μ) (h : f [a, b, c, d] μ = .ok e μ) : mB f (mCons x (mCons y (mCons z (mCons u mNil)))) ρ μ = .ok e μ := by
  simp only [mB, mCons, mNil, h1, h2, h3, h4, Res.bind]; exact h
theorem len_ne {l : List D} {k : Int} : neD (.int (l.length : Int)) (.int k) μ = .ok (.bl (!decide ((l.length : Int) = k))) μ := neI
theorem tup_len {ρ : Rho} {x : MD} {l : List D} {k : Int} {b : Bool} (h : x ρ μ = .ok (.tup l) μ) (hb : (!decide ((l.length : Int) = k)) = b) : mTest (mBin neD (mB lenL (mCons x mNil)) (mC (.int k))) ρ μ = .ok b μ :=
  test_k (bin_k (call1k h len_t) (q := .int k) rfl (by rw [neI, hb]))
theorem is_pipe_any (h : Sk μ n d) : ∃ b, m_is_pipe [.int R, d] μ = .ok (.bl b) μ ∧ (b = true ↔ PipeIs R d) := by
  obtain ⟨t, ht⟩ := h.ty
  have tt := tupT ht
  have c0 : mNot (mTest (mUn (isT1 "tuple") (mVar 1))) (startR 7 [.int R, d]) μ = .ok (!isTupB d) μ := not_k (test_k (un_k (p := d) (μ1 := μ) rfl tt))
  have no : ∀ {m : MS}, m (startR 7 [.int R, d]) μ = .ok (.ret (.bl false)) μ → b_is_pipe = m → ¬ PipeIs R d → ∃ b, m_is_pipe [.int R, d] μ = .ok (.bl b) μ ∧ (b = true ↔ PipeIs R d) := fun hm he hn => ⟨false, run_is (by rw [he]; exact hm), (fun z => by cases z), fun z => absurd z hn⟩
  by_cases hd : ∃ l, d = .tup l
  · obtain ⟨l, rfl⟩ := hd
    by_cases h5 : l.length = 5
    · obtain ⟨a, b, c, e, f, rfl⟩ := of5 h5
      obtain ⟨ta, hta⟩ := (h.tup a (by simp)).ty
      obtain ⟨tb, htb⟩ := (h.tup b (by simp)).ty
      obtain ⟨tc, htc⟩ := (h.tup c (by simp)).ty
      have se := h.tup e (by simp)
      have sf := h.tup f (by simp)
      let rho : Rho := [some (.int R), some (.tup [a, b, c, e, f]), some a, some b, some c, some e, some f]
      have c1 : mTest (mBin neD (mB lenL (mCons (mVar 1) (mNil))) (mC (.int 5))) (startR 7 [.int R, .tup [a, b, c, e, f]]) μ = .ok false μ := tup_len (l := [a, b, c, e, f]) rfl rfl
      have begin_ : ∀ {m : MS}, sSeq (sIf (mOr (mNot (mTest (mUn (isT1 "tuple") (mVar 1)))) (mTest (mBin neD (mB lenL (mCons (mVar 1) (mNil))) (mC (.int 5))))) (sRet (mC (.bl false))) (sNil))
          (sSeq (sAsg (mVar 1) (gTupM 5 (gConsM (gN 2) (gConsM (gN 3) (gConsM (gN 4) (gConsM (gN 5) (gConsM (gN 6) (gNilM)))))))) m) (startR 7 [.int R, .tup [a, b, c, e, f]]) μ = m rho μ := fun {m} =>
        (seq_skip (or_f c0 c1)).trans ((seq_asg (d := .tup [a, b, c, e, f]) (μ1 := μ) (ρ2 := rho) (μ2 := μ) rfl rfl))
      have sb : mBin subD (mVar 0) (mC (.int 1)) rho μ = .ok (.int (R - 1)) μ := rfl
      have t1 : mNot (mTest (mB m_is_from (mCons (mVar 2) (mCons (mC (.int 0)) (mCons (mBin subD (mVar 0) (mC (.int 1))) (mNil)))))) rho μ = .ok (!within a 0 (R - 1)) μ := not_k (test_k (call3k (x := mVar 2) (p := a) (q := .int 0) (μ1 := μ) (μ2 := μ) rfl rfl sb (from_any hta)))
      have t3 : mNot (mTest (mB m_is_from (mCons (mVar 4) (mCons (mC (.int 1)) (mCons (mC (.int 1000000000000)) (mNil)))))) rho μ = .ok (!within c 1 1000000000000) μ := not_k (test_k (call3k (x := mVar 4) (p := c) (q := .int 1) (r := .int 1000000000000) (μ1 := μ) (μ2 := μ) (μ3 := μ) rfl rfl rfl (from_any htc)))
      have fin : ∀ {m : MS} {x : Bool}, m rho μ = .ok (.ret (.bl x)) μ → b_is_pipe = sSeq (sIf (mOr (mNot (mTest (mUn (isT1 "tuple") (mVar 1)))) (mTest (mBin neD (mB lenL (mCons (mVar 1) (mNil))) (mC (.int 5))))) (sRet (mC (.bl false))) (sNil))
          (sSeq (sAsg (mVar 1) (gTupM 5 (gConsM (gN 2) (gConsM (gN 3) (gConsM (gN 4) (gConsM (gN 5) (gConsM (gN 6) (gNilM)))))))) m) → m_is_pipe [.int R, .tup [a, b, c, e, f]] μ = .ok (.bl x) μ := fun hm he => run_is (by rw [he]; exact begin_.trans hm)
      cases hw1 : within a 0 (R - 1) with
      | false =>
        rw [hw1] at t1
        refine ⟨false, fin (seq_if_ret (or_t t1) rfl) rfl, (fun z => by cases z), fun ⟨p, ep, ok, r1, r2, r3⟩ => ?_⟩
        cases ep
        rw [within_iff.mpr ⟨p.a, rfl, r1, by omega⟩] at hw1
        cases hw1
      | true =>
        rw [hw1] at t1
        obtain ⟨i, rfl, i1, i2⟩ := within_iff.mp hw1
        have t2 : mNot (mTest (mB m_is_from (mCons (mVar 3) (mCons (mBin addD (mVar 2) (mC (.int 1))) (mCons (mBin subD (mVar 0) (mC (.int 1))) (mNil)))))) rho μ = .ok (!within b (i + 1) (R - 1)) μ := not_k (test_k (call3k (x := mVar 3) (p := b) (q := .int (i + 1)) (μ1 := μ) (μ2 := μ) rfl rfl sb (from_any htb)))
        cases hw2 : within b (i + 1) (R - 1) with
        | false =>
          rw [hw2] at t2
          refine ⟨false, fin (seq_if_ret (or_f t1 (or_t t2)) rfl) rfl, (fun z => by cases z), fun ⟨p, ep, ok, r1, r2, r3⟩ => ?_⟩
          cases ep
          rw [within_iff.mpr ⟨p.b, rfl, by omega, by omega⟩] at hw2
          cases hw2
        | true =>
          rw [hw2] at t2
          obtain ⟨j, rfl, j1, j2⟩ := within_iff.mp hw2
          cases hw3 : within c 1 1000000000000 with
          | false =>
            rw [hw3] at t3
            refine ⟨false, fin (seq_if_ret (or_f t1 (or_f t2 t3)) rfl) rfl, (fun z => by cases z), fun ⟨p, ep, ok, r1, r2, r3⟩ => ?_⟩
            cases ep
            rw [within_iff.mpr ⟨p.len, rfl, ok.l1, ok.l2⟩] at hw3
            cases hw3
          | true =>
            rw [hw3] at t3
            obtain ⟨k, rfl, k1, k2⟩ := within_iff.mp hw3
            obtain ⟨be, qe, he⟩ := are_pairs_any (μ := μ) (d := e) (f := "is_size") (lo := 1) (hi := k - 1) (.inl rfl) se
            obtain ⟨bf, qf, hf⟩ := are_pairs_any (μ := μ) (d := f) (f := "is_course") (lo := 0) (hi := k - 1) (.inr rfl) sf
            have sl : mBin subD (mVar 4) (mC (.int 1)) rho μ = .ok (.int (k - 1)) μ := rfl
            have ce : mB m_are_pairs (mCons (mVar 5) (mCons (mC (.int 1)) (mCons (mBin subD (mVar 4) (mC (.int 1))) (mCons (mC (.fn "is_size")) (mNil))))) rho μ = .ok (.bl be) μ := call4k (a := e) (b := .int 1) (d := .fn "is_size") rfl rfl sl rfl qe
            have cf : mB m_are_pairs (mCons (mVar 6) (mCons (mC (.int 0)) (mCons (mBin subD (mVar 4) (mC (.int 1))) (mCons (mC (.fn "is_course")) (mNil))))) rho μ = .ok (.bl bf) μ := call4k (a := f) (b := .int 0) (d := .fn "is_course") rfl rfl sl rfl qf
            have iff_ : (be = true ∧ bf = true) ↔ PipeIs R (.tup [.int i, .int j, .int k, e, f]) := by
              constructor
              · rintro ⟨b1, b2⟩
                obtain ⟨le, rfl, re⟩ := he.mp b1
                obtain ⟨lf, rfl, rf⟩ := hf.mp b2
                obtain ⟨zs, rfl, z1, z2⟩ := row_sizes.mp re
                obtain ⟨ws, rfl, w1, w2⟩ := row_courses.mp rf
                exact ⟨⟨i, j, k, zs, ws⟩, rfl, ⟨k1, k2, z1, z2, w1, w2⟩, i1, by show i < j; omega, by show j < R; omega⟩
              · rintro ⟨p, ep, ok, r1, r2, r3⟩
                cases ep
                exact ⟨he.mpr ⟨_, rfl, row_sizes.mpr ⟨p.nar, rfl, ok.n1, ok.n2⟩⟩, hf.mpr ⟨_, rfl, row_courses.mpr ⟨p.fl, rfl, ok.f1, ok.f2⟩⟩⟩
            cases be with
            | false => exact ⟨false, fin ((seq_skip (or_f t1 (or_f t2 t3))).trans (ret_is (andV_f ce))) rfl, (fun z => by cases z), fun z => iff_.mpr z |>.1⟩
            | true => exact ⟨bf, fin ((seq_skip (or_f t1 (or_f t2 t3))).trans (ret_is (andV_t ce cf))) rfl, fun z => iff_.mp ⟨rfl, z⟩, fun z => (iff_.mpr z).2⟩
    · have c1 : mTest (mBin neD (mB lenL (mCons (mVar 1) (mNil))) (mC (.int 5))) (startR 7 [.int R, .tup l]) μ = .ok true μ := tup_len (l := l) rfl (by rw [decide_eq_false (by omega)]; rfl)
      refine no (seq_if_ret (or_f c0 c1) rfl) rfl ?_
      rintro ⟨p, ep, -⟩
      cases ep
      exact h5 rfl
  · have hn : isTupB d = false := by cases d <;> first | rfl | exact absurd ⟨_, rfl⟩ hd
    rw [hn] at c0
    refine no (seq_if_ret (or_t c0) rfl) rfl ?_
    rintro ⟨p, ep, -⟩
    exact hd ⟨_, ep⟩
end
end K01

/-! S122: rows of pairs of any kind, as the law judges them. -/
namespace K01
open PySem L2 RW
open Q
section
variable {μ : Mem} {n : Nat} {d : D} {lo hi : Int}
def prD (z : Int × D) : D := .tup [.int z.1, z.2]
/-- pairs (number, anything), rising -/
def RowL (lo hi : Int) (d : D) : Prop := ∃ zs : List (Int × D), d = .tup (zs.map prD) ∧ (zs.map (·.1)).Pairwise (· < ·) ∧ ∀ z ∈ zs, lo ≤ z.1 ∧ z.1 ≤ hi
def fstD : D → D
  | .tup (a :: _) => a
  | _ => .non
def sndD : D → D
  | .tup (_ :: b :: _) => b
  | _ => .non
theorem any_false {α : Type} {f : α → Bool} {l : List α} (h : l.any f = false) : ∀ x ∈ l, f x = false := fun x hx => by
  cases e : f x with
  | false => rfl
  | true => rw [List.any_eq_true.mpr ⟨x, hx, e⟩] at h; cases h
theorem any_of {α : Type} {f : α → Bool} {l : List α} (h : ∀ x ∈ l, f x = false) : l.any f = false := by
  cases e : l.any f with
  | false => rfl
  | true =>
    obtain ⟨x, hx, hf⟩ := List.any_eq_true.mp e
    rw [h x hx] at hf; cases hf
theorem rows_of : ∀ {l : List D}, (∀ x ∈ l, isP2 x = true) → (∀ x ∈ l, within (fstD x) lo hi = true) → ∃ zs : List (Int × D), l = zs.map prD ∧ ∀ z ∈ zs, lo ≤ z.1 ∧ z.1 ≤ hi
  | [], _, _ => ⟨[], rfl, by simp⟩
  | x :: l, h1, h2 => by
    obtain ⟨a, b, rfl⟩ := isP2_iff.mp (h1 x (List.mem_cons_self ..))
    obtain ⟨i, e, i1, i2⟩ := within_iff.mp (h2 _ (List.mem_cons_self ..))
    have e : a = .int i := e
    subst e
    obtain ⟨zs, rfl, hz⟩ := rows_of (l := l) (fun y hy => h1 y (List.mem_cons_of_mem _ hy)) (fun y hy => h2 y (List.mem_cons_of_mem _ hy))
    refine ⟨(i, b) :: zs, rfl, fun z hz' => ?_⟩
    rcases List.mem_cons.mp hz' with rfl | hz'
    · exact ⟨i1, i2⟩
    · exact hz z hz'
theorem adj_pairwise {l : List Int} (h : ∀ k (h1 : k + 1 < l.length), l[k]'(by omega) < l[k + 1]) : l.Pairwise (· < ·) := by
  rw [List.pairwise_iff_getElem]
  have key : ∀ m i (hi : i + m + 1 < l.length), l[i]'(by omega) < l[i + m + 1] := by
    intro m
    induction m with
    | zero => intro i hi; exact h i hi
    | succ m ih =>
      intro i hi
      have a := ih i (by omega)
      have b := h (i + m + 1) (by omega)
      exact Int.lt_trans a b
  intro i j hi hj hij
  have := key (j - i - 1) i (by omega)
  have e : i + (j - i - 1) + 1 = j := by omega
  simpa only [e] using this
theorem getD_get {l : List Int} {k : Nat} (h : k < l.length) : l.getD k 0 = l[k] := by simp [List.getD, List.getElem?_eq_getElem h]
theorem prD_inj : ∀ {a b : List (Int × D)}, a.map prD = b.map prD → a = b
  | [], [], _ => rfl
  | [], _ :: _, h => by simp at h
  | _ :: _, [], h => by simp at h
  | (x1, x2) :: a, (y1, y2) :: b, h => by
    rw [List.map_cons, List.map_cons] at h
    have h1 := (List.cons.inj h).1
    have h2 := (List.cons.inj h).2
    have h3 := D.tup.inj h1
    have h4 := (List.cons.inj h3).1
    have h5 := (List.cons.inj (List.cons.inj h3).2).1
    have h6 : x1 = y1 := D.int.inj h4
    have h7 : x2 = y2 := h5
    rw [h6, h7, prD_inj h2]
abbrev rhoL (d : D) (lo hi : Int) : Rho := [some d, some (.int lo), some (.int hi), none, none]
noncomputable def lp1 : MD := mBin neE (mComp (iSeq (mVar 0)) (gN 3) (mOr (mNot (mTest (mUn (isT1 "tuple") (mVar 3)))) (mTest (mBin neD (mB lenL (mCons (mVar 3) (mNil))) (mC (.int 2))))) (mVar 3) [3]) (mLst (mNil))
noncomputable def lp2 : MD := mBin neE (mComp (iSeq (mVar 0)) (gN 3) (mNot (mTest (mB m_law_is_from (mCons (mBin idxA (mVar 3) (mC (.int 0))) (mCons (mVar 1) (mCons (mVar 2) (mNil))))))) (mVar 3) [3]) (mLst (mNil))
noncomputable def lp3 : MD := mBin eqE (mComp (iRange2 (mCons (mC (.int 1)) (mCons (mB lenL (mCons (mVar 0) (mNil))) (mNil)))) (gN 4) (mTest (mBin (cmpI fun i j => decide (j ≤ i)) (mBin idxA (mBin idxA (mVar 0) (mBin subD (mVar 4) (mC (.int 1)))) (mC (.int 0))) (mBin idxA (mBin idxA (mVar 0) (mVar 4)) (mC (.int 0))))) (mVar 4) [4]) (mLst (mNil))
theorem lpairs_eq : b_law_are_pairs = sSeq (sIf (mNot (mTest (mUn (isT1 "tuple") (mVar 0)))) (sRet (mC (.bl false))) (sNil))
    (sSeq (sIf (mTest lp1) (sRet (mC (.bl false))) (sNil))
    (sSeq (sIf (mTest lp2) (sRet (mC (.bl false))) (sNil))
    (sRet lp3))) := rfl
theorem lp1_any {l : List D} (hs : ∀ x ∈ l, Sk μ n x) (hl : l.length < 100000) : ∃ μ', lp1 (rhoL (.tup l) lo hi) μ = .ok (.bl (l.any fun x => !isP2 x)) μ' ∧ Keep [] μ μ' :=
  comp_some (ex := []) (own := [3]) (fun x => !isP2 x) l (seq_tup (l := l) (μ1 := μ) rfl) (fun _ _ => trivial) hl (fun x hx μ' k => by
    obtain ⟨t, ht⟩ := ((hs x hx).keep k).ty
    let ρ1 : Rho := [some (.tup l), some (.int lo), some (.int hi), some x, none]
    have c0 : mNot (mTest (mUn (isT1 "tuple") (mVar 3))) ρ1 μ' = .ok (!isTupB x) μ' := not_k (test_k (un_k (p := x) (μ1 := μ') rfl (tupT ht)))
    refine ⟨ρ1, μ', rfl, ?_, .refl, fun μ3 => rfl⟩
    cases x with
    | tup r =>
      refine or_f c0 (tup_len (l := r) rfl ?_)
      match r with
      | [] => rfl
      | [a] => rfl
      | [a, b] => rfl
      | a :: b :: c :: r =>
        have : ¬ (((a :: b :: c :: r).length : Nat) : Int) = 2 := by simp only [List.length_cons]; omega
        rw [decide_eq_false this]; rfl
    | _ => exact or_t c0)
theorem lp2_any {l : List D} (hs : ∀ x ∈ l, Sk μ n x) (h2 : ∀ x ∈ l, isP2 x = true) (hl : l.length < 100000) : ∃ μ', lp2 (rhoL (.tup l) lo hi) μ = .ok (.bl (l.any fun x => !within (fstD x) lo hi)) μ' ∧ Keep [] μ μ' :=
  comp_some (ex := []) (own := [3]) (fun x => !within (fstD x) lo hi) l (seq_tup (l := l) (μ1 := μ) rfl) (fun _ _ => trivial) hl (fun x hx μ' k => by
    obtain ⟨a, b, rfl⟩ := isP2_iff.mp (h2 x hx)
    obtain ⟨t, ht⟩ := ((((hs _ hx).keep k).tup) a (by simp)).ty
    let ρ1 : Rho := [some (.tup l), some (.int lo), some (.int hi), some (.tup [a, b]), none]
    exact ⟨ρ1, μ', rfl, not_k (test_k (call3k (bin_k (p := .tup [a, b]) (q := .int 0) (μ1 := μ') (μ2 := μ') rfl rfl (ix_tup (by decide) rfl)) (y := mVar 1) (z := mVar 2) (q := .int lo) (r := .int hi) (μ2 := μ') (μ3 := μ') rfl rfl (lfrom_any ht))), .refl, fun μ3 => rfl⟩)
theorem lp3_any {zs : List (Int × D)} (hl : zs.length < 100000) : ∃ b μ', lp3 (rhoL (.tup (zs.map prD)) lo hi) μ = .ok (.bl b) μ' ∧ Keep [] μ μ' ∧ (b = true ↔ (zs.map (·.1)).Pairwise (· < ·)) := by
  let f : D → Bool := fun d => match d with
    | .int k => decide ((zs.map (·.1)).getD k.toNat 0 ≤ (zs.map (·.1)).getD (k - 1).toNat 0)
    | _ => false
  have ln : lenL [.tup (zs.map prD)] μ = .ok (.int (zs.length : Int)) μ := by
    show Res.ok (D.int ((zs.map prD).length : Int)) μ = _
    rw [List.length_map]
  have rg : iRange2 (mCons (mC (.int 1)) (mCons (mB lenL (mCons (mVar 0) (mNil))) (mNil))) (rhoL (.tup (zs.map prD)) lo hi) μ = .ok (rangeItems 1 (zs.length - 1), fun _ => True) μ :=
    ir2 (m := 1) (n := zs.length) rfl (call1k (p := .tup (zs.map prD)) (μ1 := μ) rfl ln) (by omega) (by decide)
  have at_ : ∀ k, k < zs.length → ∃ z, zs[k]? = some z ∧ (zs.map (·.1)).getD k 0 = z.1 := fun k hk => by
    refine ⟨zs[k], List.getElem?_eq_getElem hk, ?_⟩
    simp [List.getD, List.getElem?_map, List.getElem?_eq_getElem hk]
  obtain ⟨μ', q, k⟩ := comp_none (ex := []) (own := [4]) (te := mVar 4) (tt := mTest (mBin (cmpI fun i j => decide (j ≤ i)) (mBin idxA (mBin idxA (mVar 0) (mBin subD (mVar 4) (mC (.int 1)))) (mC (.int 0))) (mBin idxA (mBin idxA (mVar 0) (mVar 4)) (mC (.int 0))))) (g := gN 4) f (rangeItems 1 (zs.length - 1)) rg (fun _ _ => trivial) (by rw [show (rangeItems 1 (zs.length - 1)).length = zs.length - 1 by simp [rangeItems]]; omega) (fun x hx μ' k => by
    simp only [rangeItems, List.mem_map, List.mem_range] at hx
    obtain ⟨i, hi', rfl⟩ := hx
    obtain ⟨y, ey, gy⟩ := at_ i (by omega)
    obtain ⟨z, ez, gz⟩ := at_ (i + 1) (by omega)
    let ρ1 : Rho := [some (.tup (zs.map prD)), some (.int lo), some (.int hi), none, some (.int (1 + (i : Int)))]
    have iy : idxA (.tup (zs.map prD)) (.int (1 + (i : Int) - 1)) μ' = .ok (prD y) μ' := ix_tup (by omega) (by rw [show (1 + (i : Int) - 1).toNat = i by omega, List.getElem?_map, ey]; rfl)
    have iz : idxA (.tup (zs.map prD)) (.int (1 + (i : Int))) μ' = .ok (prD z) μ' := ix_tup (by omega) (by rw [show (1 + (i : Int)).toNat = i + 1 by omega, List.getElem?_map, ez]; rfl)
    refine ⟨ρ1, μ', rfl, test_k (bin_k (p := .int y.1) (q := .int z.1) (μ1 := μ') (μ2 := μ') (bin_k (q := .int 0) (bin_k (p := .tup (zs.map prD)) (q := .int (1 + (i : Int) - 1)) (μ1 := μ') (μ2 := μ') rfl rfl iy) rfl (ix_tup (by decide) rfl)) (bin_k (q := .int 0) (bin_k (p := .tup (zs.map prD)) (q := .int (1 + (i : Int))) (μ1 := μ') (μ2 := μ') rfl rfl iz) rfl (ix_tup (by decide) rfl)) ?_), .refl, fun μ3 => rfl⟩
    simp only [cmpI, f]
    rw [show (1 + (i : Int)).toNat = i + 1 by omega, show (1 + (i : Int) - 1).toNat = i by omega, gy, gz])
  refine ⟨_, μ', q, k, ?_⟩
  have len : (zs.map (·.1)).length = zs.length := List.length_map ..
  constructor
  · intro h
    refine adj_pairwise fun j hj => ?_
    have hf := any_false (l := rangeItems 1 (zs.length - 1)) (f := f) (by cases e : (rangeItems 1 (zs.length - 1)).any f <;> simp [e] at h ⊢) (.int (1 + (j : Int))) (by
      simp only [rangeItems, List.mem_map, List.mem_range]
      exact ⟨j, by rw [len] at hj; omega, rfl⟩)
    simp only [f, decide_eq_false_iff_not] at hf
    rw [show (1 + (j : Int)).toNat = j + 1 by omega, show (1 + (j : Int) - 1).toNat = j by omega] at hf
    rw [getD_get hj, getD_get (show j < (zs.map (·.1)).length by omega)] at hf
    omega
  · intro h
    have : (rangeItems 1 (zs.length - 1)).any f = false := any_of fun x hx => by
      simp only [rangeItems, List.mem_map, List.mem_range] at hx
      obtain ⟨i, hi', rfl⟩ := hx
      simp only [f]
      rw [show (1 + (i : Int)).toNat = i + 1 by omega, show (1 + (i : Int) - 1).toNat = i by omega]
      have := List.pairwise_iff_getElem.mp h i (i + 1) (by rw [len]; omega) (by rw [len]; omega) (by omega)
      rw [getD_get (show i + 1 < (zs.map (·.1)).length by rw [len]; omega), getD_get (show i < (zs.map (·.1)).length by rw [len]; omega)]
      exact decide_eq_false (by omega)
    rw [this]; rfl
theorem lpairs_any (h : Sk μ n d) (hl : ∀ l, d = .tup l → l.length < 100000) : ∃ b μ', m_law_are_pairs [d, .int lo, .int hi] μ = .ok (.bl b) μ' ∧ Keep [] μ μ' ∧ (b = true ↔ RowL lo hi d) := by
  obtain ⟨t, ht⟩ := h.ty
  have c0 : mNot (mTest (mUn (isT1 "tuple") (mVar 0))) (startR 5 [d, .int lo, .int hi]) μ = .ok (!isTupB d) μ := not_k (test_k (un_k (p := d) (μ1 := μ) rfl (tupT ht)))
  by_cases hd : ∃ l, d = .tup l
  · obtain ⟨l, rfl⟩ := hd
    have hl := hl l rfl
    obtain ⟨μ1, q1, k1⟩ := lp1_any (lo := lo) (hi := hi) h.tup hl
    cases a1 : l.any fun x => !isP2 x with
    | true =>
      rw [a1] at q1
      refine ⟨false, μ1, run_is ?_, k1, (fun z => by cases z), ?_⟩
      · rw [lpairs_eq]
        exact (seq_skip c0).trans (seq_if_ret (test_k q1) rfl)
      · rintro ⟨zs, e, -⟩
        cases e
        obtain ⟨x, hx, hf⟩ := List.any_eq_true.mp a1
        obtain ⟨z, hz, rfl⟩ := List.mem_map.mp hx
        simp [isP2, prD] at hf
    | false =>
      rw [a1] at q1
      have p2 : ∀ x ∈ l, isP2 x = true := fun x hx => by have := any_false a1 x hx; simpa using this
      obtain ⟨μ2, q2, k2⟩ := lp2_any (lo := lo) (hi := hi) (fun x hx => (h.tup x hx).keep k1) p2 hl
      cases a2 : l.any fun x => !within (fstD x) lo hi with
      | true =>
        rw [a2] at q2
        refine ⟨false, μ2, run_is ?_, k1.trans k2, (fun z => by cases z), ?_⟩
        · rw [lpairs_eq]
          exact (seq_skip c0).trans ((seq_skip (test_k q1)).trans (seq_if_ret (test_k q2) rfl))
        · rintro ⟨zs, e, -, hz⟩
          cases e
          obtain ⟨x, hx, hf⟩ := List.any_eq_true.mp a2
          obtain ⟨z, hm, rfl⟩ := List.mem_map.mp hx
          have := hz z hm
          rw [show fstD (prD z) = .int z.1 from rfl, within_iff.mpr ⟨z.1, rfl, this⟩] at hf
          cases hf
      | false =>
        rw [a2] at q2
        obtain ⟨zs, rfl, hz⟩ := rows_of (lo := lo) (hi := hi) p2 (fun x hx => by have := any_false a2 x hx; simpa using this)
        rw [List.length_map] at hl
        obtain ⟨b, μ3, q3, k3, hb⟩ := lp3_any (μ := μ2) (lo := lo) (hi := hi) (zs := zs) hl
        refine ⟨b, μ3, run_is ?_, (k1.trans k2).trans k3, hb.trans ⟨fun hp => ⟨zs, rfl, hp, hz⟩, fun ⟨ws, e, hp, _⟩ => ?_⟩⟩
        · rw [lpairs_eq]
          exact (seq_skip c0).trans ((seq_skip (test_k q1)).trans ((seq_skip (test_k q2)).trans (ret_is q3)))
        · have e' : zs.map prD = ws.map prD := D.tup.inj e
          rw [prD_inj e']; exact hp
  · have hn : isTupB d = false := by cases d <;> first | rfl | exact absurd ⟨_, rfl⟩ hd
    rw [hn] at c0
    refine ⟨false, μ, run_is ?_, .refl, (fun z => by cases z), fun ⟨zs, e, _⟩ => absurd ⟨_, e⟩ hd⟩
    rw [lpairs_eq]
    exact seq_if_ret c0 rfl
end
end K01

/-! S123: pipes of any kind, as the law judges them. -/
namespace K01
open PySem L2 RW
open Q
/-- rows within are short -/
def Ln : Nat → D → Prop
  | 0, _ => True
  | n + 1, d => ∀ l, d = .tup l → l.length < 100000 ∧ ∀ x ∈ l, Ln n x
section
variable {μ : Mem} {n m : Nat} {d : D} {R : Int}
theorem Ln.up : ∀ {n : Nat} {d : D}, Ln (n + 1) d → Ln n d
  | 0, _, _ => trivial
  | n + 1, d, h => fun l e => ⟨(h l e).1, fun x hx => Ln.up ((h l e).2 x hx)⟩
theorem rowl_ints {lo hi : Int} {zs : List (Int × D)} {F : Int → Prop} (hF : ∀ z ∈ zs, ∃ x, z.2 = .int x ∧ F x) : ∃ ws : List (Int × Int), zs.map prD = ws.map pairD ∧ ws.map (·.1) = zs.map (·.1) ∧ (∀ w ∈ ws, F w.2) ∧ ∀ w ∈ ws, ∃ z ∈ zs, z.1 = w.1 := by
  induction zs with
  | nil => exact ⟨[], rfl, rfl, by simp, by simp⟩
  | cons z zs ih =>
    obtain ⟨x, e, hx⟩ := hF z (List.mem_cons_self ..)
    obtain ⟨ws, e1, e2, e3, e4⟩ := ih fun y hy => hF y (List.mem_cons_of_mem _ hy)
    refine ⟨(z.1, x) :: ws, ?_, by simp [e2], fun w hw => ?_, fun w hw => ?_⟩
    · rw [List.map_cons, List.map_cons, e1]
      unfold prD pairD
      rw [e]
    · rcases List.mem_cons.mp hw with rfl | hw
      · exact hx
      · exact e3 w hw
    · rcases List.mem_cons.mp hw with rfl | hw
      · exact ⟨z, List.mem_cons_self .., rfl⟩
      · obtain ⟨y, hy, hz⟩ := e4 w hw
        exact ⟨y, List.mem_cons_of_mem _ hy, hz⟩
abbrev rhoQ (R : Int) (l : D) (i j k : Int) (e f : D) : Rho := [some (.int R), some l, some (.int i), some (.int j), some (.int k), some e, some f, none]
noncomputable def lw5 : MD := mBin neE (mComp (iSeq (mVar 5)) (gN 7) (mNot (mTest (mB m_law_is_from (mCons (mBin idxA (mVar 7) (mC (.int 1))) (mCons (mC (.int 1)) (mCons (mBin powD (mC (.int 10)) (mC (.int 6))) (mNil))))))) (mVar 7) [7]) (mLst (mNil))
noncomputable def lw6 : MD := mBin eqE (mComp (iSeq (mVar 6)) (gN 7) (mOr (mNot (mTest (mB m_law_is_from (mCons (mBin idxA (mVar 7) (mC (.int 1))) (mCons (mUn negD (mC (.int 1))) (mCons (mC (.int 1)) (mNil))))))) (mTest (mBin eqD (mBin idxA (mVar 7) (mC (.int 1))) (mC (.int 0))))) (mVar 7) [7]) (mLst (mNil))
noncomputable def lq4 : MS := sSeq (sIf (mOr (mNot (mTest (mB m_law_are_pairs (mCons (mVar 5) (mCons (mC (.int 1)) (mCons (mBin subD (mVar 4) (mC (.int 1))) (mNil))))))) (mNot (mTest (mB m_law_are_pairs (mCons (mVar 6) (mCons (mC (.int 0)) (mCons (mBin subD (mVar 4) (mC (.int 1))) (mNil)))))))) (sRet (mC (.bl false))) (sNil))
    (sSeq (sIf (mTest lw5) (sRet (mC (.bl false))) (sNil))
    (sRet lw6))
noncomputable def lq2 : MS := sSeq (sIf (mOr (mNot (mTest (mB m_law_is_from (mCons (mVar 2) (mCons (mC (.int 0)) (mCons (mBin subD (mVar 0) (mC (.int 1))) (mNil))))))) (mOr (mNot (mTest (mB m_law_is_from (mCons (mVar 3) (mCons (mC (.int 0)) (mCons (mBin subD (mVar 0) (mC (.int 1))) (mNil))))))) (mTest (mBin (cmpI fun i j => decide (j ≤ i)) (mVar 2) (mVar 3))))) (sRet (mC (.bl false))) (sNil))
    (sSeq (sIf (mNot (mTest (mB m_law_is_from (mCons (mVar 4) (mCons (mC (.int 1)) (mCons (mBin powD (mC (.int 10)) (mC (.int 12))) (mNil))))))) (sRet (mC (.bl false))) (sNil))
    lq4)
theorem lpipe_eq : b_law_is_pipe = sSeq (sIf (mOr (mNot (mTest (mUn (isT1 "tuple") (mVar 1)))) (mTest (mBin neD (mB lenL (mCons (mVar 1) (mNil))) (mC (.int 5))))) (sRet (mC (.bl false))) (sNil))
    (sSeq (sAsg (mVar 1) (gTupM 5 (gConsM (gN 2) (gConsM (gN 3) (gConsM (gN 4) (gConsM (gN 5) (gConsM (gN 6) (gNilM)))))))) lq2) := rfl
theorem lw5_any {l e f : D} {i j k : Int} {zs : List (Int × D)} (he : e = .tup (zs.map prD)) (hs : Sk μ n e) (hl : zs.length < 100000) : ∃ μ', lw5 (rhoQ R l i j k e f) μ = .ok (.bl ((zs.map prD).any fun x => !within (sndD x) 1 1000000)) μ' ∧ Keep [] μ μ' :=
  comp_some (ex := []) (own := [7]) (fun x => !within (sndD x) 1 1000000) (zs.map prD) (seq_tup (l := zs.map prD) (μ1 := μ) (by rw [he]; rfl)) (fun _ _ => trivial) (by rw [List.length_map]; exact hl) (fun x hx μ' kk => by
    obtain ⟨z, hz, rfl⟩ := List.mem_map.mp hx
    have sk := ((he ▸ hs : Sk μ n (.tup (zs.map prD))).tup _ hx).keep kk
    obtain ⟨t, ht⟩ := (sk.tup z.2 (by simp [prD])).ty
    let ρ1 : Rho := [some (.int R), some l, some (.int i), some (.int j), some (.int k), some e, some f, some (prD z)]
    exact ⟨ρ1, μ', rfl, not_k (test_k (call3k (bin_k (p := prD z) (q := .int 1) (μ1 := μ') (μ2 := μ') rfl rfl (ix_tup (by decide) rfl)) (y := mC (.int 1)) (z := mBin powD (mC (.int 10)) (mC (.int 6))) (q := .int 1) (r := .int 1000000) (μ2 := μ') (μ3 := μ') rfl rfl (lfrom_any ht))), .refl, fun μ3 => rfl⟩)
def badW (d : D) : Bool := !within d (-1) 1 || (match d with | .int i => decide (i = 0) | _ => false)
theorem lw6_any {l e f : D} {i j k : Int} {zs : List (Int × D)} (he : f = .tup (zs.map prD)) (hs : Sk μ n f) (hl : zs.length < 100000) : ∃ μ', lw6 (rhoQ R l i j k e f) μ = .ok (.bl (!(zs.map prD).any fun x => badW (sndD x))) μ' ∧ Keep [] μ μ' :=
  comp_none (ex := []) (own := [7]) (fun x => badW (sndD x)) (zs.map prD) (seq_tup (l := zs.map prD) (μ1 := μ) (by rw [he]; rfl)) (fun _ _ => trivial) (by rw [List.length_map]; exact hl) (fun x hx μ' kk => by
    obtain ⟨z, hz, rfl⟩ := List.mem_map.mp hx
    have sk := ((he ▸ hs : Sk μ n (.tup (zs.map prD))).tup _ hx).keep kk
    obtain ⟨t, ht⟩ := (sk.tup z.2 (by simp [prD])).ty
    let ρ1 : Rho := [some (.int R), some l, some (.int i), some (.int j), some (.int k), some e, some f, some (prD z)]
    have i1 : mBin idxA (mVar 7) (mC (.int 1)) ρ1 μ' = .ok z.2 μ' := bin_k (p := prD z) (q := .int 1) (μ1 := μ') (μ2 := μ') rfl rfl (ix_tup (by decide) rfl)
    have c1 : mNot (mTest (mB m_law_is_from (mCons (mBin idxA (mVar 7) (mC (.int 1))) (mCons (mUn negD (mC (.int 1))) (mCons (mC (.int 1)) (mNil)))))) ρ1 μ' = .ok (!within z.2 (-1) 1) μ' := not_k (test_k (call3k i1 (y := mUn negD (mC (.int 1))) (z := mC (.int 1)) (q := .int (-1)) (r := .int 1) (μ2 := μ') (μ3 := μ') rfl rfl (lfrom_any ht)))
    refine ⟨ρ1, μ', rfl, ?_, .refl, fun μ3 => rfl⟩
    show _ = Res.ok (badW z.2) μ'
    unfold badW
    cases hw : within z.2 (-1) 1 with
    | false =>
      rw [hw] at c1
      exact or_t c1
    | true =>
      rw [hw] at c1
      obtain ⟨x, ex, _⟩ := within_iff.mp hw
      rw [ex] at i1 ⊢
      exact or_f c1 (test_k (bin_k i1 (q := .int 0) rfl eqI)))
theorem lq4_any {l e f : D} {i j k : Int} (se : Sk μ n e) (sf : Sk μ n f) (he : ∀ r, e = .tup r → r.length < 100000) (hf : ∀ r, f = .tup r → r.length < 100000) :
    ∃ b μ', lq4 (rhoQ R l i j k e f) μ = .ok (.ret (.bl b)) μ' ∧ Keep [] μ μ' ∧ (b = true ↔ ∃ zs ws : List (Int × Int), e = .tup (zs.map pairD) ∧ f = .tup (ws.map pairD) ∧ (zs.map (·.1)).Pairwise (· < ·) ∧ (∀ z ∈ zs, 1 ≤ z.1 ∧ z.1 ≤ k - 1 ∧ 1 ≤ z.2 ∧ z.2 ≤ 1000000) ∧ (ws.map (·.1)).Pairwise (· < ·) ∧ ∀ z ∈ ws, 0 ≤ z.1 ∧ z.1 ≤ k - 1 ∧ (z.2 = 1 ∨ z.2 = -1)) := by
  have sl : ∀ μ : Mem, mBin subD (mVar 4) (mC (.int 1)) (rhoQ R l i j k e f) μ = .ok (.int (k - 1)) μ := fun μ => rfl
  obtain ⟨b1, μ1, q1, k1, h1⟩ := lpairs_any (lo := 1) (hi := k - 1) se he
  obtain ⟨b2, μ2, q2, k2, h2⟩ := lpairs_any (lo := 0) (hi := k - 1) (sf.keep k1) hf
  have c1 := not_k (test_k (call3k (ρ := rhoQ R l i j k e f) (x := mVar 5) (y := mC (.int 1)) (p := e) (q := .int 1) (μ1 := μ) (μ2 := μ) rfl rfl (sl μ) q1))
  have c2 := not_k (test_k (call3k (ρ := rhoQ R l i j k e f) (x := mVar 6) (y := mC (.int 0)) (p := f) (q := .int 0) (μ1 := μ1) (μ2 := μ1) rfl rfl (sl μ1) q2))
  cases b1 with
  | false =>
    refine ⟨false, μ1, seq_if_ret (or_t c1) rfl, k1, (fun z => by cases z), fun ⟨zs, ws, e1, e2, z1, z2, w1, w2⟩ => ?_⟩
    refine h1.mpr ⟨zs.map fun z => (z.1, .int z.2), ?_, ?_, fun z hz => ?_⟩
    · rw [e1, List.map_map]; rfl
    · rw [List.map_map]; exact z1
    · obtain ⟨y, hy, rfl⟩ := List.mem_map.mp hz
      exact ⟨(z2 y hy).1, (z2 y hy).2.1⟩
  | true =>
    obtain ⟨zs, ez, zp, zr⟩ := h1.mp rfl
    cases b2 with
    | false =>
      refine ⟨false, μ2, seq_if_ret (or_f c1 c2) rfl, k1.trans k2, (fun z => by cases z), fun ⟨zs, ws, e1, e2, z1, z2, w1, w2⟩ => ?_⟩
      refine h2.mpr ⟨ws.map fun z => (z.1, .int z.2), ?_, ?_, fun z hz => ?_⟩
      · rw [e2, List.map_map]; rfl
      · rw [List.map_map]; exact w1
      · obtain ⟨y, hy, rfl⟩ := List.mem_map.mp hz
        exact ⟨(w2 y hy).1, (w2 y hy).2.1⟩
    | true =>
      obtain ⟨ws, ew, wp, wr⟩ := h2.mp rfl
      have lz : zs.length < 100000 := by have := he _ ez; rwa [List.length_map] at this
      have lw : ws.length < 100000 := by have := hf _ ew; rwa [List.length_map] at this
      obtain ⟨μ3, q3, k3⟩ := lw5_any (R := R) (l := l) (i := i) (j := j) (k := k) (f := f) ez ((se.keep k1).keep k2) lz
      cases a3 : (zs.map prD).any fun x => !within (sndD x) 1 1000000 with
      | true =>
        rw [a3] at q3
        refine ⟨false, μ3, (seq_skip (or_f c1 c2)).trans (seq_if_ret (test_k q3) rfl), (k1.trans k2).trans k3, (fun z => by cases z), fun ⟨zs', ws', e1, e2, z1, z2, w1, w2⟩ => ?_⟩
        have e' : zs.map prD = zs'.map pairD := D.tup.inj (ez.symm.trans e1)
        rw [e'] at a3
        obtain ⟨x, hx, hf'⟩ := List.any_eq_true.mp a3
        obtain ⟨z, hz, rfl⟩ := List.mem_map.mp hx
        rw [show sndD (pairD z) = .int z.2 from rfl, within_iff.mpr ⟨z.2, rfl, (z2 z hz).2.2.1, (z2 z hz).2.2.2⟩] at hf'
        cases hf'
      | false =>
        rw [a3] at q3
        obtain ⟨μ4, q4, k4⟩ := lw6_any (R := R) (l := l) (i := i) (j := j) (k := k) (e := e) ew (((sf.keep k1).keep k2).keep k3) lw
        refine ⟨_, μ4, (seq_skip (or_f c1 c2)).trans ((seq_skip (test_k q3)).trans (ret_is q4)), ((k1.trans k2).trans k3).trans k4, ?_⟩
        have hz5 : ∀ z ∈ zs, ∃ x, z.2 = .int x ∧ (1 ≤ x ∧ x ≤ 1000000) := fun z hz => by
          have := any_false a3 (prD z) (List.mem_map_of_mem hz)
          have hw : within z.2 1 1000000 = true := by simpa [sndD, prD] using this
          exact within_iff.mp hw
        obtain ⟨zs2, y1, y2, y3, y4⟩ := rowl_ints (lo := 0) (hi := 0) hz5
        constructor
        · intro h
          have a4 : ((ws.map prD).any fun x => badW (sndD x)) = false := by
            cases e : (ws.map prD).any fun x => badW (sndD x) with
            | false => rfl
            | true => rw [e] at h; cases h
          have hw6 : ∀ z ∈ ws, ∃ x, z.2 = .int x ∧ (x = 1 ∨ x = -1) := fun z hz => by
            have hb := any_false a4 (prD z) (List.mem_map_of_mem hz)
            have hb : badW z.2 = false := hb
            unfold badW at hb
            rw [Bool.or_eq_false_iff] at hb
            have hw : within z.2 (-1) 1 = true := by simpa using hb.1
            obtain ⟨x, ex, x1, x2⟩ := within_iff.mp hw
            have hb2 := hb.2
            rw [ex] at hb2
            have : ¬ x = 0 := of_decide_eq_false hb2
            exact ⟨x, ex, by omega⟩
          obtain ⟨ws2, v1, v2, v3, v4⟩ := rowl_ints (lo := 0) (hi := 0) hw6
          refine ⟨zs2, ws2, by rw [ez, y1], by rw [ew, v1], by rw [y2]; exact zp, fun w hw => ?_, by rw [v2]; exact wp, fun w hw => ?_⟩
          · obtain ⟨z, hz, e⟩ := y4 w hw
            have := zr z hz
            have := y3 w hw
            rw [← e]; exact ⟨by omega, by omega, by omega, by omega⟩
          · obtain ⟨z, hz, e⟩ := v4 w hw
            have := wr z hz
            have := v3 w hw
            rw [← e]; exact ⟨by omega, by omega, this⟩
        · rintro ⟨zs', ws', e1, e2, z1, z2, w1, w2⟩
          have e' : ws.map prD = ws'.map pairD := D.tup.inj (ew.symm.trans e2)
          rw [e']
          have : ((ws'.map pairD).any fun x => badW (sndD x)) = false := any_of fun x hx => by
            obtain ⟨z, hz, rfl⟩ := List.mem_map.mp hx
            show badW (.int z.2) = false
            have := (w2 z hz).2.2
            unfold badW
            rw [within_iff.mpr ⟨z.2, rfl, by omega, by omega⟩]
            simp
            omega
          rw [this]; rfl
theorem lpipe_any (h : Sk μ n d) (hl : Ln 2 d) : ∃ b μ', m_law_is_pipe [.int R, d] μ = .ok (.bl b) μ' ∧ Keep [] μ μ' ∧ (b = true ↔ PipeIs R d) := by
  obtain ⟨t, ht⟩ := h.ty
  have c0 : mNot (mTest (mUn (isT1 "tuple") (mVar 1))) (startR 8 [.int R, d]) μ = .ok (!isTupB d) μ := not_k (test_k (un_k (p := d) (μ1 := μ) rfl (tupT ht)))
  by_cases hd : ∃ l, d = .tup l
  · obtain ⟨l, rfl⟩ := hd
    by_cases h5 : l.length = 5
    · obtain ⟨a, b, c, e, f, rfl⟩ := of5 h5
      obtain ⟨ta, hta⟩ := (h.tup a (by simp)).ty
      obtain ⟨tb, htb⟩ := (h.tup b (by simp)).ty
      obtain ⟨tc, htc⟩ := (h.tup c (by simp)).ty
      have se := h.tup e (by simp)
      have sf := h.tup f (by simp)
      have le := (hl _ rfl).2 e (by simp)
      have lf := (hl _ rfl).2 f (by simp)
      let rho : Rho := [some (.int R), some (.tup [a, b, c, e, f]), some a, some b, some c, some e, some f, none]
      have c1 : mTest (mBin neD (mB lenL (mCons (mVar 1) (mNil))) (mC (.int 5))) (startR 8 [.int R, .tup [a, b, c, e, f]]) μ = .ok false μ := tup_len (l := [a, b, c, e, f]) rfl rfl
      have begin_ : b_law_is_pipe (startR 8 [.int R, .tup [a, b, c, e, f]]) μ = lq2 rho μ := by
        rw [lpipe_eq]
        exact (seq_skip (or_f c0 c1)).trans ((seq_asg (d := .tup [a, b, c, e, f]) (μ1 := μ) (ρ2 := rho) (μ2 := μ) rfl rfl))
      have sb : mBin subD (mVar 0) (mC (.int 1)) rho μ = .ok (.int (R - 1)) μ := rfl
      have t1 : mNot (mTest (mB m_law_is_from (mCons (mVar 2) (mCons (mC (.int 0)) (mCons (mBin subD (mVar 0) (mC (.int 1))) (mNil)))))) rho μ = .ok (!within a 0 (R - 1)) μ := not_k (test_k (call3k (x := mVar 2) (p := a) (q := .int 0) (μ1 := μ) (μ2 := μ) rfl rfl sb (lfrom_any hta)))
      have t2 : mNot (mTest (mB m_law_is_from (mCons (mVar 3) (mCons (mC (.int 0)) (mCons (mBin subD (mVar 0) (mC (.int 1))) (mNil)))))) rho μ = .ok (!within b 0 (R - 1)) μ := not_k (test_k (call3k (x := mVar 3) (p := b) (q := .int 0) (μ1 := μ) (μ2 := μ) rfl rfl sb (lfrom_any htb)))
      have t4 : mNot (mTest (mB m_law_is_from (mCons (mVar 4) (mCons (mC (.int 1)) (mCons (mBin powD (mC (.int 10)) (mC (.int 12))) (mNil)))))) rho μ = .ok (!within c 1 1000000000000) μ := not_k (test_k (call3k (x := mVar 4) (p := c) (q := .int 1) (r := .int 1000000000000) (μ1 := μ) (μ2 := μ) (μ3 := μ) rfl rfl rfl (lfrom_any htc)))
      cases hw1 : within a 0 (R - 1) with
      | false =>
        rw [hw1] at t1
        refine ⟨false, μ, run_is (begin_.trans (seq_if_ret (or_t t1) rfl)), .refl, (fun z => by cases z), fun ⟨p, ep, ok, r1, r2, r3⟩ => ?_⟩
        cases ep
        rw [within_iff.mpr ⟨p.a, rfl, r1, by omega⟩] at hw1
        cases hw1
      | true =>
        rw [hw1] at t1
        obtain ⟨i, rfl, i1, i2⟩ := within_iff.mp hw1
        cases hw2 : within b 0 (R - 1) with
        | false =>
          rw [hw2] at t2
          refine ⟨false, μ, run_is (begin_.trans (seq_if_ret (or_f t1 (or_t t2)) rfl)), .refl, (fun z => by cases z), fun ⟨p, ep, ok, r1, r2, r3⟩ => ?_⟩
          cases ep
          rw [within_iff.mpr ⟨p.b, rfl, by omega, by omega⟩] at hw2
          cases hw2
        | true =>
          rw [hw2] at t2
          obtain ⟨j, rfl, j1, j2⟩ := within_iff.mp hw2
          have t3 : mTest (mBin (cmpI fun i j => decide (j ≤ i)) (mVar 2) (mVar 3)) rho μ = .ok (decide (j ≤ i)) μ := test_k (bin_k (p := .int i) (q := .int j) (μ1 := μ) (μ2 := μ) rfl rfl rfl)
          by_cases hij : j ≤ i
          · rw [decide_eq_true hij] at t3
            refine ⟨false, μ, run_is (begin_.trans (seq_if_ret (or_f t1 (or_f t2 t3)) rfl)), .refl, (fun z => by cases z), fun ⟨p, ep, ok, r1, r2, r3⟩ => ?_⟩
            cases ep
            omega
          · rw [decide_eq_false hij] at t3
            cases hw3 : within c 1 1000000000000 with
            | false =>
              rw [hw3] at t4
              refine ⟨false, μ, run_is (begin_.trans ((seq_skip (or_f t1 (or_f t2 t3))).trans (seq_if_ret t4 rfl))), .refl, (fun z => by cases z), fun ⟨p, ep, ok, r1, r2, r3⟩ => ?_⟩
              cases ep
              rw [within_iff.mpr ⟨p.len, rfl, ok.l1, ok.l2⟩] at hw3
              cases hw3
            | true =>
              rw [hw3] at t4
              obtain ⟨k, rfl, k1, k2⟩ := within_iff.mp hw3
              obtain ⟨x, μ', q, kk, hx⟩ := lq4_any (R := R) (l := .tup [.int i, .int j, .int k, e, f]) (i := i) (j := j) (k := k) se sf (fun r er => (le r er).1) (fun r er => (lf r er).1)
              refine ⟨x, μ', run_is (begin_.trans ((seq_skip (or_f t1 (or_f t2 t3))).trans ((seq_skip t4).trans q))), kk, hx.trans ⟨?_, ?_⟩⟩
              · rintro ⟨zs, ws, rfl, rfl, z1, z2, w1, w2⟩
                exact ⟨⟨i, j, k, zs, ws⟩, rfl, ⟨k1, k2, z1, z2, w1, w2⟩, i1, by show i < j; omega, by show j < R; omega⟩
              · rintro ⟨p, ep, ok, r1, r2, r3⟩
                cases ep
                exact ⟨p.nar, p.fl, rfl, rfl, ok.n1, ok.n2, ok.f1, ok.f2⟩
    · have c1 : mTest (mBin neD (mB lenL (mCons (mVar 1) (mNil))) (mC (.int 5))) (startR 8 [.int R, .tup l]) μ = .ok true μ := tup_len (l := l) rfl (by rw [decide_eq_false (by omega)]; rfl)
      refine ⟨false, μ, run_is (by rw [lpipe_eq]; exact seq_if_ret (or_f c0 c1) rfl), .refl, (fun z => by cases z), ?_⟩
      rintro ⟨p, ep, -⟩
      cases ep
      exact absurd rfl h5
  · have hn : isTupB d = false := by cases d <;> first | rfl | exact absurd ⟨_, rfl⟩ hd
    rw [hn] at c0
    refine ⟨false, μ, run_is (by rw [lpipe_eq]; exact seq_if_ret (or_t c0) rfl), .refl, (fun z => by cases z), ?_⟩
    rintro ⟨p, ep, -⟩
    exact absurd ⟨_, ep⟩ hd
end
end K01

/-! S116a: the search from room 0. -/
namespace K01
open PySem L2 RW
/-! ### the search, plainly -/
def stepJ (x : Int) (F : List Int) (h t : Int) : List Int := if h = x ∧ t ∉ F then F ++ [t] else F
def visitJ (x : Int) (F : List Int) (p : Pipe) : List Int := stepJ x (stepJ x F p.a p.b) p.b p.a
structure FoundJ (R : Nat) (F : List Int) : Prop where
  nd : F.Nodup
  rng : ∀ y ∈ F, 0 ≤ y ∧ y < R
theorem stepJ_pre {x h t : Int} {F : List Int} : F <+: stepJ x F h t := by
  unfold stepJ
  split
  · exact List.prefix_append _ _
  · exact List.prefix_refl _
theorem stepJ_has {t x : Int} {F : List Int} : t ∈ stepJ x F x t := by
  unfold stepJ
  by_cases h : t ∈ F
  · rw [if_neg (by simp [h])]; exact h
  · rw [if_pos ⟨rfl, h⟩]; simp
theorem FoundJ.step {R : Nat} {x h t : Int} {F : List Int} (f : FoundJ R F) (ht : 0 ≤ t ∧ t < R) : FoundJ R (stepJ x F h t) := by
  unfold stepJ
  split
  · rename_i hc
    refine ⟨?_, fun y hy => ?_⟩
    · rw [List.nodup_append]
      exact ⟨f.nd, by simp, fun a ha b hb e => by simp at hb; subst hb; subst e; exact hc.2 ha⟩
    · rcases List.mem_append.mp hy with hy | hy
      · exact f.rng y hy
      · rw [List.mem_singleton.mp hy]; exact ht
  · exact f
theorem FoundJ.len {R : Nat} {F : List Int} (f : FoundJ R F) : F.length ≤ R := by
  have h := List.Nodup.length_le_of_subset f.nd (fun y hy => mem_upTo.mpr (f.rng y hy) : F ⊆ upTo R)
  rwa [upTo_len] at h
/-! ### the text's -/
section
variable {μ : Mem}
theorem in_ints {y : Int} : ∀ F : List Int, inV (.int y) (F.map V.int) = decide (y ∈ F) := fun F => by
  unfold inV
  rw [List.any_map]
  induction F with
  | nil => rfl
  | cons a F ih =>
    rw [List.any_cons, ih]
    have e : ((fun z => eqV z (V.int y)) ∘ V.int) a = decide (a = y) := by
      show eqV (.int a) (.int y) = _
      rfl
    rw [e]
    by_cases h : a = y
    · subst h; simp
    · have : y ≠ a := fun z => h z.symm
      simp [h, this]
theorem flats_ints : ∀ F : List Int, flatsI (F.map D.int) = some (F.map V.int)
  | [] => rfl
  | a :: F => by rw [List.map_cons, flatsI, flats_ints F]; rfl
theorem notIn_ints {n : Nat} {F : List Int} {y : Int} (e : μ[n]? = some (.lst (F.map D.int))) : notInX (.int y) (.ref n) μ = .ok (.bl (!decide (y ∈ F))) μ := by
  simp only [notInX, rowI, e, flatI, flats_ints, in_ints]
noncomputable def jnI : MS := sIf (mAnd (mTest (mBin eqD (mVar 5) (mBin idxA (mVar 2) (mVar 3)))) (mTest (mBin notInX (mVar 6) (mVar 2)))) (sExpr (mMt isLst appendM (mVar 2) (mCons (mVar 6) (mNil)))) (sNil)
noncomputable def jnP : MS := sFor (iSeq (mTup (mCons (mSlc (mVar 4) oNone (oSome (mC (.int 2)))) (mCons (mUn (backAtD 1) (mVar 4)) (mNil))))) (gTupM 2 (gConsM (gN 5) (gConsM (gN 6) (gNilM)))) jnI
noncomputable def jnB : MS := sSeq (sFor (iSeq (mVar 1)) (gN 4) jnP) (sAug 3 iaddD (mC (.int 1)))
theorem joined_eq : b_is_joined = sSeq (sSet 2 (mLst (mCons (mC (.int 0)) (mNil))))
    (sSeq (sSet 3 (mC (.int 0)))
    (sSeq (whileL (mTest (mBin (cmpI fun i j => decide (i < j)) (mVar 3) (mB lenX (mCons (mVar 2) (mNil))))) jnB 1000)
    (sRet (mBin eqD (mB lenX (mCons (mVar 2) (mNil))) (mVar 0))))) := rfl
abbrev rhoJ (v0 v1 : Option D) (n i : Nat) (o4 o5 o6 : Option D) : Rho := [v0, v1, some (.ref n), some (.int (i : Int)), o4, o5, o6]
variable {v0 v1 o4 o5 o6 : Option D} {n i : Nat} {F : List Int} {x : Int}
theorem jnI_spec {h t : Int} (e : μ[n]? = some (.lst (F.map D.int))) (ex : F[i]? = some x) (hl : F.length ≤ 16) :
    ∃ μ', jnI (rhoJ v0 v1 n i o4 (some (.int h)) (some (.int t))) μ = .ok (.nx (rhoJ v0 v1 n i o4 (some (.int h)) (some (.int t)))) μ' ∧ μ'[n]? = some (.lst ((stepJ x F h t).map D.int)) ∧ Keep [n] μ μ' := by
  have ix : mBin idxA (mVar 2) (mVar 3) (rhoJ v0 v1 n i o4 (some (.int h)) (some (.int t))) μ = .ok (.int x) μ := bin_k (p := .ref n) (q := .int (i : Int)) (μ1 := μ) (μ2 := μ) rfl rfl (ix_lst e (by omega) (by rw [Int.toNat_natCast, List.getElem?_map, ex]; rfl))
  have t1 : mTest (mBin eqD (mVar 5) (mBin idxA (mVar 2) (mVar 3))) (rhoJ v0 v1 n i o4 (some (.int h)) (some (.int t))) μ = .ok (decide (h = x)) μ := test_k (bin_k (p := .int h) (μ1 := μ) rfl ix eqI)
  have t2 : mTest (mBin notInX (mVar 6) (mVar 2)) (rhoJ v0 v1 n i o4 (some (.int h)) (some (.int t))) μ = .ok (!decide (t ∈ F)) μ := test_k (bin_k (p := .int t) (q := .ref n) (μ1 := μ) (μ2 := μ) rfl rfl (notIn_ints e))
  by_cases h1 : h = x
  · rw [decide_eq_true h1] at t1
    by_cases h2 : t ∈ F
    · rw [decide_eq_true h2] at t2
      refine ⟨μ, (if_f (and_t t1 t2)).trans rfl, ?_, .refl⟩
      unfold stepJ
      rw [if_neg (by simp [h2])]; exact e
    · rw [decide_eq_false h2] at t2
      refine ⟨μ.set n (.lst (F.map D.int ++ [.int t])), (if_t (and_t t1 t2)).trans (app_lst (n := n) rfl e (isLst_of e) (y := .int t) rfl (by rw [List.length_map]; omega)), ?_, Keep.set (by simp)⟩
      unfold stepJ
      rw [if_pos ⟨h1, h2⟩, set_at (at_lt e), List.map_append]; rfl
  · rw [decide_eq_false h1] at t1
    refine ⟨μ, (if_f (and_f t1)).trans rfl, ?_, .refl⟩
    unfold stepJ
    rw [if_neg (by simp [h1])]; exact e
theorem jnP_spec {R : Nat} {p : Pipe} (hR : R ≤ 16) (e : μ[n]? = some (.lst (F.map D.int))) (ex : F[i]? = some x) (f : FoundJ R F) (hp : 0 ≤ p.a ∧ p.a < p.b ∧ p.b < R) :
    ∃ (q5 q6 : Option D) (μ' : Mem), jnP (rhoJ v0 v1 n i (some p.d) o5 o6) μ = .ok (.nx (rhoJ v0 v1 n i (some p.d) q5 q6)) μ' ∧ μ'[n]? = some (.lst ((visitJ x F p).map D.int)) ∧ Keep [n] μ μ' := by
  have it : iSeq (mTup (mCons (mSlc (mVar 4) oNone (oSome (mC (.int 2)))) (mCons (mUn (backAtD 1) (mVar 4)) (mNil)))) (rhoJ v0 v1 n i (some p.d) o5 o6) μ = .ok ([.tup [.int p.a, .int p.b], .tup [.int p.b, .int p.a]], fun _ => True) μ := by
    refine seq_tup (l := [.tup [.int p.a, .int p.b], .tup [.int p.b, .int p.a]]) (μ1 := μ) ?_
    have c1 : mSlc (mVar 4) oNone (oSome (mC (.int 2))) (rhoJ v0 v1 n i (some p.d) o5 o6) μ = .ok (.tup [.int p.a, .int p.b]) μ := rfl
    have c2 : mUn (backAtD 1) (mVar 4) (rhoJ v0 v1 n i (some p.d) o5 o6) μ = .ok (.tup [.int p.b, .int p.a]) μ := rfl
    simp only [mTup, mCons, mNil, c1, c2, Res.bind]
    rfl
  obtain ⟨μ1, q1, e1, k1⟩ := jnI_spec (v0 := v0) (v1 := v1) (o4 := some p.d) (h := p.a) (t := p.b) e ex (by have := f.len; omega)
  have f1 : FoundJ R (stepJ x F p.a p.b) := f.step ⟨by omega, by omega⟩
  have ex1 : (stepJ x F p.a p.b)[i]? = some x := by
    obtain ⟨r, er⟩ := stepJ_pre (x := x) (h := p.a) (t := p.b) (F := F)
    rw [← er, List.getElem?_append_left (List.getElem?_eq_some_iff.mp ex).1]; exact ex
  obtain ⟨μ2, q2, e2, k2⟩ := jnI_spec (v0 := v0) (v1 := v1) (o4 := some p.d) (h := p.b) (t := p.a) e1 ex1 (by have := f1.len; omega)
  have w : forL (fun _ => True) (gTupM 2 (gConsM (gN 5) (gConsM (gN 6) (gNilM)))) jnI [.tup [.int p.a, .int p.b], .tup [.int p.b, .int p.a]] (rhoJ v0 v1 n i (some p.d) o5 o6) μ = .ok (.nx (rhoJ v0 v1 n i (some p.d) (some (.int p.b)) (some (.int p.a)))) μ2 := by
    have loop := forL_ok (chk := fun _ => True) (g := gTupM 2 (gConsM (gN 5) (gConsM (gN 6) (gNilM)))) (body := jnI) [.tup [.int p.a, .int p.b], .tup [.int p.b, .int p.a]]
      (fun j ρ μ' => (j = 0 ∧ ρ = rhoJ v0 v1 n i (some p.d) o5 o6 ∧ μ' = μ) ∨ (j = 1 ∧ ρ = rhoJ v0 v1 n i (some p.d) (some (.int p.a)) (some (.int p.b)) ∧ μ' = μ1) ∨ (j = 2 ∧ ρ = rhoJ v0 v1 n i (some p.d) (some (.int p.b)) (some (.int p.a)) ∧ μ' = μ2)) 0
      (ρ := rhoJ v0 v1 n i (some p.d) o5 o6) (μ := μ) (.inl ⟨rfl, rfl, rfl⟩) (fun _ _ _ _ => trivial)
      (fun j d ρ μ' ed h => by
        simp only [Nat.zero_add] at h ⊢
        rcases h with ⟨rfl, rfl, rfl⟩ | ⟨rfl, rfl, rfl⟩ | ⟨rfl, rfl, rfl⟩
        · cases ed
          exact .mk (a := rhoJ v0 v1 n i (some p.d) (some (.int p.a)) (some (.int p.b))) (μ := μ') rfl (.mk q1 ⟨_, .inl rfl, .inr (.inl ⟨rfl, rfl, rfl⟩)⟩)
        · cases ed
          exact .mk (a := rhoJ v0 v1 n i (some p.d) (some (.int p.b)) (some (.int p.a))) (μ := μ') rfl (.mk q2 ⟨_, .inl rfl, .inr (.inr ⟨rfl, rfl, rfl⟩)⟩)
        · cases ed)
    obtain ⟨f, μ3, w, ρ', rfl, h⟩ := loop
    rcases h with ⟨h, _⟩ | ⟨h, _⟩ | ⟨_, rfl, rfl⟩
    · simp at h
    · simp at h
    · exact w
  exact ⟨_, _, μ2, for_run it w, e2, k1.trans k2⟩
/-- what the search has found when the pipes up to j are gone through from x -/
structure ScanJ (R : Nat) (x : Int) (F G : List Int) (qs : List Pipe) : Prop where
  pre : F <+: G
  ok : FoundJ R G
  has : ∀ p ∈ qs, (p.a = x → p.b ∈ G) ∧ (p.b = x → p.a ∈ G)
theorem ScanJ.more {R : Nat} {G : List Int} {qs : List Pipe} {p : Pipe} (s : ScanJ R x F G qs) (hp : 0 ≤ p.a ∧ p.a < p.b ∧ p.b < R) : ScanJ R x F (visitJ x G p) (qs ++ [p]) := by
  have p1 : G <+: stepJ x G p.a p.b := stepJ_pre
  have p2 : stepJ x G p.a p.b <+: visitJ x G p := stepJ_pre
  refine ⟨(s.pre.trans p1).trans p2, (s.ok.step ⟨by omega, by omega⟩).step ⟨by omega, by omega⟩, fun q hq => ?_⟩
  rcases List.mem_append.mp hq with hq | hq
  · exact ⟨fun h => (p1.trans p2).subset ((s.has q hq).1 h), fun h => (p1.trans p2).subset ((s.has q hq).2 h)⟩
  · rw [List.mem_singleton.mp hq]
    refine ⟨fun h => p2.subset (by rw [h]; exact stepJ_has), fun h => ?_⟩
    unfold visitJ
    rw [h]; exact stepJ_has
theorem jnL_spec {R : Nat} {ps : List Pipe} (hR : R ≤ 16) (hv : v1 = some (.tup (ps.map Pipe.d))) (e : μ[n]? = some (.lst (F.map D.int))) (ex : F[i]? = some x) (f : FoundJ R F) (hp : ∀ p ∈ ps, 0 ≤ p.a ∧ p.a < p.b ∧ p.b < R) :
    ∃ (q4 q5 q6 : Option D) (G : List Int) (μ' : Mem), jnB (rhoJ v0 v1 n i o4 o5 o6) μ = .ok (.nx (rhoJ v0 v1 n (i + 1) q4 q5 q6)) μ' ∧ μ'[n]? = some (.lst (G.map D.int)) ∧ ScanJ R x F G ps ∧ Keep [n] μ μ' := by
  have loop := forL_ok (chk := fun _ => True) (g := gN 4) (body := jnP) (ps.map Pipe.d)
    (fun j ρ μ' => (∃ o4 o5 o6, ρ = rhoJ v0 v1 n i o4 o5 o6) ∧ ∃ G, μ'[n]? = some (.lst (G.map D.int)) ∧ ScanJ R x F G (ps.take j) ∧ Keep [n] μ μ') 0
    (ρ := rhoJ v0 v1 n i o4 o5 o6) (μ := μ) ⟨⟨_, _, _, rfl⟩, F, e, ⟨List.prefix_refl _, f, fun p h => by rw [List.take_zero] at h; exact (List.not_mem_nil h).elim⟩, .refl⟩ (fun _ _ _ _ => trivial)
    (fun j d ρ μ' ed ⟨⟨o4, o5, o6, eρ⟩, G, eG, s, kk⟩ => by
      simp only [Nat.zero_add] at s ⊢
      subst eρ
      rw [List.getElem?_map] at ed
      obtain ⟨p, ep, rfl⟩ := Option.map_eq_some_iff.mp ed
      have hpp := hp p (List.mem_of_getElem? ep)
      have exG : G[i]? = some x := by
        obtain ⟨r, er⟩ := s.pre
        rw [← er, List.getElem?_append_left (List.getElem?_eq_some_iff.mp ex).1]; exact ex
      obtain ⟨q5, q6, μ2, q, e2, k2⟩ := jnP_spec (v0 := v0) (v1 := v1) (o5 := o5) (o6 := o6) hR eG exG s.ok hpp
      refine .mk (a := rhoJ v0 v1 n i (some p.d) o5 o6) (μ := μ') rfl (.mk q ⟨_, .inl rfl, ⟨_, _, _, rfl⟩, _, e2, ?_, kk.trans k2⟩)
      rw [List.take_add_one, ep]
      exact s.more hpp)
  rw [List.length_map, Nat.zero_add] at loop
  obtain ⟨f', μ', w, ρ', rfl, ⟨q4, q5, q6, rfl⟩, G, eG, s, kk⟩ := loop
  rw [List.take_length] at s
  refine ⟨q4, q5, q6, G, μ', ?_, eG, s, kk⟩
  refine (seq_run (for_run (seq_tup (a := mVar 1) (l := ps.map Pipe.d) (μ1 := μ) (by rw [hv]; rfl) ) w)).trans ?_
  rfl
theorem len_lstX {l : List D} (e : μ[n]? = some (.lst l)) : lenX [.ref n] μ = .ok (.int (l.length : Int)) μ := by simp only [lenX, e, lenL]
end
end K01

/-! S124: whether all rooms are joined, by the search. -/
namespace K01
open PySem L2 RW
inductive Rch (ps : List Pipe) : Int → Prop
  | zero : Rch ps 0
  | fwd {p : Pipe} (hp : p ∈ ps) (h : Rch ps p.a) : Rch ps p.b
  | bwd {p : Pipe} (hp : p ∈ ps) (h : Rch ps p.b) : Rch ps p.a
def Joined (R : Nat) (ps : List Pipe) : Prop := ∀ y : Int, 0 ≤ y → y < R → Rch ps y
theorem stepJ_mem {x h t y : Int} {F : List Int} (hy : y ∈ stepJ x F h t) : y ∈ F ∨ (h = x ∧ y = t) := by
  unfold stepJ at hy
  split at hy
  · rename_i hc
    rcases List.mem_append.mp hy with hy | hy
    · exact .inl hy
    · exact .inr ⟨hc.1, List.mem_singleton.mp hy⟩
  · exact .inl hy
section
variable {μ : Mem} {v0 v1 o4 o5 o6 : Option D} {n i : Nat} {F : List Int} {x : Int} {R : Nat} {ps : List Pipe}
theorem visit_rch {p : Pipe} {G : List Int} (hp : p ∈ ps) (hG : ∀ y ∈ G, Rch ps y) (hx : Rch ps x) : ∀ y ∈ visitJ x G p, Rch ps y := fun y hy => by
  unfold visitJ at hy
  rcases stepJ_mem hy with hy | ⟨e, rfl⟩
  · rcases stepJ_mem hy with hy | ⟨e, rfl⟩
    · exact hG y hy
    · exact .fwd hp (e ▸ hx)
  · exact .bwd hp (e ▸ hx)
theorem jnL_any (hR : R ≤ 16) (hv : v1 = some (.tup (ps.map Pipe.d))) (e : μ[n]? = some (.lst (F.map D.int))) (ex : F[i]? = some x) (f : FoundJ R F) (hp : ∀ p ∈ ps, 0 ≤ p.a ∧ p.a < p.b ∧ p.b < R) (hF : ∀ y ∈ F, Rch ps y) :
    ∃ (q4 q5 q6 : Option D) (G : List Int) (μ' : Mem), jnB (rhoJ v0 v1 n i o4 o5 o6) μ = .ok (.nx (rhoJ v0 v1 n (i + 1) q4 q5 q6)) μ' ∧ μ'[n]? = some (.lst (G.map D.int)) ∧ ScanJ R x F G ps ∧ Keep [n] μ μ' ∧ ∀ y ∈ G, Rch ps y := by
  have hx := hF x (List.mem_of_getElem? ex)
  have loop := forL_ok (chk := fun _ => True) (g := gN 4) (body := jnP) (ps.map Pipe.d)
    (fun j ρ μ' => (∃ o4 o5 o6, ρ = rhoJ v0 v1 n i o4 o5 o6) ∧ ∃ G, μ'[n]? = some (.lst (G.map D.int)) ∧ ScanJ R x F G (ps.take j) ∧ Keep [n] μ μ' ∧ ∀ y ∈ G, Rch ps y) 0
    (ρ := rhoJ v0 v1 n i o4 o5 o6) (μ := μ) ⟨⟨_, _, _, rfl⟩, F, e, ⟨List.prefix_refl _, f, fun p h => by rw [List.take_zero] at h; exact (List.not_mem_nil h).elim⟩, .refl, hF⟩ (fun _ _ _ _ => trivial)
    (fun j d ρ μ' ed ⟨⟨o4, o5, o6, eρ⟩, G, eG, s, kk, hG⟩ => by
      simp only [Nat.zero_add] at s ⊢
      subst eρ
      rw [List.getElem?_map] at ed
      obtain ⟨p, ep, rfl⟩ := Option.map_eq_some_iff.mp ed
      have hm := List.mem_of_getElem? ep
      have hpp := hp p hm
      have exG : G[i]? = some x := by
        obtain ⟨r, er⟩ := s.pre
        rw [← er, List.getElem?_append_left (List.getElem?_eq_some_iff.mp ex).1]; exact ex
      obtain ⟨q5, q6, μ2, q, e2, k2⟩ := jnP_spec (v0 := v0) (v1 := v1) (o5 := o5) (o6 := o6) hR eG exG s.ok hpp
      refine .mk (a := rhoJ v0 v1 n i (some p.d) o5 o6) (μ := μ') rfl (.mk q ⟨_, .inl rfl, ⟨_, _, _, rfl⟩, _, e2, ?_, kk.trans k2, visit_rch hm hG hx⟩)
      rw [List.take_add_one, ep]
      exact s.more hpp)
  rw [List.length_map, Nat.zero_add] at loop
  obtain ⟨f', μ', w, ρ', rfl, ⟨q4, q5, q6, rfl⟩, G, eG, s, kk, hG⟩ := loop
  rw [List.take_length] at s
  refine ⟨q4, q5, q6, G, μ', ?_, eG, s, kk, hG⟩
  refine (seq_run (for_run (seq_tup (a := mVar 1) (l := ps.map Pipe.d) (μ1 := μ) (by rw [hv]; rfl)) w)).trans ?_
  rfl
theorem is_joined_any (hR1 : 1 ≤ R) (hR : R ≤ 16) (hp : ∀ p ∈ ps, 0 ≤ p.a ∧ p.a < p.b ∧ p.b < R) : ∃ b μ', m_is_joined [.int R, .tup (ps.map Pipe.d)] μ = .ok (.bl b) μ' ∧ Keep [] μ μ' ∧ (b = true ↔ Joined R ps) := by
  let n : Nat := μ.length
  let v0 : Option D := some (.int R)
  let v1 : Option D := some (.tup (ps.map Pipe.d))
  let μ1 : Mem := μ ++ [.lst [.int 0]]
  have loop := whileL_ok (c := mTest (mBin (cmpI fun i j => decide (i < j)) (mVar 3) (mB lenX (mCons (mVar 2) (mNil))))) (body := jnB)
    (fun m ρ μ' => ∃ (i : Nat) (o4 o5 o6 : Option D) (F : List Int), ρ = rhoJ v0 v1 n i o4 o5 o6 ∧ m + i = R ∧ i ≤ F.length ∧ μ'[n]? = some (.lst (F.map D.int)) ∧ FoundJ R F ∧ 0 ∈ F ∧ (∀ j y, F[j]? = some y → j < i → ∀ p ∈ ps, (p.a = y → p.b ∈ F) ∧ (p.b = y → p.a ∈ F)) ∧ Keep [n] μ1 μ' ∧ ∀ y ∈ F, Rch ps y) R (n := 1000) (ρ := rhoJ v0 v1 n 0 none none none) (μ := μ1) (by omega)
    ⟨0, none, none, none, [0], rfl, by omega, by omega, app_new, ⟨by simp, fun y hy => by rw [List.mem_singleton.mp hy]; omega⟩, by simp, fun j y _ h => by omega, .refl, fun y hy => by rw [List.mem_singleton.mp hy]; exact .zero⟩
    (fun ρ μ' => ∃ (i : Nat) (o4 o5 o6 : Option D) (F : List Int), ρ = rhoJ v0 v1 n i o4 o5 o6 ∧ μ'[n]? = some (.lst (F.map D.int)) ∧ FoundJ R F ∧ 0 ∈ F ∧ (∀ y ∈ F, ∀ p ∈ ps, (p.a = y → p.b ∈ F) ∧ (p.b = y → p.a ∈ F)) ∧ Keep [n] μ1 μ' ∧ ∀ y ∈ F, Rch ps y)
    (fun m ρ μ' ⟨i, o4, o5, o6, F, eρ, hm, hi, eF, f, h0, hc, kk, hF⟩ => by
      subst eρ
      have fl := f.len
      have c1 : mTest (mBin (cmpI fun i j => decide (i < j)) (mVar 3) (mB lenX (mCons (mVar 2) (mNil)))) (rhoJ v0 v1 n i o4 o5 o6) μ' = .ok (decide ((i : Int) < (F.length : Int))) μ' := by
        refine test_k (bin_k (p := .int (i : Int)) (q := .int (F.length : Int)) (μ1 := μ') (μ2 := μ') rfl (call1k (p := .ref n) (μ1 := μ') rfl ?_) rfl)
        simp only [lenX, eF, lenL, List.length_map]
      refine .mk c1 ?_
      by_cases h : i < F.length
      · rw [if_pos (by simp; omega)]
        obtain ⟨x, ex⟩ : ∃ x, F[i]? = some x := ⟨_, List.getElem?_eq_getElem h⟩
        obtain ⟨q4, q5, q6, G, μ2, q, eG, s, k2, hG⟩ := jnL_any (v0 := v0) (o4 := o4) (o5 := o5) (o6 := o6) hR (v1 := v1) rfl eF ex f hp hF
        have hGl : F.length ≤ G.length := s.pre.length_le
        refine .mk q ⟨_, m - 1, .inl rfl, by omega, i + 1, q4, q5, q6, G, rfl, by omega, by omega, eG, s.ok, s.pre.subset h0, fun j y ej hj p hp => ?_, kk.trans k2, hG⟩
        by_cases hji : j = i
        · subst hji
          obtain ⟨r, er⟩ := s.pre
          have : y = x := by
            rw [← er, List.getElem?_append_left h] at ej
            rw [ex] at ej
            cases ej; rfl
          subst this
          exact s.has p hp
        · obtain ⟨r, er⟩ := s.pre
          have ej' : F[j]? = some y := by
            rw [← er, List.getElem?_append_left (by omega)] at ej; exact ej
          have := hc j y ej' (by omega) p hp
          exact ⟨fun z => s.pre.subset (this.1 z), fun z => s.pre.subset (this.2 z)⟩
      · rw [if_neg (by simp; omega)]
        refine ⟨i, o4, o5, o6, F, rfl, eF, f, h0, fun y hy p hp => ?_, kk, hF⟩
        obtain ⟨j, ej⟩ := List.mem_iff_getElem?.mp hy
        exact hc j y ej (by have := (List.getElem?_eq_some_iff.mp ej).1; omega) p hp)
  obtain ⟨fl, μ2, w, ρ', rfl, i, o4, o5, o6, F, rfl, eF, f, h0, hc, kk, hF⟩ := loop
  have reach : ∀ y, Rch ps y → y ∈ F := fun y hy => by
    induction hy with
    | zero => exact h0
    | fwd hp _ ih => exact (hc _ ih _ hp).1 rfl
    | bwd hp _ ih => exact (hc _ ih _ hp).2 rfl
  refine ⟨decide ((F.length : Int) = R), μ2, run_is ?_, (Keep.trans (ex := [n]) (μ' := μ1) Keep.app kk).mono fun i hi => .inr (by rw [List.mem_singleton.mp hi]; exact Nat.le_refl _), ?_⟩
  · rw [joined_eq]
    refine (seq_set (d := .ref n) (μ1 := μ1) rfl).trans ((seq_set (d := .int 0) (μ1 := μ1) rfl).trans ?_)
    show sSeq _ _ (rhoJ v0 v1 n 0 none none none) μ1 = _
    refine (seq_run w).trans (ret_is (bin_k (p := .int (F.length : Int)) (q := .int R) (μ1 := μ2) (μ2 := μ2) (call1k (p := .ref n) (μ1 := μ2) rfl (by simp only [lenX, eF, lenL, List.length_map])) rfl eqI))
  · rw [decide_eq_true_eq]
    constructor
    · intro h y y0 y1
      have len : F.length = R := by omega
      have sub : upTo R ⊆ F := by
        intro z hz
        refine Classical.byContradiction fun hn => ?_
        have := List.Nodup.length_le_of_subset (List.nodup_cons.mpr ⟨hn, f.nd⟩) (fun y hy => by
          rcases List.mem_cons.mp hy with rfl | hy
          · exact hz
          · exact mem_upTo.mpr (f.rng y hy) : z :: F ⊆ upTo R)
        rw [upTo_len, List.length_cons] at this
        omega
      exact hF y (sub (mem_upTo.mpr ⟨y0, y1⟩))
    · intro h
      have l1 := f.len
      have l2 := List.Nodup.length_le_of_subset (upTo_nodup R) (fun y hy => reach y (h y (mem_upTo.mp hy).1 (mem_upTo.mp hy).2) : upTo R ⊆ F)
      rw [upTo_len] at l2
      omega
end
end K01

/-! S125: whether all rooms are joined, by the law's labels. -/
namespace K01
open PySem L2 RW
/-! ### in so many steps -/
def Rn (ps : List Pipe) : Nat → Int → Prop
  | 0, v => v = 0
  | t + 1, v => Rn ps t v ∨ ∃ p ∈ ps, (p.b = v ∧ Rn ps t p.a) ∨ (p.a = v ∧ Rn ps t p.b)
theorem cntJ_lt {p q : Int → Bool} {u : Int} : ∀ {l : List Int}, (∀ x ∈ l, p x = true → q x = true) → u ∈ l → q u = true → p u = false → l.countP p < l.countP q
  | [], _, h, _, _ => (List.not_mem_nil h).elim
  | a :: l, hm, hu, hq, hp => by
    have mono : l.countP p ≤ l.countP q := List.countP_mono_left fun x hx h => hm x (List.mem_cons_of_mem _ hx) h
    rcases List.mem_cons.mp hu with rfl | hu
    · rw [List.countP_cons_of_neg (by rw [hp]; simp), List.countP_cons_of_pos hq]; omega
    · have ih := cntJ_lt (fun x hx h => hm x (List.mem_cons_of_mem _ hx) h) hu hq hp
      rw [List.countP_cons, List.countP_cons]
      have := hm a (List.mem_cons_self ..)
      cases ha : p a with
      | true => rw [this ha]; omega
      | false => cases q a <;> simp <;> omega
open Classical in
theorem rn_all {ps : List Pipe} {R : Nat} (hR : 1 ≤ R) (hp : ∀ p ∈ ps, 0 ≤ p.a ∧ p.a < p.b ∧ p.b < R) : ∀ t : Nat, (∀ y : Int, Rch ps y → Rn ps t y) ∨ t + 1 ≤ (upTo R).countP fun v => decide (Rn ps t v) := by
  intro t
  induction t with
  | zero =>
    refine .inr ?_
    have : 0 < (upTo R).countP fun v => decide (Rn ps 0 v) := List.countP_pos_iff.mpr ⟨0, mem_upTo.mpr ⟨by omega, by omega⟩, decide_eq_true rfl⟩
    omega
  | succ t ih =>
    rcases ih with ih | ih
    · exact .inl fun y hy => .inl (ih y hy)
    · by_cases hc : ∀ p ∈ ps, Rn ps t p.a ↔ Rn ps t p.b
      · refine .inl fun y hy => .inl ?_
        induction hy with
        | zero =>
          clear ih hc
          induction t with
          | zero => rfl
          | succ t ih => exact .inl ih
        | fwd hp _ ih => exact (hc _ hp).mp ih
        | bwd hp _ ih => exact (hc _ hp).mpr ih
      · refine .inr ?_
        obtain ⟨p, hm, hn⟩ : ∃ p, p ∈ ps ∧ ¬ (Rn ps t p.a ↔ Rn ps t p.b) := by
          refine Classical.byContradiction fun z => hc fun p hm => Classical.byContradiction fun h => z ⟨p, hm, h⟩
        have r := hp p hm
        obtain ⟨u, hu, h1, h2⟩ : ∃ u : Int, (0 ≤ u ∧ u < R) ∧ ¬ Rn ps t u ∧ Rn ps (t + 1) u := by
          by_cases ha : Rn ps t p.a
          · have hb : ¬ Rn ps t p.b := fun h => hn ⟨fun _ => h, fun _ => ha⟩
            exact ⟨p.b, ⟨by omega, by omega⟩, hb, .inr ⟨p, hm, .inl ⟨rfl, ha⟩⟩⟩
          · have hb : Rn ps t p.b := Classical.byContradiction fun h => hn ⟨fun z => absurd z ha, fun z => absurd z h⟩
            exact ⟨p.a, ⟨by omega, by omega⟩, ha, .inr ⟨p, hm, .inr ⟨rfl, hb⟩⟩⟩
        have := cntJ_lt (p := fun v => decide (Rn ps t v)) (q := fun v => decide (Rn ps (t + 1) v)) (l := upTo R) (u := u) (fun x _ h => decide_eq_true (.inl (of_decide_eq_true h))) (mem_upTo.mpr hu) (decide_eq_true h2) (decide_eq_false h1)
        omega
theorem rn_R {ps : List Pipe} {R : Nat} (hR : 1 ≤ R) (hp : ∀ p ∈ ps, 0 ≤ p.a ∧ p.a < p.b ∧ p.b < R) : ∀ y : Int, Rch ps y → Rn ps R y := by
  rcases rn_all hR hp R with h | h
  · exact h
  · have := List.countP_le_length (p := fun v => @decide (Rn ps R v) (Classical.propDecidable _)) (l := upTo R)
    rw [upTo_len] at this
    omega
/-! ### labels -/
def lowJ (x y : Int) : Int := if y < x then y else x
theorem low_zero {x y : Int} (hx : 0 ≤ x) (hy : 0 ≤ y) : 0 ≤ lowJ x y ∧ (lowJ x y = 0 ↔ x = 0 ∨ y = 0) := by
  unfold lowJ
  split <;> omega
structure LabJ (R : Nat) (ps : List Pipe) (t : Nat) (L : List Int) : Prop where
  len : L.length = R
  nn : ∀ x ∈ L, 0 ≤ x
  rch : ∀ v : Nat, L[v]? = some 0 → Rch ps v
  got : ∀ v : Nat, v < R → Rn ps t v → L[v]? = some 0
def updJ (L : List Int) (a b : Nat) (w : Int) : List Int := (L.set a w).set b w
theorem upd_at {L : List Int} {a b v : Nat} {w : Int} (ha : a < L.length) (hb : b < L.length) : (updJ L a b w)[v]? = if v = a ∨ v = b then some w else L[v]? := by
  unfold updJ
  by_cases h1 : v = b
  · subst h1
    rw [if_pos (.inr rfl), List.getElem?_set_self (by simpa using hb)]
  · rw [List.getElem?_set_ne (Ne.symm h1)]
    by_cases h2 : v = a
    · subst h2
      rw [if_pos (.inl rfl), List.getElem?_set_self ha]
    · rw [List.getElem?_set_ne (Ne.symm h2), if_neg (by simp [h1, h2])]
theorem LabJ.upd {R t : Nat} {ps : List Pipe} {L : List Int} {p : Pipe} (l : LabJ R ps t L) (hm : p ∈ ps) (hp : 0 ≤ p.a ∧ p.a < p.b ∧ p.b < R) {x y : Int} (ex : L[p.a.toNat]? = some x) (ey : L[p.b.toNat]? = some y) :
    LabJ R ps t (updJ L p.a.toNat p.b.toNat (lowJ x y)) ∧ (∀ v : Nat, L[v]? = some 0 → (updJ L p.a.toNat p.b.toNat (lowJ x y))[v]? = some 0) ∧
    (Rn ps t p.a → (updJ L p.a.toNat p.b.toNat (lowJ x y))[p.b.toNat]? = some 0) ∧ (Rn ps t p.b → (updJ L p.a.toNat p.b.toNat (lowJ x y))[p.a.toNat]? = some 0) := by
  have la : p.a.toNat < L.length := by rw [l.len]; omega
  have lb : p.b.toNat < L.length := by rw [l.len]; omega
  have nx := l.nn x (List.mem_of_getElem? ex)
  have ny := l.nn y (List.mem_of_getElem? ey)
  obtain ⟨w0, wz⟩ := low_zero nx ny
  have at_ := fun v => upd_at (v := v) (w := lowJ x y) la lb
  have keep : ∀ v : Nat, L[v]? = some 0 → (updJ L p.a.toNat p.b.toNat (lowJ x y))[v]? = some 0 := fun v hv => by
    rw [at_]
    split
    · rename_i h
      rcases h with rfl | rfl
      · rw [ex] at hv; cases hv; rw [wz.mpr (.inl rfl)]
      · rw [ey] at hv; cases hv; rw [wz.mpr (.inr rfl)]
    · exact hv
  have za : Rn ps t p.a → x = 0 := fun h => by
    have := l.got p.a.toNat (by omega) (by rw [show ((p.a.toNat : Nat) : Int) = p.a by omega]; exact h)
    rw [ex] at this; exact Option.some.inj this
  have zb : Rn ps t p.b → y = 0 := fun h => by
    have := l.got p.b.toNat (by omega) (by rw [show ((p.b.toNat : Nat) : Int) = p.b by omega]; exact h)
    rw [ey] at this; exact Option.some.inj this
  refine ⟨⟨by simp [updJ, l.len], fun z hz => ?_, fun v hv => ?_, fun v hv h => keep v (l.got v hv h)⟩, keep, fun h => ?_, fun h => ?_⟩
  · obtain ⟨v, ev⟩ := List.mem_iff_getElem?.mp hz
    rw [at_] at ev
    split at ev
    · cases ev; exact w0
    · exact l.nn z (List.mem_of_getElem? ev)
  · rw [at_] at hv
    split at hv
    · rename_i h
      have hw : lowJ x y = 0 := Option.some.inj hv
      have both : Rch ps p.a ∧ Rch ps p.b := by
        rcases wz.mp hw with rfl | rfl
        · have := l.rch _ ex
          rw [show ((p.a.toNat : Nat) : Int) = p.a by omega] at this
          exact ⟨this, .fwd hm this⟩
        · have := l.rch _ ey
          rw [show ((p.b.toNat : Nat) : Int) = p.b by omega] at this
          exact ⟨.bwd hm this, this⟩
      rcases h with rfl | rfl
      · rw [show ((p.a.toNat : Nat) : Int) = p.a by omega]; exact both.1
      · rw [show ((p.b.toNat : Nat) : Int) = p.b by omega]; exact both.2
    · exact l.rch v hv
  · rw [at_, if_pos (.inr rfl), wz.mpr (.inl (za h))]
  · rw [at_, if_pos (.inl rfl), wz.mpr (.inr (zb h))]
section
variable {μ : Mem} {R : Nat} {ps : List Pipe} {n : Nat} {L : List Int} {v0 v1 o3 o4 o5 o6 : Option D}
noncomputable def ajB : MS := sSeq (sSet 5 (mB min2L (mCons (mBin idxA (mVar 2) (mBin idxA (mVar 4) (mC (.int 0)))) (mCons (mBin idxA (mVar 2) (mBin idxA (mVar 4) (mC (.int 1)))) (mNil)))))
    (sSeq (sAsg (mVar 5) (gSubM setDD (mVar 2) (mBin idxA (mVar 4) (mC (.int 0)))))
    (sAsg (mVar 5) (gSubM setDD (mVar 2) (mBin idxA (mVar 4) (mC (.int 1))))))
noncomputable def ajP : MS := sFor (iSeq (mVar 1)) (gN 4) ajB
theorem alljoined_eq : b_law_all_joined = sSeq (sSet 2 (mListRg (mVar 0)))
    (sSeq (sFor (iRange1 (mCons (mVar 0) (mNil))) (gN 3) ajP)
    (sRet (mBin eqE (mComp (iRange1 (mCons (mVar 0) (mNil))) (gN 6) (mTest (mBin neD (mBin idxA (mVar 2) (mVar 6)) (mC (.int 0)))) (mVar 6) [6]) (mLst (mNil))))) := rfl
abbrev rhoG (v0 v1 : Option D) (n : Nat) (o3 o4 o5 o6 : Option D) : Rho := [v0, v1, some (.ref n), o3, o4, o5, o6]
theorem asg_sub {e : MD} {i : Int} {l : List D} {w : D} {ρ : Rho} (hw : ρ[5]? = some (some w)) (h2 : ρ[2]? = some (some (.ref n))) (he : e ρ μ = .ok (.int i) μ) (el : μ[n]? = some (.lst l)) (h0 : 0 ≤ i) (h1 : i < l.length) : sAsg (mVar 5) (gSubM setDD (mVar 2) e) ρ μ = .ok (.nx ρ) (μ.set n (.lst (l.set i.toNat w))) := by
  have s := set_lst' (d := w) el h0 h1
  have m5 : mVar 5 ρ μ = .ok w μ := by simp only [mVar, hw]
  have m2 : mVar 2 ρ μ = .ok (.ref n) μ := by simp only [mVar, h2]
  simp only [sAsg, m5, onE, gSubM, m2, he, pureE, Res.bind, s]
theorem ajB_spec {p : Pipe} (el : μ[n]? = some (.lst (L.map D.int))) (hl : L.length = R) (hp : 0 ≤ p.a ∧ p.a < p.b ∧ p.b < R) : ∃ (x y : Int) (q5 : Option D) (μ' : Mem), L[p.a.toNat]? = some x ∧ L[p.b.toNat]? = some y ∧ ajB (rhoG v0 v1 n o3 (some p.d) o5 o6) μ = .ok (.nx (rhoG v0 v1 n o3 (some p.d) q5 o6)) μ' ∧ μ'[n]? = some (.lst ((updJ L p.a.toNat p.b.toNat (lowJ x y)).map D.int)) ∧ Keep [n] μ μ' := by
  obtain ⟨x, ex⟩ : ∃ x, L[p.a.toNat]? = some x := ⟨_, List.getElem?_eq_getElem (by omega)⟩
  obtain ⟨y, ey⟩ : ∃ y, L[p.b.toNat]? = some y := ⟨_, List.getElem?_eq_getElem (by omega)⟩
  have ia : ∀ (o5 : Option D) (μ : Mem), mBin idxA (mVar 4) (mC (.int 0)) (rhoG v0 v1 n o3 (some p.d) o5 o6) μ = .ok (.int p.a) μ := fun o5 μ => bin_k (p := p.d) (q := .int 0) (μ1 := μ) (μ2 := μ) rfl rfl (ix_tup (by decide) rfl)
  have ib : ∀ (o5 : Option D) (μ : Mem), mBin idxA (mVar 4) (mC (.int 1)) (rhoG v0 v1 n o3 (some p.d) o5 o6) μ = .ok (.int p.b) μ := fun o5 μ => bin_k (p := p.d) (q := .int 1) (μ1 := μ) (μ2 := μ) rfl rfl (ix_tup (by decide) rfl)
  have xa : mBin idxA (mVar 2) (mBin idxA (mVar 4) (mC (.int 0))) (rhoG v0 v1 n o3 (some p.d) o5 o6) μ = .ok (.int x) μ := bin_k (p := .ref n) (μ1 := μ) rfl (ia o5 μ) (ix_lst el hp.1 (by rw [List.getElem?_map, ex]; rfl))
  have yb : mBin idxA (mVar 2) (mBin idxA (mVar 4) (mC (.int 1))) (rhoG v0 v1 n o3 (some p.d) o5 o6) μ = .ok (.int y) μ := bin_k (p := .ref n) (μ1 := μ) rfl (ib o5 μ) (ix_lst el (by omega) (by rw [List.getElem?_map, ey]; rfl))
  have c1 : mB min2L (mCons (mBin idxA (mVar 2) (mBin idxA (mVar 4) (mC (.int 0)))) (mCons (mBin idxA (mVar 2) (mBin idxA (mVar 4) (mC (.int 1)))) (mNil))) (rhoG v0 v1 n o3 (some p.d) o5 o6) μ = .ok (.int (lowJ x y)) μ := call2k xa yb rfl
  let ρ1 : Rho := rhoG v0 v1 n o3 (some p.d) (some (.int (lowJ x y))) o6
  let μ1 : Mem := μ.set n (.lst ((L.map D.int).set p.a.toNat (.int (lowJ x y))))
  have c2 : sAsg (mVar 5) (gSubM setDD (mVar 2) (mBin idxA (mVar 4) (mC (.int 0)))) ρ1 μ = .ok (.nx ρ1) μ1 := asg_sub rfl rfl (ia _ μ) el hp.1 (by rw [List.length_map]; omega)
  have el1 : μ1[n]? = some (.lst ((L.map D.int).set p.a.toNat (.int (lowJ x y)))) := set_at (at_lt el)
  let μ2 : Mem := μ1.set n (.lst (((L.map D.int).set p.a.toNat (.int (lowJ x y))).set p.b.toNat (.int (lowJ x y))))
  have c3 : sAsg (mVar 5) (gSubM setDD (mVar 2) (mBin idxA (mVar 4) (mC (.int 1)))) ρ1 μ1 = .ok (.nx ρ1) μ2 := asg_sub rfl rfl (ib _ μ1) el1 (by omega) (by rw [List.length_set, List.length_map]; omega)
  refine ⟨x, y, some (.int (lowJ x y)), μ2, ex, ey, (seq_set c1).trans ((seq_run c2).trans c3), ?_, (Keep.set (by simp)).trans (Keep.set (by simp))⟩
  have : (updJ L p.a.toNat p.b.toNat (lowJ x y)).map D.int = ((L.map D.int).set p.a.toNat (.int (lowJ x y))).set p.b.toNat (.int (lowJ x y)) := by
    unfold updJ
    rw [List.map_set, List.map_set]
  rw [this]
  exact set_at (at_lt el1)
theorem ajP_spec {t : Nat} (hv : v1 = some (.tup (ps.map Pipe.d))) (el : μ[n]? = some (.lst (L.map D.int))) (l : LabJ R ps t L) (hp : ∀ p ∈ ps, 0 ≤ p.a ∧ p.a < p.b ∧ p.b < R) :
    ∃ (q4 q5 : Option D) (G : List Int) (μ' : Mem), ajP (rhoG v0 v1 n o3 o4 o5 o6) μ = .ok (.nx (rhoG v0 v1 n o3 q4 q5 o6)) μ' ∧ μ'[n]? = some (.lst (G.map D.int)) ∧ LabJ R ps (t + 1) G ∧ Keep [n] μ μ' := by
  have loop := forL_ok (chk := fun _ => True) (g := gN 4) (body := ajB) (ps.map Pipe.d)
    (fun j ρ μ' => (∃ o4 o5, ρ = rhoG v0 v1 n o3 o4 o5 o6) ∧ ∃ G, μ'[n]? = some (.lst (G.map D.int)) ∧ LabJ R ps t G ∧ (∀ p ∈ ps.take j, (Rn ps t p.a → G[p.b.toNat]? = some 0) ∧ (Rn ps t p.b → G[p.a.toNat]? = some 0)) ∧ Keep [n] μ μ') 0
    (ρ := rhoG v0 v1 n o3 o4 o5 o6) (μ := μ) ⟨⟨_, _, rfl⟩, L, el, l, fun p h => by rw [List.take_zero] at h; exact (List.not_mem_nil h).elim, .refl⟩ (fun _ _ _ _ => trivial)
    (fun j d ρ μ' ed ⟨⟨o4, o5, eρ⟩, G, eG, lG, hG, kk⟩ => by
      simp only [Nat.zero_add] at hG ⊢
      subst eρ
      rw [List.getElem?_map] at ed
      obtain ⟨p, ep, rfl⟩ := Option.map_eq_some_iff.mp ed
      have hm := List.mem_of_getElem? ep
      obtain ⟨x, y, q5, μ2, ex, ey, q, e2, k2⟩ := ajB_spec (v0 := v0) (v1 := v1) (o3 := o3) (o5 := o5) (o6 := o6) eG lG.len (hp p hm)
      obtain ⟨u1, u2, u3, u4⟩ := lG.upd hm (hp p hm) ex ey
      refine .mk (a := rhoG v0 v1 n o3 (some p.d) o5 o6) (μ := μ') rfl (.mk q ⟨_, .inl rfl, ⟨_, _, rfl⟩, _, e2, u1, fun z hz => ?_, kk.trans k2⟩)
      rw [List.take_add_one, ep] at hz
      rcases List.mem_append.mp hz with hz | hz
      · exact ⟨fun h => u2 _ ((hG z hz).1 h), fun h => u2 _ ((hG z hz).2 h)⟩
      · rw [show z = p by simpa using hz]
        exact ⟨u3, u4⟩)
  rw [List.length_map, Nat.zero_add] at loop
  obtain ⟨f', μ', w, ρ', rfl, ⟨q4, q5, rfl⟩, G, eG, lG, hG, kk⟩ := loop
  rw [show ps.take ps.length = ps from List.take_length] at hG
  refine ⟨q4, q5, G, μ', for_run (seq_tup (a := mVar 1) (l := ps.map Pipe.d) (μ1 := μ) (by rw [hv]; rfl)) w, eG, ⟨lG.len, lG.nn, lG.rch, fun v hv h => ?_⟩, kk⟩
  rcases h with h | ⟨p, hm, ⟨e, h⟩ | ⟨e, h⟩⟩
  · exact lG.got v hv h
  · have := (hG p hm).1 h
    rwa [e, Int.toNat_natCast] at this
  · have := (hG p hm).2 h
    rwa [e, Int.toNat_natCast] at this
theorem all_joined_any (hR1 : 1 ≤ R) (hR : R ≤ 16) (hp : ∀ p ∈ ps, 0 ≤ p.a ∧ p.a < p.b ∧ p.b < R) : ∃ b μ', m_law_all_joined [.int R, .tup (ps.map Pipe.d)] μ = .ok (.bl b) μ' ∧ Keep [] μ μ' ∧ (b = true ↔ Joined R ps) := by
  let n : Nat := μ.length
  let v0 : Option D := some (.int R)
  let v1 : Option D := some (.tup (ps.map Pipe.d))
  have er : rangeItems 0 R = (upTo R).map D.int := by
    unfold rangeItems upTo
    rw [List.map_map]
    exact List.map_congr_left fun i _ => by show D.int (0 + (i : Int)) = D.int (i : Int); rw [Int.zero_add]
  let μ1 : Mem := μ ++ [.lst ((upTo R).map D.int)]
  have c1 : mListRg (mVar 0) (startR 7 [.int R, .tup (ps.map Pipe.d)]) μ = .ok (.ref n) μ1 := by
    have m0 : mVar 0 (startR 7 [.int R, .tup (ps.map Pipe.d)]) μ = .ok (.int R) μ := rfl
    simp only [mListRg, m0, Res.bind]
    rw [if_pos ⟨by omega, by omega⟩, Int.toNat_natCast, er]
  have lab0 : LabJ R ps 0 (upTo R) := ⟨upTo_len R, fun x hx => (mem_upTo.mp hx).1, fun v hv => by
      have hv' : (upTo R)[v]? = some 0 := hv
      unfold upTo at hv'
      rw [List.getElem?_map] at hv'
      obtain ⟨w, ew, e0⟩ := Option.map_eq_some_iff.mp hv'
      rw [List.getElem?_range (by have := (List.getElem?_eq_some_iff.mp ew).1; simpa using this)] at ew
      cases ew
      rw [e0]; exact .zero, fun v hv h => by
      have hv0 : (v : Int) = 0 := h
      have hv1 : v = 0 := by omega
      subst hv1
      unfold upTo
      rw [List.getElem?_map, List.getElem?_range hv]; rfl⟩
  have loop := forL_ok (chk := fun _ => True) (g := gN 3) (body := ajP) (rangeItems 0 R)
    (fun t ρ μ' => (∃ o3 o4 o5 o6, ρ = rhoG v0 v1 n o3 o4 o5 o6) ∧ ∃ G, μ'[n]? = some (.lst (G.map D.int)) ∧ LabJ R ps t G ∧ Keep [n] μ1 μ') 0
    (ρ := rhoG v0 v1 n none none none none) (μ := μ1) ⟨⟨_, _, _, _, rfl⟩, upTo R, app_new, lab0, .refl⟩ (fun _ _ _ _ => trivial)
    (fun t d ρ μ' ed ⟨⟨o3, o4, o5, o6, eρ⟩, G, eG, lG, kk⟩ => by
      simp only [Nat.zero_add] at lG ⊢
      subst eρ
      obtain ⟨q4, q5, G2, μ2, q, e2, l2, k2⟩ := ajP_spec (v0 := v0) (v1 := v1) (o3 := some d) (o4 := o4) (o5 := o5) (o6 := o6) rfl eG lG hp
      exact .mk (a := rhoG v0 v1 n (some d) o4 o5 o6) (μ := μ') rfl (.mk q ⟨_, .inl rfl, ⟨_, _, _, _, rfl⟩, G2, e2, l2, kk.trans k2⟩))
  rw [show (rangeItems 0 R).length = R by simp [rangeItems], Nat.zero_add] at loop
  obtain ⟨f', μ2, w, ρ', rfl, ⟨o3, o4, o5, o6, rfl⟩, G, eG, lG, kk⟩ := loop
  let f : D → Bool := fun d => match d with
    | .int v => !decide (G.getD v.toNat 0 = 0)
    | _ => false
  have hn1 : n < μ1.length := by simp [n, μ1]
  obtain ⟨μ3, q3, k3⟩ := comp_none (ex := []) (own := [6]) (ρ := rhoG v0 v1 n o3 o4 o5 o6) (te := mVar 6) (tt := mTest (mBin neD (mBin idxA (mVar 2) (mVar 6)) (mC (.int 0)))) (g := gN 6) f (rangeItems 0 R) (ir1 (n := R) (e := mVar 0) (μ := μ2) rfl (by omega)) (fun _ _ => trivial) (by rw [show (rangeItems 0 R).length = R by simp [rangeItems]]; omega) (fun x hx μ' k => by
    simp only [rangeItems, List.mem_map, List.mem_range] at hx
    obtain ⟨i, hi', rfl⟩ := hx
    rw [Int.zero_add]
    have eG' := k.get eG (by simp)
    obtain ⟨z, ez⟩ : ∃ z, G[i]? = some z := ⟨_, List.getElem?_eq_getElem (by rw [lG.len]; exact hi')⟩
    let ρ1 : Rho := [v0, v1, some (.ref n), o3, o4, o5, some (.int (i : Int))]
    refine ⟨ρ1, μ', rfl, test_k (bin_k (p := .int z) (q := .int 0) (μ1 := μ') (μ2 := μ') (bin_k (p := .ref n) (q := .int (i : Int)) (μ1 := μ') (μ2 := μ') rfl rfl (ix_lst eG' (by omega) (by rw [Int.toNat_natCast, List.getElem?_map, ez]; rfl))) rfl ?_), .refl, fun μ3 => rfl⟩
    rw [neI]
    simp only [f, Int.toNat_natCast, List.getD, ez, Option.getD_some])
  refine ⟨!(rangeItems 0 R).any f, μ3, run_is ?_, (Keep.trans (ex := [n]) (μ' := μ1) Keep.app (kk.trans (k3.mono fun i hi => (List.not_mem_nil hi).elim))).mono fun i hi => .inr (by rw [List.mem_singleton.mp hi]; exact Nat.le_refl _), ?_⟩
  · rw [alljoined_eq]
    refine (seq_set c1).trans ?_
    show sSeq _ _ (rhoG v0 v1 n none none none none) μ1 = _
    exact (seq_run (for_run (ir1 (n := R) (e := mVar 0) (μ := μ1) rfl (by omega)) w)).trans (ret_is q3)
  · have key : ((rangeItems 0 R).any f = false) ↔ ∀ v : Nat, v < R → G[v]? = some 0 := by
      constructor
      · intro h v hv
        have hf : f (.int (v : Int)) = false := by
          cases e : f (.int (v : Int)) with
          | false => rfl
          | true => rw [List.any_eq_true.mpr ⟨.int (v : Int), by simp only [rangeItems, List.mem_map, List.mem_range]; exact ⟨v, hv, by rw [Int.zero_add]⟩, e⟩] at h; cases h
        obtain ⟨z, ez⟩ : ∃ z, G[v]? = some z := ⟨_, List.getElem?_eq_getElem (by rw [lG.len]; exact hv)⟩
        simp only [f, Int.toNat_natCast, List.getD, ez, Option.getD_some] at hf
        have : z = 0 := by simpa using hf
        rw [ez, this]
      · intro h
        cases e : (rangeItems 0 R).any f with
        | false => rfl
        | true =>
          obtain ⟨x, hx, hf⟩ := List.any_eq_true.mp e
          simp only [rangeItems, List.mem_map, List.mem_range] at hx
          obtain ⟨i, hi', rfl⟩ := hx
          rw [Int.zero_add] at hf
          simp [f, List.getD, h i hi'] at hf
    have kb : (!(rangeItems 0 R).any f) = true ↔ (rangeItems 0 R).any f = false := by cases (rangeItems 0 R).any f <;> simp
    rw [kb, key]
    constructor
    · intro h y y0 y1
      have := lG.rch y.toNat (h y.toNat (by omega))
      rwa [show ((y.toNat : Nat) : Int) = y by omega] at this
    · intro h v hv
      exact lG.got v hv (rn_R hR1 hp _ (h v (by omega) (by omega)))
end
end K01

/-! S126: houses of any kind, as the program and the law judge them. -/
namespace K01
open PySem L2 RW
open Q
noncomputable def pipeB (R : Int) (d : D) : Bool := @decide (PipeIs R d) (Classical.propDecidable _)
theorem pipeB_iff {R : Int} {d : D} : pipeB R d = true ↔ PipeIs R d := by
  unfold pipeB
  exact @decide_eq_true_iff _ (Classical.propDecidable _)
theorem of_iff {P : Prop} {b c : Bool} (h : b = true ↔ P) (h2 : c = true ↔ P) : b = c := by
  cases b <;> cases c
  · rfl
  · exact (h.mpr (h2.mp rfl)).symm ▸ rfl
  · exact (h2.mpr (h.mp rfl)).symm ▸ rfl
  · rfl
structure PipesIs (R : Nat) (ps : List Pipe) : Prop where
  r1 : 1 ≤ R
  r2 : R ≤ 16
  len : ps.length + 1 = R
  ok : ∀ p ∈ ps, p.Ok ∧ 0 ≤ p.a ∧ p.a < p.b ∧ p.b < R
structure Whole (R : Nat) (ps : List Pipe) : Prop where
  b : PipesIs R ps
  nar : (ps.map fun p => (p.nar.length : Int)).sum ≤ 12
  fla : (ps.map fun p => (p.fl.length : Int)).sum ≤ 6
  jn : Joined R ps
def HouseIs (d : D) : Prop := ∃ R ps, d = houseD R ps ∧ Whole R ps
theorem houseD_inj {R R' : Nat} {ps ps' : List Pipe} (h : houseD R ps = houseD R' ps') : R = R' ∧ ps.map Pipe.d = ps'.map Pipe.d := by
  unfold houseD at h
  have h1 := D.tup.inj h
  have h2 := (List.cons.inj h1).1
  have h3 := (List.cons.inj (List.cons.inj h1).2).1
  have h4 := D.int.inj h2
  exact ⟨by omega, D.tup.inj h3⟩
theorem pair_inj' {l l' : List (Int × Int)} (h : l.map pairD = l'.map pairD) : l = l' := by
  induction l generalizing l' with
  | nil => cases l' <;> simp at h ⊢
  | cons x l ih =>
    cases l' with
    | nil => simp at h
    | cons y l' =>
      rw [List.map_cons, List.map_cons] at h
      have h1 := (List.cons.inj h).1
      have h2 := (List.cons.inj h).2
      obtain ⟨x1, x2⟩ := x
      obtain ⟨y1, y2⟩ := y
      have h3 := D.tup.inj h1
      have h4 : x1 = y1 := D.int.inj (List.cons.inj h3).1
      have h5 : x2 = y2 := D.int.inj (List.cons.inj (List.cons.inj h3).2).1
      rw [h4, h5, ih h2]
theorem pipe_inj {p q : Pipe} (h : p.d = q.d) : p = q := by
  obtain ⟨a, b, c, e, f⟩ := p
  obtain ⟨a', b', c', e', f'⟩ := q
  have h := D.tup.inj h
  have h1 : a = a' := D.int.inj (List.cons.inj h).1
  have h := (List.cons.inj h).2
  have h2 : b = b' := D.int.inj (List.cons.inj h).1
  have h := (List.cons.inj h).2
  have h3 : c = c' := D.int.inj (List.cons.inj h).1
  have h := (List.cons.inj h).2
  have h4 : e = e' := pair_inj' (D.tup.inj (List.cons.inj h).1)
  have h := (List.cons.inj h).2
  have h5 : f = f' := pair_inj' (D.tup.inj (List.cons.inj h).1)
  rw [h1, h2, h3, h4, h5]
theorem pipes_inj : ∀ {ps qs : List Pipe}, ps.map Pipe.d = qs.map Pipe.d → ps = qs
  | [], [], _ => rfl
  | [], _ :: _, h => by simp at h
  | _ :: _, [], h => by simp at h
  | p :: ps, q :: qs, h => by
    rw [List.map_cons, List.map_cons] at h
    rw [pipe_inj (List.cons.inj h).1, pipes_inj (List.cons.inj h).2]
theorem pipes_of {R : Int} : ∀ {l : List D}, (∀ x ∈ l, PipeIs R x) → ∃ ps : List Pipe, l = ps.map Pipe.d ∧ ∀ p ∈ ps, p.Ok ∧ 0 ≤ p.a ∧ p.a < p.b ∧ p.b < R
  | [], _ => ⟨[], rfl, by simp⟩
  | x :: l, h => by
    obtain ⟨p, rfl, ok⟩ := h x (List.mem_cons_self ..)
    obtain ⟨ps, rfl, hp⟩ := pipes_of (l := l) fun y hy => h y (List.mem_cons_of_mem _ hy)
    refine ⟨p :: ps, rfl, fun q hq => ?_⟩
    rcases List.mem_cons.mp hq with rfl | hq
    · exact ok
    · exact hp q hq
section
variable {μ : Mem} {n : Nat} {d : D} {R : Nat} {ps : List Pipe} {l : List D}
theorem toInts_ints : ∀ l : List Int, toInts (l.map D.int) = some l
  | [] => rfl
  | a :: l => by simp only [List.map_cons, toInts, toInts_ints l]; rfl
theorem sum_lst {m : Nat} {ns : List Int} (e : μ[m]? = some (.lst (ns.map D.int))) : sumL [.ref m] μ = .ok (.int ns.sum) μ := by
  have h : intsAt (.ref m) μ = some ns := by simp [intsAt, e, toInts_ints]
  simp only [sumL, h]
abbrev rhoI (h : D) (R : D) (l : D) : Rho := [some h, some R, some l, none]
theorem sum_of {h : D} {j : Int} {f : Pipe → Int} (hf : ∀ (p : Pipe) (μ : Mem), ∃ l : List D, idxA p.d (.int j) μ = .ok (.tup l) μ ∧ (l.length : Int) = f p) (hl : ps.length ≤ 100) :
    ∃ μ', mB sumL (mCons (mComp (iSeq (mVar 2)) (gN 3) (mYes) (mB lenL (mCons (mBin idxA (mVar 3) (mC (.int j))) (mNil))) [3]) (mNil)) (rhoI h (.int R) (.tup (ps.map Pipe.d))) μ = .ok (.int ((ps.map f).sum)) μ' ∧ Keep [] μ μ' := by
  obtain ⟨μ', q, k⟩ := comp_k (it := iSeq (mVar 2)) (g := gN 3) (te := mB lenL (mCons (mBin idxA (mVar 3) (mC (.int j))) (mNil))) (own := [3]) (ρ := rhoI h (.int R) (.tup (ps.map Pipe.d))) (ex := []) Pipe.d (fun p => .int (f p)) ps
    (seq_tup (l := ps.map Pipe.d) (μ1 := μ) rfl) (fun μ' k => trivial) (by omega)
    (fun p hp μ' k => by
      obtain ⟨l, e1, e2⟩ := hf p μ'
      refine ⟨[some h, some (.int R), some (.tup (ps.map Pipe.d)), some p.d], μ', rfl, call1k (p := .tup l) (bin_k (p := p.d) (q := .int j) (μ1 := μ') (μ2 := μ') rfl rfl e1) ?_, .refl⟩
      rw [← e2]; rfl)
  have e : (μ' ++ [Cell.lst (ps.map fun p => D.int (f p))])[μ'.length]? = some (.lst ((ps.map f).map D.int)) := by
    rw [List.map_map]; exact app_new
  exact ⟨_, call1k q (sum_lst e), k.trans Keep.app⟩
noncomputable def sums : MB := mOr (mTest (mBin (cmpI fun i j => decide (j < i)) (mB sumL (mCons (mComp (iSeq (mVar 2)) (gN 3) (mYes) (mB lenL (mCons (mBin idxA (mVar 3) (mC (.int 3))) (mNil))) [3]) (mNil))) (mC (.int 12)))) (mTest (mBin (cmpI fun i j => decide (j < i)) (mB sumL (mCons (mComp (iSeq (mVar 2)) (gN 3) (mYes) (mB lenL (mCons (mBin idxA (mVar 3) (mC (.int 4))) (mNil))) [3]) (mNil))) (mC (.int 6))))
theorem sums_any {h : D} (hl : ps.length ≤ 100) : ∃ b μ', sums (rhoI h (.int R) (.tup (ps.map Pipe.d))) μ = .ok b μ' ∧ Keep [] μ μ' ∧ (b = false ↔ (ps.map fun p => (p.nar.length : Int)).sum ≤ 12 ∧ (ps.map fun p => (p.fl.length : Int)).sum ≤ 6) := by
  obtain ⟨μ2, q2, k2⟩ := sum_of (μ := μ) (R := R) (ps := ps) (h := h) (j := 3) (f := fun p => (p.nar.length : Int)) (fun p μ => ⟨p.nar.map pairD, ix_tup (by decide) rfl, by rw [List.length_map]⟩) hl
  obtain ⟨μ3, q3, k3⟩ := sum_of (μ := μ2) (R := R) (ps := ps) (h := h) (j := 4) (f := fun p => (p.fl.length : Int)) (fun p μ => ⟨p.fl.map pairD, ix_tup (by decide) rfl, by rw [List.length_map]⟩) hl
  have t4 := test_k (bin_k q2 (y := mC (.int 12)) (q := .int 12) rfl (f := cmpI fun i j => decide (j < i)) (d := .bl (decide (12 < (ps.map fun p => (p.nar.length : Int)).sum))) rfl)
  have t5 := test_k (bin_k q3 (y := mC (.int 6)) (q := .int 6) rfl (f := cmpI fun i j => decide (j < i)) (d := .bl (decide (6 < (ps.map fun p => (p.fl.length : Int)).sum))) rfl)
  by_cases h1 : 12 < (ps.map fun p => (p.nar.length : Int)).sum
  · rw [decide_eq_true h1] at t4
    exact ⟨true, μ2, or_t t4, k2, (fun z => by cases z), fun z => by omega⟩
  · rw [decide_eq_false h1] at t4
    refine ⟨_, μ3, or_f t4 t5, k2.trans k3, ?_⟩
    rw [decide_eq_false_iff_not]
    omega
theorem all_pipes_any {h : D} (hs : ∀ x ∈ l, Sk μ n x) (hl : l.length ≤ 100) : ∃ μ', mB allL (mCons (mComp (iSeq (mVar 2)) (gN 3) (mYes) (mB m_is_pipe (mCons (mVar 1) (mCons (mVar 3) (mNil)))) [3]) (mNil)) (rhoI h (.int R) (.tup l)) μ = .ok (.bl (l.all (pipeB R))) μ' ∧ Keep [] μ μ' := by
  obtain ⟨μ', q, k⟩ := comp_k (it := iSeq (mVar 2)) (g := gN 3) (te := mB m_is_pipe (mCons (mVar 1) (mCons (mVar 3) (mNil)))) (own := [3]) (ρ := rhoI h (.int R) (.tup l)) (ex := []) (fun x => x) (fun x => .bl (pipeB R x)) l
    (seq_tup (μ1 := μ) (by show _ = Res.ok (D.tup (l.map fun x => x)) μ; rw [List.map_id']; rfl)) (fun μ' k => trivial) (by omega)
    (fun x hx μ' k => by
      obtain ⟨b, q, hb⟩ := is_pipe_any (R := (R : Int)) ((hs x hx).keep k)
      rw [of_iff hb pipeB_iff] at q
      exact ⟨_, μ', rfl, call2k (p := .int R) (q := x) (μ1 := μ') (μ2 := μ') rfl rfl q, .refl⟩)
  refine ⟨μ' ++ [Cell.lst (l.map fun x => D.bl (pipeB R x))], call1k q ?_, k.trans Keep.app⟩
  have e : (μ' ++ [Cell.lst (l.map fun x => D.bl (pipeB R x))])[μ'.length]? = some (.lst ((l.map (pipeB R)).map D.bl)) := by
    rw [List.map_map]; exact app_new
  have e2 : (l.map (pipeB R)).all id = l.all (pipeB R) := by rw [List.all_map]; rfl
  simp only [allL, lstAt, e, bsD_map, e2]
theorem lpipes_any {h : D} (hs : ∀ x ∈ l, Sk μ n x) (hn : ∀ x ∈ l, Ln 2 x) (hl : l.length ≤ 100) : ∃ μ', mBin neE (mComp (iSeq (mVar 2)) (gN 3) (mNot (mTest (mB m_law_is_pipe (mCons (mVar 1) (mCons (mVar 3) (mNil)))))) (mVar 3) [3]) (mLst (mNil)) (rhoI h (.int R) (.tup l)) μ = .ok (.bl (l.any fun x => !pipeB R x)) μ' ∧ Keep [] μ μ' :=
  comp_some (ex := []) (own := [3]) (fun x => !pipeB R x) l (seq_tup (l := l) (μ1 := μ) rfl) (fun _ _ => trivial) (by omega) (fun x hx μ' k => by
    obtain ⟨b, μ2, q, k2, hb⟩ := lpipe_any (R := (R : Int)) ((hs x hx).keep k) (hn x hx)
    rw [of_iff hb pipeB_iff] at q
    exact ⟨[some h, some (.int R), some (.tup l), some x], μ2, rfl, not_k (test_k (call2k (p := .int R) (q := x) (μ1 := μ') (μ2 := μ') rfl rfl q)), k2, fun μ3 => rfl⟩)
theorem all_any {f : D → Bool} : ∀ l : List D, l.all f = !l.any fun x => !f x
  | [] => rfl
  | a :: l => by rw [List.all_cons, List.any_cons, all_any l]; cases f a <;> simp
noncomputable def ih3 : MS := sSeq (sIf (mNot (mTest (mB allL (mCons (mComp (iSeq (mVar 2)) (gN 3) (mYes) (mB m_is_pipe (mCons (mVar 1) (mCons (mVar 3) (mNil)))) [3]) (mNil))))) (sRet (mC (.bl false))) (sNil))
    (sSeq (sIf sums (sRet (mC (.bl false))) (sNil))
    (sRet (mB m_is_joined (mCons (mVar 1) (mCons (mVar 2) (mNil))))))
noncomputable def ih2 : MS := sSeq (sIf (mOr (mNot (mTest (mB m_is_from (mCons (mVar 1) (mCons (mC (.int 1)) (mCons (mC (.int 16)) (mNil))))))) (mOr (mNot (mTest (mUn (isT1 "tuple") (mVar 2)))) (mTest (mBin neD (mB lenL (mCons (mVar 2) (mNil))) (mBin subD (mVar 1) (mC (.int 1))))))) (sRet (mC (.bl false))) (sNil)) ih3
theorem ihouse_eq : b_is_house = sSeq (sIf (mOr (mNot (mTest (mUn (isT1 "tuple") (mVar 0)))) (mTest (mBin neD (mB lenL (mCons (mVar 0) (mNil))) (mC (.int 2))))) (sRet (mC (.bl false))) (sNil))
    (sSeq (sAsg (mVar 0) (gTupM 2 (gConsM (gN 1) (gConsM (gN 2) (gNilM))))) ih2) := rfl
noncomputable def lh3 : MS := sSeq (sIf (mTest (mBin neE (mComp (iSeq (mVar 2)) (gN 3) (mNot (mTest (mB m_law_is_pipe (mCons (mVar 1) (mCons (mVar 3) (mNil)))))) (mVar 3) [3]) (mLst (mNil)))) (sRet (mC (.bl false))) (sNil))
    (sSeq (sIf sums (sRet (mC (.bl false))) (sNil))
    (sRet (mB m_law_all_joined (mCons (mVar 1) (mCons (mVar 2) (mNil))))))
noncomputable def lh2 : MS := sSeq (sIf (mOr (mNot (mTest (mUn (isT1 "tuple") (mVar 2)))) (mTest (mBin neD (mB lenL (mCons (mVar 2) (mNil))) (mBin subD (mVar 1) (mC (.int 1)))))) (sRet (mC (.bl false))) (sNil)) lh3
theorem lhouse_eq : b_law_is_one = sSeq (sIf (mOr (mNot (mTest (mUn (isT1 "tuple") (mVar 0)))) (mOr (mTest (mBin neD (mB lenL (mCons (mVar 0) (mNil))) (mC (.int 2)))) (mNot (mTest (mB m_law_is_from (mCons (mBin idxA (mVar 0) (mC (.int 0))) (mCons (mC (.int 1)) (mCons (mC (.int 16)) (mNil))))))))) (sRet (mC (.bl false))) (sNil))
    (sSeq (sAsg (mVar 0) (gTupM 2 (gConsM (gN 1) (gConsM (gN 2) (gNilM))))) lh2) := rfl
theorem of2 {l : List D} (h : l.length = 2) : ∃ a b, l = [a, b] := by
  match l, h with
  | [a, b], _ => exact ⟨a, b, rfl⟩
/-- what is asked of the pipes -/
def Rest (R : Nat) (l : List D) : Prop := ∃ ps : List Pipe, l = ps.map Pipe.d ∧ Whole R ps
theorem ih3_any {h : D} (hR1 : 1 ≤ R) (hR : R ≤ 16) (hl : l.length + 1 = R) (hs : ∀ x ∈ l, Sk μ n x) : ∃ b μ', ih3 (rhoI h (.int R) (.tup l)) μ = .ok (.ret (.bl b)) μ' ∧ Keep [] μ μ' ∧ (b = true ↔ Rest R l) := by
  obtain ⟨μ1, q1, k1⟩ := all_pipes_any (R := R) (h := h) hs (by omega)
  cases ha : l.all (pipeB R) with
  | false =>
    rw [ha] at q1
    refine ⟨false, μ1, seq_if_ret (not_k (test_k q1)) rfl, k1, (fun z => by cases z), ?_⟩
    rintro ⟨ps, rfl, w⟩
    have : (ps.map Pipe.d).all (pipeB R) = true := List.all_eq_true.mpr fun x hx => by
      obtain ⟨p, hp, rfl⟩ := List.mem_map.mp hx
      exact pipeB_iff.mpr ⟨p, rfl, w.b.ok p hp⟩
    rw [this] at ha; cases ha
  | true =>
    rw [ha] at q1
    obtain ⟨ps, rfl, hp⟩ := pipes_of (R := (R : Int)) (l := l) fun x hx => pipeB_iff.mp (List.all_eq_true.mp ha x hx)
    rw [List.length_map] at hl
    obtain ⟨b2, μ2, q2, k2, h2⟩ := sums_any (μ := μ1) (R := R) (ps := ps) (h := h) (by omega)
    cases b2 with
    | true =>
      refine ⟨false, μ2, (seq_skip (not_k (test_k q1))).trans (seq_if_ret q2 rfl), k1.trans k2, (fun z => by cases z), ?_⟩
      rintro ⟨qs, e, w⟩
      rw [← pipes_inj e] at w
      have := h2.mpr ⟨w.nar, w.fla⟩
      cases this
    | false =>
      obtain ⟨b3, μ3, q3, k3, h3⟩ := is_joined_any (μ := μ2) hR1 hR fun p hm => (hp p hm).2
      refine ⟨b3, μ3, (seq_skip (not_k (test_k q1))).trans ((seq_skip q2).trans (ret_is (call2k (p := .int R) (q := .tup (ps.map Pipe.d)) (μ1 := μ2) (μ2 := μ2) rfl rfl q3))), (k1.trans k2).trans k3, h3.trans ⟨fun j => ⟨ps, rfl, ⟨hR1, hR, hl, hp⟩, (h2.mp rfl).1, (h2.mp rfl).2, j⟩, ?_⟩⟩
      rintro ⟨qs, e, w⟩
      rw [pipes_inj e]; exact w.jn
theorem lh3_any {h : D} (hR1 : 1 ≤ R) (hR : R ≤ 16) (hl : l.length + 1 = R) (hs : ∀ x ∈ l, Sk μ n x) (hn : ∀ x ∈ l, Ln 2 x) : ∃ b μ', lh3 (rhoI h (.int R) (.tup l)) μ = .ok (.ret (.bl b)) μ' ∧ Keep [] μ μ' ∧ (b = true ↔ Rest R l) := by
  obtain ⟨μ1, q1, k1⟩ := lpipes_any (R := R) (h := h) hs hn (by omega)
  cases ha : l.any fun x => !pipeB R x with
  | true =>
    rw [ha] at q1
    refine ⟨false, μ1, seq_if_ret (test_k q1) rfl, k1, (fun z => by cases z), ?_⟩
    rintro ⟨ps, rfl, w⟩
    have : (ps.map Pipe.d).all (pipeB R) = true := List.all_eq_true.mpr fun x hx => by
      obtain ⟨p, hp, rfl⟩ := List.mem_map.mp hx
      exact pipeB_iff.mpr ⟨p, rfl, w.b.ok p hp⟩
    rw [all_any, ha] at this; cases this
  | false =>
    rw [ha] at q1
    obtain ⟨ps, rfl, hp⟩ := pipes_of (R := (R : Int)) (l := l) fun x hx => pipeB_iff.mp (List.all_eq_true.mp (by rw [all_any, ha]; rfl : l.all (pipeB R) = true) x hx)
    rw [List.length_map] at hl
    obtain ⟨b2, μ2, q2, k2, h2⟩ := sums_any (μ := μ1) (R := R) (ps := ps) (h := h) (by omega)
    cases b2 with
    | true =>
      refine ⟨false, μ2, (seq_skip (test_k q1)).trans (seq_if_ret q2 rfl), k1.trans k2, (fun z => by cases z), ?_⟩
      rintro ⟨qs, e, w⟩
      rw [← pipes_inj e] at w
      have := h2.mpr ⟨w.nar, w.fla⟩
      cases this
    | false =>
      obtain ⟨b3, μ3, q3, k3, h3⟩ := all_joined_any (μ := μ2) hR1 hR fun p hm => (hp p hm).2
      refine ⟨b3, μ3, (seq_skip (test_k q1)).trans ((seq_skip q2).trans (ret_is (call2k (p := .int R) (q := .tup (ps.map Pipe.d)) (μ1 := μ2) (μ2 := μ2) rfl rfl q3))), (k1.trans k2).trans k3, h3.trans ⟨fun j => ⟨ps, rfl, ⟨hR1, hR, hl, hp⟩, (h2.mp rfl).1, (h2.mp rfl).2, j⟩, ?_⟩⟩
      rintro ⟨qs, e, w⟩
      rw [pipes_inj e]; exact w.jn
theorem house_of {a b : D} : HouseIs (.tup [a, b]) ↔ ∃ (R : Nat) (l : List D), a = .int R ∧ b = .tup l ∧ Rest R l := by
  constructor
  · rintro ⟨R, ps, e, w⟩
    have h := D.tup.inj e
    exact ⟨R, ps.map Pipe.d, (List.cons.inj h).1, (List.cons.inj (List.cons.inj h).2).1, ps, rfl, w⟩
  · rintro ⟨R, l, rfl, rfl, ps, rfl, w⟩
    exact ⟨R, ps, rfl, w⟩
theorem rest_len (h : Rest R l) : 1 ≤ R ∧ R ≤ 16 ∧ l.length + 1 = R := by
  obtain ⟨ps, rfl, w⟩ := h
  exact ⟨w.b.r1, w.b.r2, by rw [List.length_map]; exact w.b.len⟩
theorem house_any (h : Sk μ n d) : ∃ b μ', m_is_house [d] μ = .ok (.bl b) μ' ∧ Keep [] μ μ' ∧ (b = true ↔ HouseIs d) := by
  obtain ⟨t, ht⟩ := h.ty
  have c0 : mNot (mTest (mUn (isT1 "tuple") (mVar 0))) (startR 4 [d]) μ = .ok (!isTupB d) μ := not_k (test_k (un_k (p := d) (μ1 := μ) rfl (tupT ht)))
  by_cases hd : ∃ l, d = .tup l
  · obtain ⟨l, rfl⟩ := hd
    by_cases h2 : l.length = 2
    · obtain ⟨a, b, rfl⟩ := of2 h2
      obtain ⟨ta, hta⟩ := (h.tup a (by simp)).ty
      obtain ⟨tb, htb⟩ := (h.tup b (by simp)).ty
      have sb := h.tup b (by simp)
      have c1 : mTest (mBin neD (mB lenL (mCons (mVar 0) (mNil))) (mC (.int 2))) (startR 4 [.tup [a, b]]) μ = .ok false μ := tup_len (l := [a, b]) rfl rfl
      have begin_ : b_is_house (startR 4 [.tup [a, b]]) μ = ih2 (rhoI (.tup [a, b]) a b) μ := by
        rw [ihouse_eq]
        exact (seq_skip (or_f c0 c1)).trans ((seq_asg (d := .tup [a, b]) (μ1 := μ) (ρ2 := rhoI (.tup [a, b]) a b) (μ2 := μ) rfl rfl))
      have t1 : mNot (mTest (mB m_is_from (mCons (mVar 1) (mCons (mC (.int 1)) (mCons (mC (.int 16)) (mNil)))))) (rhoI (.tup [a, b]) a b) μ = .ok (!within a 1 16) μ := not_k (test_k (call3k (x := mVar 1) (y := mC (.int 1)) (z := mC (.int 16)) (p := a) (q := .int 1) (r := .int 16) (μ1 := μ) (μ2 := μ) (μ3 := μ) rfl rfl rfl (from_any hta)))
      have t2 : mNot (mTest (mUn (isT1 "tuple") (mVar 2))) (rhoI (.tup [a, b]) a b) μ = .ok (!isTupB b) μ := not_k (test_k (un_k (p := b) (μ1 := μ) rfl (tupT htb)))
      cases hw : within a 1 16 with
      | false =>
        rw [hw] at t1
        refine ⟨false, μ, run_is (begin_.trans (seq_if_ret (or_t t1) rfl)), .refl, (fun z => by cases z), fun z => ?_⟩
        obtain ⟨R, l, rfl, rfl, r⟩ := house_of.mp z
        have := rest_len r
        rw [within_iff.mpr ⟨_, rfl, by omega, by omega⟩] at hw
        cases hw
      | true =>
        rw [hw] at t1
        obtain ⟨r, rfl, r1, r2⟩ := within_iff.mp hw
        by_cases hb : ∃ l, b = .tup l
        · obtain ⟨l, rfl⟩ := hb
          have t3 : mTest (mBin neD (mB lenL (mCons (mVar 2) (mNil))) (mBin subD (mVar 1) (mC (.int 1)))) (rhoI (.tup [.int r, .tup l]) (.int r) (.tup l)) μ = .ok (!decide ((l.length : Int) = r - 1)) μ := test_k (bin_k (call1k (p := .tup l) (μ1 := μ) rfl len_t) (q := .int (r - 1)) (μ2 := μ) rfl neI)
          by_cases hl : (l.length : Int) = r - 1
          · rw [decide_eq_true hl] at t3
            obtain ⟨R, rfl⟩ : ∃ R : Nat, r = (R : Int) := ⟨r.toNat, by omega⟩
            obtain ⟨b, μ', q, k, hb⟩ := ih3_any (R := R) (h := .tup [.int R, .tup l]) (by omega) (by omega) (by omega) sb.tup
            refine ⟨b, μ', run_is (begin_.trans ((seq_skip (or_f t1 (or_f t2 t3))).trans q)), k, hb.trans ⟨fun z => house_of.mpr ⟨R, l, rfl, rfl, z⟩, fun z => ?_⟩⟩
            obtain ⟨R', l', e1, e2, r⟩ := house_of.mp z
            have e1 := D.int.inj e1
            have : R = R' := by omega
            subst this
            rw [D.tup.inj e2]; exact r
          · rw [decide_eq_false hl] at t3
            refine ⟨false, μ, run_is (begin_.trans (seq_if_ret (or_f t1 (or_f t2 t3)) rfl)), .refl, (fun z => by cases z), fun z => ?_⟩
            obtain ⟨R', l', e1, e2, r⟩ := house_of.mp z
            have := rest_len r
            have e1 := D.int.inj e1
            rw [← D.tup.inj e2] at this
            omega
        · have hn : isTupB b = false := by cases b <;> first | rfl | exact absurd ⟨_, rfl⟩ hb
          rw [hn] at t2
          refine ⟨false, μ, run_is (begin_.trans (seq_if_ret (or_f t1 (or_t t2)) rfl)), .refl, (fun z => by cases z), fun z => ?_⟩
          obtain ⟨R', l', e1, e2, r⟩ := house_of.mp z
          exact absurd ⟨l', e2⟩ hb
    · have c1 : mTest (mBin neD (mB lenL (mCons (mVar 0) (mNil))) (mC (.int 2))) (startR 4 [.tup l]) μ = .ok true μ := tup_len (l := l) rfl (by rw [decide_eq_false (by omega)]; rfl)
      refine ⟨false, μ, run_is (by rw [ihouse_eq]; exact seq_if_ret (or_f c0 c1) rfl), .refl, (fun z => by cases z), ?_⟩
      rintro ⟨R, ps, e, w⟩
      cases e
      exact absurd rfl h2
  · have hn : isTupB d = false := by cases d <;> first | rfl | exact absurd ⟨_, rfl⟩ hd
    rw [hn] at c0
    refine ⟨false, μ, run_is (by rw [ihouse_eq]; exact seq_if_ret (or_t c0) rfl), .refl, (fun z => by cases z), ?_⟩
    rintro ⟨R, ps, e, w⟩
    exact absurd ⟨_, e⟩ hd
theorem lone_any (h : Sk μ n d) (hn : Ln 4 d) : ∃ b μ', m_law_is_one [d] μ = .ok (.bl b) μ' ∧ Keep [] μ μ' ∧ (b = true ↔ HouseIs d) := by
  obtain ⟨t, ht⟩ := h.ty
  have c0 : mNot (mTest (mUn (isT1 "tuple") (mVar 0))) (startR 4 [d]) μ = .ok (!isTupB d) μ := not_k (test_k (un_k (p := d) (μ1 := μ) rfl (tupT ht)))
  by_cases hd : ∃ l, d = .tup l
  · obtain ⟨l, rfl⟩ := hd
    by_cases h2 : l.length = 2
    · obtain ⟨a, b, rfl⟩ := of2 h2
      obtain ⟨ta, hta⟩ := (h.tup a (by simp)).ty
      obtain ⟨tb, htb⟩ := (h.tup b (by simp)).ty
      have sb := h.tup b (by simp)
      have nb := (hn _ rfl).2 b (by simp)
      have c1 : mTest (mBin neD (mB lenL (mCons (mVar 0) (mNil))) (mC (.int 2))) (startR 4 [.tup [a, b]]) μ = .ok false μ := tup_len (l := [a, b]) rfl rfl
      have t1 : mNot (mTest (mB m_law_is_from (mCons (mBin idxA (mVar 0) (mC (.int 0))) (mCons (mC (.int 1)) (mCons (mC (.int 16)) (mNil)))))) (startR 4 [.tup [a, b]]) μ = .ok (!within a 1 16) μ := not_k (test_k (call3k (bin_k (p := .tup [a, b]) (q := .int 0) (μ1 := μ) (μ2 := μ) rfl rfl (ix_tup (by decide) rfl)) (y := mC (.int 1)) (z := mC (.int 16)) (q := .int 1) (r := .int 16) (μ2 := μ) (μ3 := μ) rfl rfl (lfrom_any hta)))
      have t2 : mNot (mTest (mUn (isT1 "tuple") (mVar 2))) (rhoI (.tup [a, b]) a b) μ = .ok (!isTupB b) μ := not_k (test_k (un_k (p := b) (μ1 := μ) rfl (tupT htb)))
      cases hw : within a 1 16 with
      | false =>
        rw [hw] at t1
        refine ⟨false, μ, run_is (by rw [lhouse_eq]; exact seq_if_ret (or_f c0 (or_f c1 t1)) rfl), .refl, (fun z => by cases z), fun z => ?_⟩
        obtain ⟨R, l, rfl, rfl, r⟩ := house_of.mp z
        have := rest_len r
        rw [within_iff.mpr ⟨_, rfl, by omega, by omega⟩] at hw
        cases hw
      | true =>
        rw [hw] at t1
        have begin_ : b_law_is_one (startR 4 [.tup [a, b]]) μ = lh2 (rhoI (.tup [a, b]) a b) μ := by
          rw [lhouse_eq]
          exact (seq_skip (or_f c0 (or_f c1 t1))).trans ((seq_asg (d := .tup [a, b]) (μ1 := μ) (ρ2 := rhoI (.tup [a, b]) a b) (μ2 := μ) rfl rfl))
        obtain ⟨r, rfl, r1, r2⟩ := within_iff.mp hw
        by_cases hb : ∃ l, b = .tup l
        · obtain ⟨l, rfl⟩ := hb
          have t3 : mTest (mBin neD (mB lenL (mCons (mVar 2) (mNil))) (mBin subD (mVar 1) (mC (.int 1)))) (rhoI (.tup [.int r, .tup l]) (.int r) (.tup l)) μ = .ok (!decide ((l.length : Int) = r - 1)) μ := test_k (bin_k (call1k (p := .tup l) (μ1 := μ) rfl len_t) (q := .int (r - 1)) (μ2 := μ) rfl neI)
          by_cases hl : (l.length : Int) = r - 1
          · rw [decide_eq_true hl] at t3
            obtain ⟨R, rfl⟩ : ∃ R : Nat, r = (R : Int) := ⟨r.toNat, by omega⟩
            obtain ⟨b, μ', q, k, hb⟩ := lh3_any (R := R) (h := .tup [.int R, .tup l]) (by omega) (by omega) (by omega) sb.tup (nb _ rfl).2
            refine ⟨b, μ', run_is (begin_.trans ((seq_skip (or_f t2 t3)).trans q)), k, hb.trans ⟨fun z => house_of.mpr ⟨R, l, rfl, rfl, z⟩, fun z => ?_⟩⟩
            obtain ⟨R', l', e1, e2, r⟩ := house_of.mp z
            have e1 := D.int.inj e1
            have : R = R' := by omega
            subst this
            rw [D.tup.inj e2]; exact r
          · rw [decide_eq_false hl] at t3
            refine ⟨false, μ, run_is (begin_.trans (seq_if_ret (or_f t2 t3) rfl)), .refl, (fun z => by cases z), fun z => ?_⟩
            obtain ⟨R', l', e1, e2, r⟩ := house_of.mp z
            have := rest_len r
            have e1 := D.int.inj e1
            rw [← D.tup.inj e2] at this
            omega
        · have hn : isTupB b = false := by cases b <;> first | rfl | exact absurd ⟨_, rfl⟩ hb
          rw [hn] at t2
          refine ⟨false, μ, run_is (begin_.trans (seq_if_ret (or_t t2) rfl)), .refl, (fun z => by cases z), fun z => ?_⟩
          obtain ⟨R', l', e1, e2, r⟩ := house_of.mp z
          exact absurd ⟨l', e2⟩ hb
    · have c1 : mTest (mBin neD (mB lenL (mCons (mVar 0) (mNil))) (mC (.int 2))) (startR 4 [.tup l]) μ = .ok true μ := tup_len (l := l) rfl (by rw [decide_eq_false (by omega)]; rfl)
      refine ⟨false, μ, run_is (by rw [lhouse_eq]; exact seq_if_ret (or_f c0 (or_t c1)) rfl), .refl, (fun z => by cases z), ?_⟩
      rintro ⟨R, ps, e, w⟩
      cases e
      exact absurd rfl h2
  · have hn : isTupB d = false := by cases d <;> first | rfl | exact absurd ⟨_, rfl⟩ hd
    rw [hn] at c0
    refine ⟨false, μ, run_is (by rw [lhouse_eq]; exact seq_if_ret (or_t c0) rfl), .refl, (fun z => by cases z), ?_⟩
    rintro ⟨R, ps, e, w⟩
    exact absurd ⟨_, e⟩ hd
end
end K01

/-! S127: things of so many levels and such a size. -/
namespace K01
open PySem L2 RW
open Q
mutual
/-- a thing of no more than L levels, size B, numbers to Z, its lists not among ex -/
inductive Lv (ex : List Nat) (μ : Mem) (Z : Nat) : Nat → Nat → D → Prop
  | int {L B : Nat} {i : Int} (h : i.natAbs ≤ Z) : Lv ex μ Z L B (.int i)
  | bl {L B : Nat} {b : Bool} : Lv ex μ Z L B (.bl b)
  | non {L B : Nat} : Lv ex μ Z L B .non
  | str {L B : Nat} {s : Str} (h : s.cps.toList.all (fun c => decide (c < 16 ^ 8)) = true) (h2 : s.cps.size ≤ B) : Lv ex μ Z L B (.str s)
  | tup0 {L B : Nat} : Lv ex μ Z L B (.tup [])
  | tup {L B : Nat} {l : List D} (h : LvL ex μ Z L B l) : Lv ex μ Z (L + 1) B (.tup l)
  | lst0 {L B a : Nat} (e : μ[a]? = some (.lst [])) (ha : a ∉ ex) : Lv ex μ Z L B (.ref a)
  | dic0 {L B a : Nat} (e : μ[a]? = some (.dic [])) (ha : a ∉ ex) : Lv ex μ Z L B (.ref a)
  | lst {L B a : Nat} {l : List D} (e : μ[a]? = some (.lst l)) (ha : a ∉ ex) (h : LvL ex μ Z L B l) : Lv ex μ Z (L + 1) B (.ref a)
inductive LvL (ex : List Nat) (μ : Mem) (Z : Nat) : Nat → Nat → List D → Prop
  | nil {L B : Nat} : LvL ex μ Z L B []
  | cons {L B C E : Nat} {x : D} {l : List D} (h : Lv ex μ Z L B x) (t : LvL ex μ Z L C l) (hE : B + 1 + C ≤ E) : LvL ex μ Z L E (x :: l)
end
section
variable {ex : List Nat} {μ μ' : Mem} {Z Z' : Nat}
mutual
theorem Lv.le : ∀ {L B L' B' : Nat} {d : D}, Lv ex μ Z L B d → Z ≤ Z' → L ≤ L' → B ≤ B' → Lv ex μ Z' L' B' d
  | _, _, _, _, _, .int h, hz, _, _ => .int (by omega)
  | _, _, _, _, _, .bl, _, _, _ => .bl
  | _, _, _, _, _, .non, _, _, _ => .non
  | _, _, _, _, _, .str h h2, _, _, hb => .str h (by omega)
  | _, _, _, _, _, .tup0, _, _, _ => .tup0
  | _, _, 0, _, _, .tup h, _, hl, _ => by omega
  | _, _, L' + 1, _, _, .tup h, hz, hl, hb => .tup (LvL.le h hz (by omega) hb)
  | _, _, _, _, _, .lst0 e ha, _, _, _ => .lst0 e ha
  | _, _, _, _, _, .dic0 e ha, _, _, _ => .dic0 e ha
  | _, _, 0, _, _, .lst e ha h, _, hl, _ => by omega
  | _, _, L' + 1, _, _, .lst e ha h, hz, hl, hb => .lst e ha (LvL.le h hz (by omega) hb)
theorem LvL.le : ∀ {L B L' B' : Nat} {l : List D}, LvL ex μ Z L B l → Z ≤ Z' → L ≤ L' → B ≤ B' → LvL ex μ Z' L' B' l
  | _, _, _, _, _, .nil, _, _, _ => .nil
  | _, _, _, _, _, .cons h t hE, hz, hl, hb => .cons (Lv.le h hz hl (Nat.le_refl _)) (LvL.le t hz hl (Nat.le_refl _)) (by omega)
end
mutual
theorem Lv.keep (k : Keep ex μ μ') : ∀ {L B : Nat} {d : D}, Lv ex μ Z L B d → Lv ex μ' Z L B d
  | _, _, _, .int h => .int h
  | _, _, _, .bl => .bl
  | _, _, _, .non => .non
  | _, _, _, .str h h2 => .str h h2
  | _, _, _, .tup0 => .tup0
  | _, _, _, .tup h => .tup (LvL.keep k h)
  | _, _, _, .lst0 e ha => .lst0 (k.get e ha) ha
  | _, _, _, .dic0 e ha => .dic0 (k.get e ha) ha
  | _, _, _, .lst e ha h => .lst (k.get e ha) ha (LvL.keep k h)
theorem LvL.keep (k : Keep ex μ μ') : ∀ {L B : Nat} {l : List D}, LvL ex μ Z L B l → LvL ex μ' Z L B l
  | _, _, _, .nil => .nil
  | _, _, _, .cons h t hE => .cons (Lv.keep k h) (LvL.keep k t) hE
end
mutual
theorem Lv.thg (hZ : Z < 10 ^ 50) : ∀ {L B : Nat} {d : D}, Lv ex μ Z L B d → ∃ p, Thg ex μ (L + 1) B d p
  | _, _, _, .int h => ⟨_, thg_int (by omega)⟩
  | _, _, _, .bl => ⟨_, thg_bl⟩
  | _, _, _, .non => ⟨_, thg_non⟩
  | _, _, _, .str h h2 => ⟨_, thg_str h h2⟩
  | _, _, _, .tup0 => ⟨_, (thg_tup (thgs_nil (n := 0))).le (by omega) (Nat.zero_le _)⟩
  | _, _, _, .tup h => let ⟨_, t⟩ := LvL.thgs hZ h; ⟨_, thg_tup t⟩
  | _, _, _, .lst0 e ha => ⟨_, (thg_lst e ha (thgs_nil (n := 0))).le (by omega) (Nat.zero_le _)⟩
  | _, _, _, .dic0 e ha => ⟨_, thg_dic e ha⟩
  | _, _, _, .lst e ha h => let ⟨_, t⟩ := LvL.thgs hZ h; ⟨_, thg_lst e ha t⟩
theorem LvL.thgs (hZ : Z < 10 ^ 50) : ∀ {L B : Nat} {l : List D}, LvL ex μ Z L B l → ∃ ps, Thgs ex μ (L + 1) B l ps
  | _, _, _, .nil => ⟨_, thgs_nil.le (Nat.le_refl _) (Nat.zero_le _)⟩
  | _, _, _, .cons h t hE => let ⟨_, a⟩ := Lv.thg hZ h; let ⟨_, b⟩ := LvL.thgs hZ t; ⟨_, (thgs_cons a b).le (Nat.le_refl _) hE⟩
end
theorem LvL.len : ∀ {L B : Nat} {l : List D}, LvL ex μ Z L B l → l.length ≤ B
  | _, _, _, .nil => Nat.zero_le _
  | _, _, _, .cons h t hE => by have := LvL.len t; rw [List.length_cons]; omega
theorem LvL.mem : ∀ {L B : Nat} {l : List D}, LvL ex μ Z L B l → ∀ x ∈ l, ∃ C, C + 1 ≤ B ∧ Lv ex μ Z L C x
  | _, _, _, .nil, x, hx => (List.not_mem_nil hx).elim
  | _, _, _, .cons (B := B) h t hE, x, hx => by
    rcases List.mem_cons.mp hx with rfl | hx
    · exact ⟨B, by omega, h⟩
    · obtain ⟨C, hC, hv⟩ := LvL.mem t x hx
      exact ⟨C, by omega, hv⟩
theorem LvL.append : ∀ {L B C : Nat} {l r : List D}, LvL ex μ Z L B l → LvL ex μ Z L C r → LvL ex μ Z L (B + C) (l ++ r)
  | _, _, _, _, _, .nil, t => t.le (Nat.le_refl _) (Nat.le_refl _) (by omega)
  | _, _, _, _, _, .cons h t hE, u => .cons h (LvL.append t u) (by omega)
theorem LvL.split : ∀ {L E : Nat} {l1 l2 : List D} {x : D}, LvL ex μ Z L E (l1 ++ x :: l2) → ∃ B1 Bx B2, B1 + (Bx + 1) + B2 ≤ E ∧ LvL ex μ Z L B1 l1 ∧ Lv ex μ Z L Bx x ∧ LvL ex μ Z L B2 l2
  | _, _, [], l2, x, .cons (B := B) (C := C) h t hE => ⟨0, B, C, by omega, .nil, h, t⟩
  | _, _, y :: l1, l2, x, .cons (B := B) (C := C) h t hE => by
    obtain ⟨B1, Bx, B2, hb, a, b, c⟩ := LvL.split t
    exact ⟨B + 1 + B1, Bx, B2, by omega, .cons h a (Nat.le_refl _), b, c⟩
theorem LvL.rev : ∀ {L B : Nat} {l : List D}, LvL ex μ Z L B l → LvL ex μ Z L B l.reverse
  | _, _, _, .nil => .nil
  | _, _, _, .cons (B := B) (C := C) h t hE => by
    rw [List.reverse_cons]
    exact (LvL.append (LvL.rev t) (LvL.cons (C := 0) (E := B + 1) h .nil (by omega))).le (Nat.le_refl _) (Nat.le_refl _) (by omega)
theorem Lv.ln : ∀ (n : Nat) {L B : Nat} {d : D}, B < 100000 → Lv ex μ Z L B d → Ln n d
  | 0, _, _, _, _, _ => trivial
  | n + 1, _, _, _, hB, h => fun l e => by
    subst e
    cases h with
    | tup0 => exact ⟨by simp, by simp⟩
    | tup h =>
      refine ⟨by have := h.len; omega, fun x hx => ?_⟩
      obtain ⟨C, hC, hv⟩ := h.mem x hx
      exact Lv.ln n (by omega) hv
theorem Lv.sk {L B : Nat} {d : D} (hZ : Z < 10 ^ 50) (h : Lv ex μ Z L B d) : Sk μ (L + 1) d := by
  obtain ⟨p, t⟩ := h.thg hZ
  exact ⟨p, fun μ' k => t.sh μ' (k.mono fun i hi => (List.not_mem_nil hi).elim)⟩
theorem Lv.ty {L B : Nat} {d : D} (hZ : Z < 10 ^ 50) (h : Lv ex μ Z L B d) : ∃ t, tyD d μ = some t := (h.sk hZ).ty
theorem LvL.of_all {L B : Nat} : ∀ {l : List D}, (∀ x ∈ l, Lv ex μ Z L B x) → LvL ex μ Z L (l.length * (B + 1)) l
  | [], _ => .nil
  | x :: l, h => .cons (h x (List.mem_cons_self ..)) (LvL.of_all fun y hy => h y (List.mem_cons_of_mem _ hy)) (by rw [List.length_cons, Nat.succ_mul]; omega)
theorem LvL.of_list {L B : Nat} {l : List D} (h : ∀ x ∈ l, Lv ex μ Z L B x) {E : Nat} (hE : l.length * (B + 1) ≤ E) : LvL ex μ Z L E l := (LvL.of_all h).le (Nat.le_refl _) (Nat.le_refl _) hE
end
end K01

/-! S128: a part otherwise. -/
namespace K01
open PySem L2 RW
open Q
section
variable {μ : Mem} {k c r N : Nat} {Z : Nat}
def bigZ : Nat := 1000000000000000000000000000000000000000
theorem text_lv {L : Nat} {i : Int} (h : i.natAbs < 10 ^ 40) {B : Nat} (hB : 50 ≤ B) : Lv [k, r] μ Z L B (.str (toString i)) := by
  refine .str ?_ ?_
  · show (Str.ofString (toString i)).cps.toList.all _ = true
    rw [Str.ofString_eq_toList, List.all_eq_true]
    intro x hx
    simp only [List.mem_map] at hx
    obtain ⟨ch, -, rfl⟩ := hx
    rw [decide_eq_true_eq]
    have h2 : ch.toNat < 0x110000 := by
      rcases ch.valid with h | ⟨_, h⟩
      · show ch.val.toNat < _; omega
      · exact h
    exact Nat.lt_of_lt_of_le h2 (by decide)
  · have h1 := int_text_length_le10 (k := 40) (by decide) h
    have h2 := ofString_length (toString i)
    have h3 : (Str.ofString (toString i)).length = (Str.ofString (toString i)).cps.size := rfl
    show (Str.ofString (toString i)).cps.size ≤ B
    omega
theorem draw {ρ : Rho} {j : Int} {e : MD} (h : Dk μ k c r N) (hN : N < 1000000) (hj : 0 < j) (hj2 : j < 18446744073709551616) (h0 : ρ[0]? = some (some (.ref k))) (he : e ρ μ = .ok (.int j) μ) :
    ∃ (x : Int) (μ' : Mem), mB m_law_next (mCons (mVar 0) (mCons e mNil)) ρ μ = .ok (.int x) μ' ∧ 0 ≤ x ∧ x < j ∧ Dk μ' k c r (N + 1) ∧ Keep [k, r] μ μ' := by
  obtain ⟨x, μ', q, x0, x1, d, kk, _⟩ := next_spec h hN hj hj2
  have m0 : mVar 0 ρ μ = .ok (.ref k) μ := by simp only [mVar, h0]
  exact ⟨x, μ', call2k m0 he q, x0, x1, d, kk⟩
theorem odd_any (h : Dk μ k c r N) (hN : N + 1 < 1000000) (hZ : bigZ ≤ Z) : ∃ (d : D) (μ' : Mem), m_law_odd [.ref k] μ = .ok d μ' ∧ Lv [k, r] μ' Z 1 10 d ∧ Dk μ' k c r (N + 1) ∧ Keep [k, r] μ μ' := by
  have hl := h.lt
  let L : List D := [.non, .bl true, .bl false, .int (-1), .int 0, .int 1, .int (10 ^ 39), .str "", .str "0", .tup [], .ref μ.length, .ref (μ.length + 1), .tup [.int 0], .ref (μ.length + 2), .tup [.tup []], .tup [.int 0, .int 0, .int 0], .tup [.int 0, .int 1, .int 2, .tup [], .tup []]]
  let cs : List Cell := [.lst [], .dic [], .lst [.int 0], .lst L]
  have mk : b_law_odd (startR 2 [.ref k]) μ = (sRet (mBin idxA (mVar 1) (mB m_law_next (mCons (mVar 0) (mCons (mC (.int 17)) (mNil)))))) [some (.ref k), some (.ref (μ.length + 3))] (μ ++ cs) := by
    refine (seq_set (d := .ref (μ.length + 3)) (μ1 := μ ++ cs) ?_).trans rfl
    simp [startR, mDicNew, negD, powD, cs, L]
  have dk : Dk (μ ++ cs) k c r N := h.app
  obtain ⟨y, μ2, q, y0, y1, d2, k2⟩ := draw (ρ := [some (.ref k), some (.ref (μ.length + 3))]) (e := mC (.int 17)) (j := 17) dk (by omega) (by decide) (by decide) rfl rfl
  have e3 : (μ ++ cs)[μ.length + 3]? = some (.lst L) := by simp [cs]
  have e0 : (μ ++ cs)[μ.length]? = some (.lst []) := by simp [cs]
  have e1 : (μ ++ cs)[μ.length + 1]? = some (.dic []) := by simp [cs]
  have e2 : (μ ++ cs)[μ.length + 2]? = some (.lst [.int 0]) := by simp [cs]
  have no : ∀ j, μ.length ≤ j → j ∉ [k, r] := fun j hj => by simp; omega
  have e3' : μ2[μ.length + 3]? = some (.lst L) := k2.get e3 (no _ (by omega))
  have hy : y.toNat < L.length := by simp [L]; omega
  have ix : idxA (.ref (μ.length + 3)) (.int y) μ2 = .ok (L[y.toNat]'hy) μ2 := ix_lst e3' y0 (List.getElem?_eq_getElem hy)
  have all : ∀ x ∈ L, Lv [k, r] (μ ++ cs) Z 1 10 x := by
    have small : ∀ (L B : Nat) (i : Int), -10 ≤ i → i ≤ 10 → Lv [k, r] (μ ++ cs) Z L B (.int i) := fun L B i h1 h2 => .int (by unfold bigZ at hZ; omega)
    have one : ∀ {l : List D}, (∀ x ∈ l, Lv [k, r] (μ ++ cs) Z 0 0 x) → l.length ≤ 10 → LvL [k, r] (μ ++ cs) Z 0 10 l := fun h hl => LvL.of_list h (by omega)
    intro x hx
    simp only [L, List.mem_cons, List.not_mem_nil, or_false] at hx
    rcases hx with rfl | rfl | rfl | rfl | rfl | rfl | rfl | rfl | rfl | rfl | rfl | rfl | rfl | rfl | rfl | rfl | rfl
    · exact .non
    · exact .bl
    · exact .bl
    · exact small _ _ _ (by decide) (by decide)
    · exact small _ _ _ (by decide) (by decide)
    · exact small _ _ _ (by decide) (by decide)
    · exact .int (by unfold bigZ at hZ; exact Nat.le_trans (by decide) hZ)
    · exact .str (by decide) (by decide)
    · exact .str (by decide) (by decide)
    · exact .tup0
    · exact .lst0 e0 (no _ (by omega))
    · exact .dic0 e1 (no _ (by omega))
    · exact .tup (one (by simpa using small 0 0 0 (by decide) (by decide)) (by simp))
    · exact .lst e2 (no _ (by omega)) (one (by simpa using small 0 0 0 (by decide) (by decide)) (by simp))
    · exact .tup (one (by simpa using Lv.tup0) (by simp))
    · exact .tup (one (by simpa using small 0 0 0 (by decide) (by decide)) (by simp))
    · refine .tup (one (fun x hx => ?_) (by simp))
      simp only [List.mem_cons, List.not_mem_nil, or_false] at hx
      rcases hx with rfl | rfl | rfl | rfl | rfl
      · exact small _ _ _ (by decide) (by decide)
      · exact small _ _ _ (by decide) (by decide)
      · exact small _ _ _ (by decide) (by decide)
      · exact .tup0
      · exact .tup0
  refine ⟨L[y.toNat]'hy, μ2, run_is (mk.trans (ret_is ?_)), (all _ (List.getElem_mem _)).keep k2, d2, Keep.trans Keep.app k2⟩
  exact bin_k (p := .ref (μ.length + 3)) (μ1 := μ ++ cs) rfl q ix
/-- what comes in place of d -/
def Outs (k r : Nat) (μ : Mem) (Z L B m : Nat) : Prop := ∃ ys, μ[m]? = some (.lst ys) ∧ m ∉ [k, r] ∧ ys.length ≤ 2 ∧ LvL [k, r] μ Z L B ys
theorem outs_new {ys : List D} {L B : Nat} (h : k < μ.length ∧ r < μ.length) (hl : ys.length ≤ 2) (ha : LvL [k, r] μ Z L B ys) : Outs k r (μ ++ [.lst ys]) Z L B μ.length :=
  ⟨ys, app_new, by simp; omega, hl, ha.keep Keep.app⟩
noncomputable def otI : MS := sSeq (sSet 3 (mLst (mCons (mBin addD (mVar 1) (mC (.int 1))) (mCons (mBin subD (mVar 1) (mC (.int 1))) (mCons (mBin eqD (mVar 1) (mC (.int 1))) (mCons (mBin subD (mC (.int 0)) (mVar 1)) (mCons (mBin addD (mBin powD (mC (.int 10)) (mC (.int 12))) (mC (.int 1))) (mCons (mBin addD (mBin powD (mC (.int 10)) (mC (.int 6))) (mC (.int 1))) (mCons (mBin addD (mVar 1) (mC (.int 16))) (mCons (mB strL (mCons (mVar 1) (mNil))) (mNil)))))))))))
    (sRet (mLst (mCons (mBin idxA (mVar 3) (mB m_law_next (mCons (mVar 0) (mCons (mC (.int 8)) (mNil))))) (mNil))))
noncomputable def otT : MS := sRet (mLst (mCons (mBin idxA (mLst (mCons (mB listA (mCons (mVar 1) (mNil))) (mCons (mUn backD (mVar 1)) (mNil)))) (mVar 2)) (mNil)))
noncomputable def otE : MS := sSeq (sIf (mTest (mBin eqD (mVar 2) (mC (.int 5)))) (sRet (mLst (mNil))) (sNil))
    (sSeq (sIf (mTest (mBin eqD (mVar 2) (mC (.int 6)))) (sRet (mLst (mCons (mVar 1) (mCons (mVar 1) (mNil))))) (sNil))
    (sRet (mLst (mCons (mB m_law_odd (mCons (mVar 0) (mNil))) (mNil)))))
theorem otherwise_eq : b_law_otherwise = sSeq (sSet 2 (mB m_law_next (mCons (mVar 0) (mCons (mC (.int 9)) (mNil)))))
    (sSeq (sIf (mAnd (mTest (mUn (isT1 "int") (mVar 1))) (mAnd (mNot (mTest (mUn (isT1 "bool") (mVar 1)))) (mTest (mBin (cmpI fun i j => decide (i < j)) (mVar 2) (mC (.int 5)))))) otI (sNil))
    (sSeq (sIf (mAnd (mTest (mUn (isT1 "tuple") (mVar 1))) (mTest (mBin (cmpI fun i j => decide (i < j)) (mVar 2) (mC (.int 2))))) otT (sNil)) otE)) := rfl
theorem lst_one {ρ : Rho} {x : MD} {a : D} {μ1 : Mem} (h : x ρ μ = .ok a μ1) : mLst (mCons x mNil) ρ μ = .ok (.ref μ1.length) (μ1 ++ [.lst [a]]) := by
  simp only [mLst, mCons, mNil, h, Res.bind]
  rfl
theorem otE_any {d : D} {L B : Nat} {w : Int} (h : Dk μ k c r N) (hN : N + 5 < 1000000) (hZ : bigZ ≤ Z) (hd : Lv [k, r] μ Z L B d) {o3 : Option D} :
    ∃ (m : Nat) (μ' : Mem), otE [some (.ref k), some d, some (.int w), o3] μ = .ok (.ret (.ref m)) μ' ∧ Outs k r μ' Z (L + 1) (B + 1 + (B + 60)) m ∧ Dk μ' k c r (N + 3) ∧ Keep [k, r] μ μ' := by
  have hl := h.lt
  have t5 : mTest (mBin eqD (mVar 2) (mC (.int 5))) [some (.ref k), some d, some (.int w), o3] μ = .ok (decide (w = 5)) μ := test_k (bin_k (p := .int w) (q := .int 5) (μ1 := μ) (μ2 := μ) rfl rfl eqI)
  have t6 : mTest (mBin eqD (mVar 2) (mC (.int 6))) [some (.ref k), some d, some (.int w), o3] μ = .ok (decide (w = 6)) μ := test_k (bin_k (p := .int w) (q := .int 6) (μ1 := μ) (μ2 := μ) rfl rfl eqI)
  by_cases h5 : w = 5
  · rw [decide_eq_true h5] at t5
    exact ⟨μ.length, μ ++ [.lst []], seq_if_ret t5 rfl, outs_new ⟨hl.1, hl.2.2⟩ (by simp) .nil, (h.app).mono (by omega), Keep.app⟩
  · rw [decide_eq_false h5] at t5
    by_cases h6 : w = 6
    · rw [decide_eq_true h6] at t6
      refine ⟨μ.length, μ ++ [.lst [d, d]], (seq_skip t5).trans (seq_if_ret t6 rfl), outs_new ⟨hl.1, hl.2.2⟩ (by simp) ?_, (h.app).mono (by omega), Keep.app⟩
      have hd' := hd.le (Nat.le_refl _) (Nat.le_succ L) (Nat.le_refl _)
      exact .cons hd' (.cons (C := 0) (E := B + 1) hd' .nil (by omega)) (by omega)
    · rw [decide_eq_false h6] at t6
      obtain ⟨x, μ1, q, hx, d1, k1⟩ := odd_any h (by omega) hZ
      have l1 := d1.lt
      refine ⟨μ1.length, μ1 ++ [.lst [x]], (seq_skip t5).trans ((seq_skip t6).trans (ret_is (lst_one (call1k (p := .ref k) (μ1 := μ) rfl q)))), outs_new ⟨l1.1, l1.2.2⟩ (by simp) ?_, (d1.app).mono (by omega), k1.trans Keep.app⟩
      exact .cons (C := 0) (hx.le (Nat.le_refl _) (by omega) (Nat.le_refl _)) .nil (by omega)
theorem otT_any {l : List D} {L B : Nat} {w : Int} (h : Dk μ k c r N) (hw : w = 0 ∨ w = 1) (hd : Lv [k, r] μ Z L B (.tup l)) {o3 : Option D} :
    ∃ (m : Nat) (μ' : Mem), otT [some (.ref k), some (.tup l), some (.int w), o3] μ = .ok (.ret (.ref m)) μ' ∧ Outs k r μ' Z (L + 1) (B + 1 + (B + 60)) m ∧ Dk μ' k c r (N + 3) ∧ Keep [k, r] μ μ' := by
  have hl := h.lt
  let μ1 : Mem := μ ++ [.lst l]
  let μ2 : Mem := μ1 ++ [.lst [.ref μ.length, .tup l.reverse]]
  have c1 : mLst (mCons (mB listA (mCons (mVar 1) (mNil))) (mCons (mUn backD (mVar 1)) (mNil))) [some (.ref k), some (.tup l), some (.int w), o3] μ = .ok (.ref μ1.length) μ2 := rfl
  have e2 : μ2[μ1.length]? = some (.lst [.ref μ.length, .tup l.reverse]) := app_new
  have e1 : μ2[μ.length]? = some (.lst l) := app_at app_new
  have no : μ.length ∉ [k, r] := by simp; omega
  have k2 : Keep [k, r] μ μ2 := Keep.trans Keep.app Keep.app
  have lv : Lv [k, r] μ2 Z L B (.ref μ.length) ∧ Lv [k, r] μ2 Z L B (.tup l.reverse) := by
    have hd2 := hd.keep k2
    cases hd2 with
    | tup0 => exact ⟨.lst0 e1 no, .tup0⟩
    | tup h => exact ⟨.lst e1 no h, .tup h.rev⟩
  have d2 : Dk μ2 k c r N := (h.app).app
  have l2 := d2.lt
  have fin : ∀ x, Lv [k, r] μ2 Z L B x → LvL [k, r] μ2 Z (L + 1) (B + 1 + (B + 60)) [x] := fun x hx => .cons (C := 0) (hx.le (Nat.le_refl _) (by omega) (Nat.le_refl _)) .nil (by omega)
  rcases hw with rfl | rfl
  · exact ⟨μ2.length, μ2 ++ [.lst [.ref μ.length]], ret_is (lst_one (bin_k c1 (y := mVar 2) (q := .int 0) rfl (ix_lst e2 (by decide) rfl))), outs_new ⟨l2.1, l2.2.2⟩ (by simp) (fin _ lv.1), (d2.app).mono (by omega), k2.trans Keep.app⟩
  · exact ⟨μ2.length, μ2 ++ [.lst [.tup l.reverse]], ret_is (lst_one (bin_k c1 (y := mVar 2) (q := .int 1) rfl (ix_lst e2 (by decide) rfl))), outs_new ⟨l2.1, l2.2.2⟩ (by simp) (fin _ lv.2), (d2.app).mono (by omega), k2.trans Keep.app⟩
theorem otI_any {v : Int} {L B : Nat} {w : Int} (h : Dk μ k c r N) (hN : N + 5 < 1000000) (hZ : bigZ ≤ Z) (hZ2 : Z ≤ bigZ + 1000) (hv : v.natAbs ≤ Z) {o3 : Option D} :
    ∃ (m : Nat) (μ' : Mem), otI [some (.ref k), some (.int v), some (.int w), o3] μ = .ok (.ret (.ref m)) μ' ∧ Outs k r μ' (Z + 16) (L + 1) (B + 1 + (B + 60)) m ∧ Dk μ' k c r (N + 3) ∧ Keep [k, r] μ μ' := by
  have hl := h.lt
  let X : List D := [.int (v + 1), .int (v - 1), .bl (decide (v = 1)), .int (0 - v), .int 1000000000001, .int 1000001, .int (v + 16), .str (toString v)]
  let μ1 : Mem := μ ++ [.lst X]
  have v40 : v.natAbs < 10 ^ 40 := by unfold bigZ at hZ2; exact Nat.lt_of_le_of_lt hv (Nat.lt_of_le_of_lt hZ2 (by decide))
  have lg : v.natAbs.log2 < 1920 := by
    by_cases h0 : v.natAbs = 0
    · rw [h0]; decide
    · have : v.natAbs < 2 ^ 1920 := Nat.lt_trans v40 (by decide)
      exact (Nat.log2_lt h0).mpr this
  have st : mB strL (mCons (mVar 1) mNil) [some (.ref k), some (.int v), some (.int w), o3] μ = .ok (.str (toString v)) μ := call1k (p := .int v) (μ1 := μ) rfl (by simp only [strL]; rw [if_pos lg])
  have c1 : mLst (mCons (mBin addD (mVar 1) (mC (.int 1))) (mCons (mBin subD (mVar 1) (mC (.int 1))) (mCons (mBin eqD (mVar 1) (mC (.int 1))) (mCons (mBin subD (mC (.int 0)) (mVar 1)) (mCons (mBin addD (mBin powD (mC (.int 10)) (mC (.int 12))) (mC (.int 1))) (mCons (mBin addD (mBin powD (mC (.int 10)) (mC (.int 6))) (mC (.int 1))) (mCons (mBin addD (mVar 1) (mC (.int 16))) (mCons (mB strL (mCons (mVar 1) (mNil))) (mNil))))))))) [some (.ref k), some (.int v), some (.int w), o3] μ = .ok (.ref μ.length) μ1 := by
    have a1 : mBin addD (mVar 1) (mC (.int 1)) [some (.ref k), some (.int v), some (.int w), o3] μ = .ok (.int (v + 1)) μ := rfl
    have a2 : mBin subD (mVar 1) (mC (.int 1)) [some (.ref k), some (.int v), some (.int w), o3] μ = .ok (.int (v - 1)) μ := rfl
    have a3 : mBin eqD (mVar 1) (mC (.int 1)) [some (.ref k), some (.int v), some (.int w), o3] μ = .ok (.bl (decide (v = 1))) μ := bin_k (p := .int v) (q := .int 1) (μ1 := μ) (μ2 := μ) rfl rfl eqI
    have a4 : mBin subD (mC (.int 0)) (mVar 1) [some (.ref k), some (.int v), some (.int w), o3] μ = .ok (.int (0 - v)) μ := rfl
    have a5 : mBin addD (mBin powD (mC (.int 10)) (mC (.int 12))) (mC (.int 1)) [some (.ref k), some (.int v), some (.int w), o3] μ = .ok (.int 1000000000001) μ := rfl
    have a6 : mBin addD (mBin powD (mC (.int 10)) (mC (.int 6))) (mC (.int 1)) [some (.ref k), some (.int v), some (.int w), o3] μ = .ok (.int 1000001) μ := rfl
    have a7 : mBin addD (mVar 1) (mC (.int 16)) [some (.ref k), some (.int v), some (.int w), o3] μ = .ok (.int (v + 16)) μ := rfl
    simp only [mLst, mCons, a1, a2, a3, a4, a5, a6, a7, st, mNil, Res.bind]
    rfl
  have d1 : Dk μ1 k c r N := h.app
  obtain ⟨y, μ2, q, y0, y1, d2, k2⟩ := draw (ρ := [some (.ref k), some (.int v), some (.int w), some (.ref μ.length)]) (e := mC (.int 8)) (j := 8) d1 (by omega) (by decide) (by decide) rfl rfl
  have e2 : μ2[μ.length]? = some (.lst X) := k2.get app_new (by simp; omega)
  have hy : y.toNat < X.length := by simp [X]; omega
  have l2 := d2.lt
  have all : ∀ x ∈ X, Lv [k, r] μ2 (Z + 16) 0 50 x := by
    intro x hx
    simp only [X, List.mem_cons, List.not_mem_nil, or_false] at hx
    unfold bigZ at hZ
    rcases hx with rfl | rfl | rfl | rfl | rfl | rfl | rfl | rfl
    · exact .int (by omega)
    · exact .int (by omega)
    · exact .bl
    · exact .int (by omega)
    · exact .int (by omega)
    · exact .int (by omega)
    · exact .int (by omega)
    · exact text_lv v40 (by decide)
  refine ⟨μ2.length, μ2 ++ [.lst [X[y.toNat]'hy]], (seq_set c1).trans (ret_is (lst_one (bin_k (p := .ref μ.length) (μ1 := μ1) rfl q (ix_lst e2 y0 (List.getElem?_eq_getElem hy))))), outs_new ⟨l2.1, l2.2.2⟩ (by simp) ?_, (d2.app).mono (by omega), (Keep.trans Keep.app k2).trans Keep.app⟩
  exact .cons (C := 0) ((all _ (List.getElem_mem _)).le (Nat.le_refl _) (Nat.zero_le _) (Nat.le_refl _)) .nil (by omega)
theorem isI {d : D} {t : String} (h : tyD d μ = some t) : isT1 "int" d μ = .ok (.bl (match d with | .int _ => true | .bl _ => true | _ => false)) μ := by
  cases d with
  | int i => simp [isT1, tyD, s_ii]
  | bl b => simp [isT1, tyD, s_bi]
  | non => have : subT "NoneType" "int" = false := by decide +kernel
           simp [isT1, tyD, this]
  | str s => have : subT "str" "int" = false := by decide +kernel
             simp [isT1, tyD, this]
  | tup l => have : subT "tuple" "int" = false := by decide +kernel
             simp [isT1, tyD, this]
  | frl l => have : subT "list" "int" = false := by decide +kernel
             simp [isT1, tyD, this]
  | fn f => cases h
  | ref n =>
    have a : subT "list" "int" = false := by decide +kernel
    have b : subT "dict" "int" = false := by decide +kernel
    simp only [tyD] at h
    split at h
    · rename_i l e; simp [isT1, tyD, e, a]
    · rename_i l e; simp [isT1, tyD, e, b]
    · rename_i l e; simp [isT1, tyD, e, b]
    · cases h
theorem otherwise_any {d : D} {L B : Nat} (h : Dk μ k c r N) (hN : N + 10 < 1000000) (hZ : bigZ ≤ Z) (hZ2 : Z ≤ bigZ + 1000) (hd : Lv [k, r] μ Z L B d) :
    ∃ (m : Nat) (μ' : Mem), m_law_otherwise [.ref k, d] μ = .ok (.ref m) μ' ∧ Outs k r μ' (Z + 16) (L + 1) (B + 1 + (B + 60)) m ∧ Dk μ' k c r (N + 5) ∧ Keep [k, r] μ μ' := by
  obtain ⟨w, μ1, q1, w0, w1, d1, k1⟩ := draw (ρ := startR 4 [.ref k, d]) (e := mC (.int 9)) (j := 9) h (by omega) (by decide) (by decide) rfl rfl
  have hd1 := hd.keep k1
  obtain ⟨t, ht⟩ := hd1.ty (Nat.lt_of_le_of_lt hZ2 (by unfold bigZ; decide))
  let ρ1 : Rho := [some (.ref k), some d, some (.int w), none]
  have begin_ : ∀ {m : MS}, sSeq (sSet 2 (mB m_law_next (mCons (mVar 0) (mCons (mC (.int 9)) (mNil))))) m (startR 4 [.ref k, d]) μ = m ρ1 μ1 := fun {m} => (seq_set q1).trans rfl
  have out : ∀ {μ' : Mem} {m : Nat}, Outs k r μ' Z (L + 1) (B + 1 + (B + 60)) m → Outs k r μ' (Z + 16) (L + 1) (B + 1 + (B + 60)) m := fun ⟨ys, a, b, c, e⟩ => ⟨ys, a, b, c, e.le (by omega) (Nat.le_refl _) (Nat.le_refl _)⟩
  have ci := isI ht
  have ct := tupT ht
  have tI : mTest (mUn (isT1 "int") (mVar 1)) ρ1 μ1 = _ := test_k (un_k (p := d) (μ1 := μ1) rfl ci)
  have tT : mTest (mUn (isT1 "tuple") (mVar 1)) ρ1 μ1 = .ok (isTupB d) μ1 := test_k (un_k (p := d) (μ1 := μ1) rfl ct)
  have rest : (∀ {b : Bool}, isTupB d = b → ∃ (m : Nat) (μ' : Mem), sSeq (sIf (mAnd (mTest (mUn (isT1 "tuple") (mVar 1))) (mTest (mBin (cmpI fun i j => decide (i < j)) (mVar 2) (mC (.int 2))))) otT (sNil)) otE ρ1 μ1 = .ok (.ret (.ref m)) μ' ∧ Outs k r μ' (Z + 16) (L + 1) (B + 1 + (B + 60)) m ∧ Dk μ' k c r (N + 5) ∧ Keep [k, r] μ μ') := fun {b} hb => by
    cases b with
    | false =>
      rw [hb] at tT
      obtain ⟨m, μ2, q2, o2, d2, k2⟩ := otE_any (w := w) (o3 := none) d1 (by omega) hZ hd1
      exact ⟨m, μ2, (seq_skip (and_f tT)).trans q2, out o2, d2.mono (by omega), k1.trans k2⟩
    | true =>
      rw [hb] at tT
      obtain ⟨l, rfl⟩ : ∃ l, d = .tup l := by
        cases d <;> first | exact ⟨_, rfl⟩ | cases hb
      have t2 : mTest (mBin (cmpI fun i j => decide (i < j)) (mVar 2) (mC (.int 2))) ρ1 μ1 = .ok (decide (w < 2)) μ1 := test_k (bin_k (p := .int w) (q := .int 2) (μ1 := μ1) (μ2 := μ1) rfl rfl rfl)
      by_cases hw : w < 2
      · rw [decide_eq_true hw] at t2
        obtain ⟨m, μ2, q2, o2, d2, k2⟩ := otT_any (w := w) (o3 := none) d1 (by omega) hd1
        exact ⟨m, μ2, seq_ret ((if_t (and_t tT t2)).trans q2), out o2, d2.mono (by omega), k1.trans k2⟩
      · rw [decide_eq_false hw] at t2
        obtain ⟨m, μ2, q2, o2, d2, k2⟩ := otE_any (w := w) (o3 := none) d1 (by omega) hZ hd1
        exact ⟨m, μ2, (seq_skip (and_t tT t2)).trans q2, out o2, d2.mono (by omega), k1.trans k2⟩
  by_cases hi : ∃ v, d = .int v
  · obtain ⟨v, rfl⟩ := hi
    have bB : mNot (mTest (mUn (isT1 "bool") (mVar 1))) ρ1 μ1 = .ok true μ1 := not_k (b := false) (test_k (un_k (p := .int v) (μ1 := μ1) rfl (by simp [isT1, tyD, s_ib])))
    have t5 : mTest (mBin (cmpI fun i j => decide (i < j)) (mVar 2) (mC (.int 5))) ρ1 μ1 = .ok (decide (w < 5)) μ1 := test_k (bin_k (p := .int w) (q := .int 5) (μ1 := μ1) (μ2 := μ1) rfl rfl rfl)
    by_cases hw : w < 5
    · rw [decide_eq_true hw] at t5
      have hv : v.natAbs ≤ Z := by cases hd with | int h => exact h
      obtain ⟨m, μ2, q2, o2, d2, k2⟩ := otI_any (L := L) (B := B) (v := v) (w := w) (o3 := none) d1 (by omega) hZ hZ2 hv
      refine ⟨m, μ2, run_is ?_, o2, d2.mono (by omega), k1.trans k2⟩
      rw [otherwise_eq]
      exact begin_.trans (seq_ret ((if_t (and_t tI (and_t bB t5))).trans q2))
    · rw [decide_eq_false hw] at t5
      obtain ⟨m, μ2, q2, o2, d2, k2⟩ := rest rfl
      refine ⟨m, μ2, run_is ?_, o2, d2, k2⟩
      rw [otherwise_eq]
      exact begin_.trans ((seq_skip (and_t tI (and_t bB t5))).trans q2)
  · obtain ⟨m, μ2, q2, o2, d2, k2⟩ := rest rfl
    refine ⟨m, μ2, run_is ?_, o2, d2, k2⟩
    rw [otherwise_eq]
    refine begin_.trans ((seq_skip (μ1 := μ1) ?_).trans q2)
    cases d with
    | int v => exact absurd ⟨v, rfl⟩ hi
    | bl b => exact and_t tI (and_f (not_k (b := true) (test_k (un_k (p := .bl b) (μ1 := μ1) rfl (by simp [isT1, tyD, s_bb])))))
    | _ => exact and_f tI
end
end K01

/-! S129: a thing spoilt: the way down, and back. -/
namespace K01
open PySem L2 RW
open Q
theorem while_no {c : MB} {body : MS} {n : Nat} {ρ : Rho} {μ μ1 : Mem} (h : c ρ μ = .ok false μ1) : whileL c body (n + 1) ρ μ = .ok (.nx ρ) μ1 := by
  unfold whileL
  simp only [h, onE, Bool.false_eq_true, if_false]
theorem while_go {c : MB} {body : MS} {n : Nat} {ρ ρ2 : Rho} {μ μ1 μ2 : Mem} (h : c ρ μ = .ok true μ1) (h2 : body ρ μ1 = .ok (.nx ρ2) μ2) : whileL c body (n + 1) ρ μ = whileL c body n ρ2 μ2 := by
  conv => lhs; unfold whileL
  simp only [h, onE, if_true, h2, Res.bind, endL]
section
variable {ex ex' : List Nat} {μ μ' : Mem} {Z : Nat}
mutual
theorem Lv.other (k : ∀ i ∈ ex', i ∈ ex ∨ μ.length ≤ i) : ∀ {L B : Nat} {d : D}, Lv ex μ Z L B d → Lv ex' μ Z L B d
  | _, _, _, .int h => .int h
  | _, _, _, .bl => .bl
  | _, _, _, .non => .non
  | _, _, _, .str h h2 => .str h h2
  | _, _, _, .tup0 => .tup0
  | _, _, _, .tup h => .tup (LvL.other k h)
  | _, _, _, .lst0 e ha => .lst0 e fun hm => (k _ hm).elim ha fun hl => by have := at_lt e; omega
  | _, _, _, .dic0 e ha => .dic0 e fun hm => (k _ hm).elim ha fun hl => by have := at_lt e; omega
  | _, _, _, .lst e ha h => .lst e (fun hm => (k _ hm).elim ha fun hl => by have := at_lt e; omega) (LvL.other k h)
theorem LvL.other (k : ∀ i ∈ ex', i ∈ ex ∨ μ.length ≤ i) : ∀ {L B : Nat} {l : List D}, LvL ex μ Z L B l → LvL ex' μ Z L B l
  | _, _, _, .nil => .nil
  | _, _, _, .cons h t hE => .cons (Lv.other k h) (LvL.other k t) hE
end
/-- the way to a hole: innermost first; into the hole goes a thing of level L and size B -/
inductive Chn (ex : List Nat) (μ : Mem) (Z L0 B0 : Nat) : List D → Nat → Nat → Prop
  | nil {L B : Nat} (hL : L ≤ L0) (hB : B ≤ B0) : Chn ex μ Z L0 B0 [] L B
  | cons {L B B1 B2 E : Nat} {l1 l2 : List D} {x : D} {R : List D} (h1 : LvL ex μ Z L B1 l1) (h2 : LvL ex μ Z L B2 l2) (hE : B1 + (B + 1) + B2 ≤ E) (t : Chn ex μ Z L0 B0 R (L + 1) E) : Chn ex μ Z L0 B0 (.tup [.tup (l1 ++ x :: l2), .int (l1.length : Int)] :: R) L B
variable {L0 B0 : Nat}
theorem Chn.keep (k : Keep ex μ μ') {R : List D} {L B : Nat} (h : Chn ex μ Z L0 B0 R L B) : Chn ex μ' Z L0 B0 R L B := by
  induction h with
  | nil a b => exact .nil a b
  | cons a b c _ ih => exact .cons (a.keep k) (b.keep k) c ih
theorem Chn.other (k : ∀ i ∈ ex', i ∈ ex ∨ μ.length ≤ i) {R : List D} {L B : Nat} (h : Chn ex μ Z L0 B0 R L B) : Chn ex' μ Z L0 B0 R L B := by
  induction h with
  | nil a b => exact .nil a b
  | cons a b c _ ih => exact .cons (a.other k) (b.other k) c ih
theorem Chn.le {Z' : Nat} (k : Z ≤ Z') {R : List D} {L B : Nat} (h : Chn ex μ Z L0 B0 R L B) : Chn ex μ Z' L0 B0 R L B := by
  induction h with
  | nil a b => exact .nil a b
  | cons a b c _ ih => exact .cons (a.le k (Nat.le_refl _) (Nat.le_refl _)) (b.le k (Nat.le_refl _) (Nat.le_refl _)) c ih
theorem Chn.down {R : List D} {L B L' B' : Nat} (h : Chn ex μ Z L0 B0 R L B) (hL : L' = L) (hB : B' ≤ B) : Chn ex μ Z L0 B0 R L' B' := by
  subst hL
  cases h with
  | nil a b => exact .nil a (by omega)
  | cons a b c t => exact .cons a b (by omega) t
theorem Chn.bnd {R : List D} {L B : Nat} (h : Chn ex μ Z L0 B0 R L B) : L + R.length ≤ L0 ∧ B ≤ B0 := by
  induction h with
  | nil a b => exact ⟨by simpa using a, b⟩
  | cons a b c _ ih => rw [List.length_cons]; omega
end
abbrev rhoS (k d p x : D) (o4 o5 o6 : Option D) : Rho := [some k, some d, some p, some x, o4, o5, o6]
noncomputable def spC : MB := mAnd (mTest (mUn (isT1 "tuple") (mVar 3))) (mAnd (mTest (mBin neE (mVar 3) (mTup (mNil)))) (mTest (mBin (cmpI fun i j => decide (j < i)) (mB m_law_next (mCons (mVar 0) (mCons (mC (.int 6)) (mNil)))) (mC (.int 0)))))
noncomputable def spB : MS := sSeq (sSet 4 (mB m_law_next (mCons (mVar 0) (mCons (mB lenL (mCons (mVar 3) (mNil))) (mNil)))))
    (sSeq (sExpr (mMt isLst appendM (mVar 2) (mCons (mTup (mCons (mVar 3) (mCons (mVar 4) (mNil)))) (mNil))))
    (sSet 3 (mBin idxA (mVar 3) (mVar 4))))
noncomputable def spR : MS := sSet 5 (mLst (mCons (mBin addD (mBin addD (mSlc (mVar 6) oNone (oSome (mVar 4))) (mB tupleL (mCons (mVar 5) (mNil)))) (mSlc (mVar 6) (oSome (mBin addD (mVar 4) (mC (.int 1)))) oNone)) (mNil)))
theorem spoilt_eq : b_law_spoilt = sSeq (sSet 2 (mLst (mNil))) (sSeq (sSet 3 (mVar 1)) (sSeq (whileL spC spB 1000)
    (sSeq (sSet 5 (mB m_law_otherwise (mCons (mVar 0) (mCons (mVar 3) (mNil)))))
    (sSeq (sFor (iRevD (mCons (mVar 2) (mNil))) (gTupM 2 (gConsM (gN 6) (gConsM (gN 4) (gNilM)))) spR)
    (sRet (mBin idxA (mBin addD (mVar 5) (mLst (mCons (mC .non) (mNil)))) (mC (.int 0)))))))) := rfl
section
variable {k c r N : Nat} {Z L0 B0 : Nat}
theorem split_at {l : List D} {i : Nat} (h : i < l.length) : ∃ l1 x l2, l = l1 ++ x :: l2 ∧ l1.length = i := by
  refine ⟨l.take i, l[i], l.drop (i + 1), ?_, by rw [List.length_take]; omega⟩
  rw [← List.drop_eq_getElem_cons h, List.take_append_drop]
theorem down : ∀ (L : Nat) {B n : Nat} {μ : Mem} {N : Nat} {p : Nat} {P : List D} {d x : D} {o4 o5 o6 : Option D}, L < n → Dk μ k c r N → N + 2 * L + 1 < 1000000 → B0 < 90000 → L0 < 900 → Z < 10 ^ 50 →
    p ≠ k → p ≠ c → p ≠ r → μ[p]? = some (.lst P) → Lv [k, r, p] μ Z L B x → Chn [k, r, p] μ Z L0 B0 P.reverse L B →
    ∃ (L' B' : Nat) (x' : D) (o4' : Option D) (P' : List D) (μ' : Mem), whileL spC spB n (rhoS (.ref k) d (.ref p) x o4 o5 o6) μ = .ok (.nx (rhoS (.ref k) d (.ref p) x' o4' o5 o6)) μ' ∧ Dk μ' k c r (N + 2 * L + 1) ∧ Keep [k, r, p] μ μ' ∧ μ'[p]? = some (.lst P') ∧ Lv [k, r, p] μ' Z L' B' x' ∧ Chn [k, r, p] μ' Z L0 B0 P'.reverse L' B' := by
  intro L
  induction L with
  | zero =>
    intro B n μ N p P d x o4 o5 o6 hn h hN hB0 hL0 hZ hk hc hr ep hx hP
    obtain ⟨n, rfl⟩ : ∃ m, n = m + 1 := ⟨n - 1, by omega⟩
    obtain ⟨t, ht⟩ := hx.ty hZ
    have ct := tupT ht
    refine ⟨0, B, x, o4, P, μ, while_no ?_, h.mono (by omega), .refl, ep, hx, hP⟩
    cases hx with
    | tup0 => exact and_t (test_k (un_k (p := .tup []) (μ1 := μ) rfl ct)) (and_f (test_k (bin_k (p := .tup []) (q := .tup []) (μ1 := μ) (μ2 := μ) rfl rfl rfl)))
    | int h => exact and_f (test_k (un_k (μ1 := μ) rfl ct))
    | bl => exact and_f (test_k (un_k (μ1 := μ) rfl ct))
    | non => exact and_f (test_k (un_k (μ1 := μ) rfl ct))
    | str h h2 => exact and_f (test_k (un_k (μ1 := μ) rfl ct))
    | lst0 e ha => exact and_f (test_k (un_k (μ1 := μ) rfl ct))
    | dic0 e ha => exact and_f (test_k (un_k (μ1 := μ) rfl ct))
  | succ L ih =>
    intro B n μ N p P d x o4 o5 o6 hn h hN hB0 hL0 hZ hk hc hr ep hx hP
    obtain ⟨n, rfl⟩ : ∃ m, n = m + 1 := ⟨n - 1, by omega⟩
    obtain ⟨t, ht⟩ := hx.ty hZ
    have ct := tupT ht
    have bnd := hP.bnd
    have no : isTupB x = false → ∃ (L' B' : Nat) (x' : D) (o4' : Option D) (P' : List D) (μ' : Mem), whileL spC spB (n + 1) (rhoS (.ref k) d (.ref p) x o4 o5 o6) μ = .ok (.nx (rhoS (.ref k) d (.ref p) x' o4' o5 o6)) μ' ∧ Dk μ' k c r (N + 2 * (L + 1) + 1) ∧ Keep [k, r, p] μ μ' ∧ μ'[p]? = some (.lst P') ∧ Lv [k, r, p] μ' Z L' B' x' ∧ Chn [k, r, p] μ' Z L0 B0 P'.reverse L' B' := fun hb =>
      ⟨L + 1, B, x, o4, P, μ, while_no (and_f (test_k (un_k (μ1 := μ) rfl (ct.trans (by rw [hb]))))), h.mono (by omega), .refl, ep, hx, hP⟩
    by_cases hb : isTupB x = false
    · exact no hb
    obtain ⟨l, rfl⟩ : ∃ l, x = .tup l := by
      cases x <;> first | exact ⟨_, rfl⟩ | exact absurd rfl hb
    have t1 : mTest (mUn (isT1 "tuple") (mVar 3)) (rhoS (.ref k) d (.ref p) (.tup l) o4 o5 o6) μ = .ok true μ := test_k (un_k (p := .tup l) (μ1 := μ) rfl ct)
    have t2 : mTest (mBin neE (mVar 3) (mTup (mNil))) (rhoS (.ref k) d (.ref p) (.tup l) o4 o5 o6) μ = .ok (!l.isEmpty) μ := test_k (bin_k (p := .tup l) (q := .tup []) (μ1 := μ) (μ2 := μ) rfl rfl rfl)
    by_cases hl : l = []
    · subst hl
      exact ⟨L + 1, B, .tup [], o4, P, μ, while_no (and_t t1 (and_f t2)), h.mono (by omega), .refl, ep, hx, hP⟩
    have hlv : LvL [k, r, p] μ Z L B l := by
      cases hx with
      | tup0 => exact absurd rfl hl
      | tup h => exact h
    have hlen := hlv.len
    have hl0 : 0 < l.length := by
      cases l with
      | nil => exact absurd rfl hl
      | cons a l => simp
    have t2' : mTest (mBin neE (mVar 3) (mTup (mNil))) (rhoS (.ref k) d (.ref p) (.tup l) o4 o5 o6) μ = .ok true μ := by
      rw [t2]
      cases l with
      | nil => exact absurd rfl hl
      | cons a l => rfl
    obtain ⟨y, μ1, q1, y0, y1, d1, k1⟩ := draw (ρ := rhoS (.ref k) d (.ref p) (.tup l) o4 o5 o6) (e := mC (.int 6)) (j := 6) h (by omega) (by decide) (by decide) rfl rfl
    have t3 : mTest (mBin (cmpI fun i j => decide (j < i)) (mB m_law_next (mCons (mVar 0) (mCons (mC (.int 6)) (mNil)))) (mC (.int 0))) (rhoS (.ref k) d (.ref p) (.tup l) o4 o5 o6) μ = .ok (decide (0 < y)) μ1 := test_k (bin_k (p := .int y) (q := .int 0) (μ1 := μ1) (μ2 := μ1) q1 rfl rfl)
    have k1' : Keep [k, r, p] μ μ1 := k1.mono fun i hi => .inl (by simp at hi ⊢; omega)
    have ep1 : μ1[p]? = some (.lst P) := k1.get ep (by simp; omega)
    by_cases hy : 0 < y
    · rw [decide_eq_true hy] at t3
      obtain ⟨i, μ2, q2, i0, i1, d2, k2⟩ := draw (ρ := rhoS (.ref k) d (.ref p) (.tup l) o4 o5 o6) (e := mB lenL (mCons (mVar 3) (mNil))) (j := (l.length : Int)) d1 (by omega) (by omega) (by omega) rfl (call1k (p := .tup l) (μ1 := μ1) rfl rfl)
      have k2' : Keep [k, r, p] μ1 μ2 := k2.mono fun i hi => .inl (by simp at hi ⊢; omega)
      have ep2 : μ2[p]? = some (.lst P) := k2.get ep1 (by simp; omega)
      obtain ⟨l1, x, l2, rfl, hi⟩ := split_at (l := l) (i := i.toNat) (by omega)
      have ei : i = (l1.length : Int) := by omega
      subst ei
      have hb2 := hP.bnd
      rw [List.length_reverse] at hb2
      have a1 : sExpr (mMt isLst appendM (mVar 2) (mCons (mTup (mCons (mVar 3) (mCons (mVar 4) (mNil)))) (mNil))) (rhoS (.ref k) d (.ref p) (.tup (l1 ++ x :: l2)) (some (.int (l1.length : Int))) o5 o6) μ2 = .ok (.nx (rhoS (.ref k) d (.ref p) (.tup (l1 ++ x :: l2)) (some (.int (l1.length : Int))) o5 o6)) (μ2.set p (.lst (P ++ [.tup [.tup (l1 ++ x :: l2), .int (l1.length : Int)]]))) :=
        app_lst rfl ep2 (isLst_of ep2) rfl (by omega)
      let μ3 : Mem := μ2.set p (.lst (P ++ [.tup [.tup (l1 ++ x :: l2), .int (l1.length : Int)]]))
      have k3 : Keep [k, r, p] μ2 μ3 := Keep.set (by simp)
      have d3 : Dk μ3 k c r (N + 1 + 1) := d2.keep (ex := [p]) (Keep.set (by simp)) (by simp; omega) (by simp; omega) (by simp; omega)
      have ep3 : μ3[p]? = some (.lst (P ++ [.tup [.tup (l1 ++ x :: l2), .int (l1.length : Int)]])) := set_at (at_lt ep2)
      have kk := (k1'.trans k2').trans k3
      obtain ⟨B1, Bx, B2, hE, v1, vx, v2⟩ := hlv.split
      have hP3 : Chn [k, r, p] μ3 Z L0 B0 (P ++ [D.tup [D.tup (l1 ++ x :: l2), D.int (l1.length : Int)]]).reverse L Bx := by
        rw [List.reverse_append]
        exact .cons (v1.keep kk) (v2.keep kk) hE (hP.keep kk)
      obtain ⟨L', B', x', o4', P', μ', q, a, b, e, f, g⟩ := ih (n := n) (d := d) (o4 := some (.int (l1.length : Int))) (o5 := o5) (o6 := o6) (by omega) d3 (by omega) hB0 hL0 hZ hk hc hr ep3 (vx.keep kk) hP3
      refine ⟨L', B', x', o4', P', μ', (while_go (and_t t1 (and_t t2' t3)) ?_).trans q, a.mono (by omega), kk.trans b, e, f, g⟩
      have ix : idxA (.tup (l1 ++ x :: l2)) (.int (l1.length : Int)) μ3 = .ok x μ3 := ix_tup (by omega) (by simp)
      exact (seq_set q2).trans ((seq_run a1).trans (set_is (i := 3) (bin_k (x := mVar 3) (y := mVar 4) (p := D.tup (l1 ++ x :: l2)) (q := D.int (l1.length : Int)) (μ1 := μ3) (μ2 := μ3) rfl rfl ix)))
    · rw [decide_eq_false hy] at t3
      exact ⟨L + 1, B, .tup l, o4, P, μ1, while_no (and_t t1 (and_t t2' t3)), d1.mono (by omega), k1', ep1, hx.keep k1', hP.keep k1'⟩
theorem cutF {l1 l2 : List D} {x : D} : cutD (l1 ++ x :: l2) none (some (l1.length : Int)) = l1 := by
  unfold cutD
  rw [HT.sIx_none, HT.sIx_nat, List.drop_zero, Nat.sub_zero, List.length_append, Nat.min_eq_left (by omega), List.take_left']
  rfl
theorem cutT {l1 l2 : List D} {x : D} : cutD (l1 ++ x :: l2) (some ((l1.length : Int) + 1)) none = l2 := by
  unfold cutD
  have e : ((l1.length : Int) + 1) = ((l1.length + 1 : Nat) : Int) := by omega
  rw [e, HT.sIx_none, HT.sIx_nat, List.length_append, List.length_cons, Nat.min_eq_left (by omega)]
  have : (l1 ++ x :: l2).drop (l1.length + 1) = l2 := by
    rw [← List.drop_drop, List.drop_left']
    · rfl
    · rfl
  rw [this, List.take_of_length_le (by omega)]
theorem slcF {ρ : Rho} {μ : Mem} {l1 l2 : List D} {x : D} {a e : MD} (ha : a ρ μ = .ok (.tup (l1 ++ x :: l2)) μ) (he : e ρ μ = .ok (.int (l1.length : Int)) μ) : mSlc a oNone (oSome e) ρ μ = .ok (.tup l1) μ := by
  simp only [mSlc, ha, oNone, oSome, he, Res.bind, slcD, cutF]
theorem slcT {ρ : Rho} {μ : Mem} {l1 l2 : List D} {x : D} {a e : MD} (ha : a ρ μ = .ok (.tup (l1 ++ x :: l2)) μ) (he : e ρ μ = .ok (.int ((l1.length : Int) + 1)) μ) : mSlc a (oSome e) oNone ρ μ = .ok (.tup l2) μ := by
  simp only [mSlc, ha, oNone, oSome, he, Res.bind, slcD, cutT]
theorem tup_add {a b : List D} {μ : Mem} (h : a.length + b.length ≤ 100000) : addD (.tup a) (.tup b) μ = .ok (.tup (a ++ b)) μ := by
  have : a.length + b.length ≤ sizeLine := by rw [sizeLine_eq]; omega
  simp only [addD, if_pos this]
theorem spR_step {μ : Mem} {m : Nat} {ys l1 l2 : List D} {x d p z : D} {k : D} (e : μ[m]? = some (.lst ys)) (hl : l1.length + ys.length + l2.length ≤ 100000) :
    spR (rhoS k d p z (some (.int (l1.length : Int))) (some (.ref m)) (some (.tup (l1 ++ x :: l2)))) μ = .ok (.nx (rhoS k d p z (some (.int (l1.length : Int))) (some (.ref μ.length)) (some (.tup (l1 ++ x :: l2))))) (μ ++ [.lst [.tup (l1 ++ ys ++ l2)]]) :=
  set_is (lst_one (bin_k (p := .tup (l1 ++ ys)) (q := .tup l2) (μ1 := μ) (μ2 := μ)
    (bin_k (p := .tup l1) (q := .tup ys) (μ1 := μ) (μ2 := μ) (slcF rfl rfl) (call1k (p := .ref m) (μ1 := μ) rfl (by simp only [tupleL, e])) (tup_add (by omega)))
    (slcT rfl (bin_k (p := .int (l1.length : Int)) (q := .int 1) (μ1 := μ) (μ2 := μ) rfl rfl rfl)) (tup_add (by rw [List.length_append]; omega))))
theorem rebuild {chk : Mem → Prop} : ∀ {R : List D} {L B : Nat} {μ : Mem} {m : Nat} {o4 o6 : Option D} {d p z : D}, Chn [k, r] μ Z L0 B0 R L B → B0 < 40000 → k < μ.length → r < μ.length → Outs k r μ Z (L + 1) (2 * B + 61) m → (∀ μ', Keep [] μ μ' → chk μ') →
    ∃ (m' : Nat) (o4' o6' : Option D) (μ' : Mem), forL chk (gTupM 2 (gConsM (gN 6) (gConsM (gN 4) (gNilM)))) spR R (rhoS (.ref k) d p z o4 (some (.ref m)) o6) μ = .ok (.nx (rhoS (.ref k) d p z o4' (some (.ref m')) o6')) μ' ∧ Outs k r μ' Z (L0 + 1) (2 * B0 + 61) m' ∧ Keep [] μ μ' := by
  intro R
  induction R with
  | nil =>
    intro L B μ m o4 o6 d p z hc hB hk hr ho hchk
    have b := hc.bnd
    obtain ⟨ys, e, a, f, g⟩ := ho
    exact ⟨m, o4, o6, μ, for_nil (hchk _ .refl), ⟨ys, e, a, f, g.le (Nat.le_refl _) (by simp at b; omega) (by omega)⟩, .refl⟩
  | cons y R ih =>
    intro L B μ m o4 o6 d p z hc hB hk hr ho hchk
    have b := hc.bnd
    cases hc with
    | cons h1 h2 hE t =>
      rename_i B1 B2 E l1 l2 x
      have tb := t.bnd
      obtain ⟨ys, e, a, f, g⟩ := ho
      have n1 := h1.len
      have n2 := h2.len
      have kp : Keep [] μ (μ ++ [.lst [.tup (l1 ++ ys ++ l2)]]) := Keep.app
      have kp' : Keep [k, r] μ (μ ++ [.lst [.tup (l1 ++ ys ++ l2)]]) := Keep.app
      have st := spR_step (k := .ref k) (d := d) (p := p) (z := z) (x := x) (l1 := l1) (l2 := l2) e (by omega)
      have lv : LvL [k, r] μ Z (L + 1 + 1) (2 * E + 61) [.tup (l1 ++ ys ++ l2)] := by
        have v := ((h1.le (Nat.le_refl _) (Nat.le_succ L) (Nat.le_refl _)).append g).append (h2.le (Nat.le_refl _) (Nat.le_succ L) (Nat.le_refl _))
        exact .cons (C := 0) (.tup v) .nil (by omega)
      obtain ⟨m', o4', o6', μ', q, oo, kk⟩ := ih (o4 := some (.int (l1.length : Int))) (o6 := some (.tup (l1 ++ x :: l2))) (d := d) (p := p) (z := z) (t.keep kp') hB (by simp; omega) (by simp; omega) (outs_new ⟨hk, hr⟩ (by simp) lv) (fun μ2 k2 => hchk _ (kp.trans k2))
      exact ⟨m', o4', o6', μ', (for_nx (hchk _ .refl) rfl st).trans q, oo, kp.trans kk⟩
theorem spoilt_any {d : D} {L B : Nat} {μ : Mem} (h : Dk μ k c r N) (hN : N + 2 * L + 20 < 1000000) (hZ : bigZ ≤ Z) (hZ2 : Z ≤ bigZ + 1000) (hL : L < 900) (hB : B < 40000) (hd : Lv [k, r] μ Z L B d) :
    ∃ (d' : D) (μ' : Mem), m_law_spoilt [.ref k, d] μ = .ok d' μ' ∧ Lv [k, r] μ' (Z + 16) (L + 1) (2 * B + 61) d' ∧ Dk μ' k c r (N + 2 * L + 8) ∧ Keep [k, r] μ μ' := by
  have lt := h.lt
  let p := μ.length
  let μ1 : Mem := μ ++ [.lst []]
  have ep : μ1[p]? = some (.lst []) := app_new
  have d1 : Dk μ1 k c r N := h.app
  have hd1 : Lv [k, r, p] μ1 Z L B d := (hd.other (ex' := [k, r, p]) fun i hi => by simp [p] at hi ⊢; omega).keep Keep.app
  have hz : Z < 10 ^ 50 := Nat.lt_of_le_of_lt hZ2 (by unfold bigZ; decide)
  obtain ⟨L1, B1, x, o4, P, μ2, q2, d2, k2, e2, v2, c2⟩ := down (L0 := L) (B0 := B) L (n := 1000) (d := d) (o4 := none) (o5 := none) (o6 := none) (by omega) d1 (by omega) (by omega) hL hz (by omega) (by omega) (by omega) ep hd1 (.nil (Nat.le_refl _) (Nat.le_refl _))
  have b2 := c2.bnd
  have v2' : Lv [k, r] μ2 Z L1 B1 x := v2.other fun i hi => .inl (by simp at hi ⊢; omega)
  have c2' : Chn [k, r] μ2 Z L B P.reverse L1 B1 := c2.other fun i hi => .inl (by simp at hi ⊢; omega)
  obtain ⟨m, μ3, q3, o3, d3, k3⟩ := otherwise_any d2 (by omega) hZ hZ2 v2'
  have e3 : μ3[p]? = some (.lst P) := k3.get e2 (by simp; omega)
  have lt3 := d3.lt
  have o3' : Outs k r μ3 (Z + 16) (L1 + 1) (2 * B1 + 61) m := by
    obtain ⟨ys, a, b, f, g⟩ := o3
    exact ⟨ys, a, b, f, g.le (Nat.le_refl _) (Nat.le_refl _) (by omega)⟩
  obtain ⟨m', o4', o6', μ4, q4, o4x, k4⟩ := rebuild (chk := fun μ' => μ'[p]? = some (.lst P)) (o4 := o4) (o6 := none) (d := d) (p := .ref p) (z := x) ((c2'.keep k3).le (Nat.le_add_right Z 16)) hB lt3.1 lt3.2.2 o3' (fun μ' kk => kk.get e3 (by simp))
  obtain ⟨ys, ey, hm, hy, gy⟩ := o4x
  have k4' : Keep [k, r] μ3 μ4 := k4.mono fun i hi => (List.not_mem_nil hi).elim
  let μ5 : Mem := μ4 ++ [.lst [.non]]
  let μ6 : Mem := μ5 ++ [.lst (ys ++ [.non])]
  have k6 : Keep [k, r] μ4 μ6 := Keep.trans Keep.app Keep.app
  have d4 : Dk μ4 k c r (N + 2 * L + 1 + 5) := d3.keep k4 (by simp) (by simp) (by simp)
  have ey5 : μ5[m']? = some (.lst ys) := app_at ey
  have en5 : μ5[μ4.length]? = some (.lst [.non]) := app_new
  have e6 : μ6[μ5.length]? = some (.lst (ys ++ [.non])) := app_new
  obtain ⟨d', rest, hr, hv⟩ : ∃ d' rest, ys ++ [.non] = d' :: rest ∧ Lv [k, r] μ4 (Z + 16) (L + 1) (2 * B + 61) d' := by
    cases ys with
    | nil => exact ⟨.non, [], rfl, .non⟩
    | cons y ys =>
      obtain ⟨C, hC, hv⟩ := gy.mem y (List.mem_cons_self ..)
      exact ⟨y, ys ++ [.non], rfl, hv.le (Nat.le_refl _) (Nat.le_refl _) (by omega)⟩
  have kall : Keep [k, r] μ μ6 := by
    have a : Keep [k, r] μ μ2 := (Keep.trans (Keep.app (cs := [.lst []])) k2).mono fun i hi => by simp [p] at hi ⊢; omega
    exact ((a.trans k3).trans k4').trans k6
  refine ⟨d', μ6, run_is ?_, hv.keep k6, (d4.app.app).mono (by omega), kall⟩
  rw [spoilt_eq]
  refine (seq_set (d := .ref p) (μ1 := μ1) rfl).trans ((seq_set (d := d) (μ1 := μ1) rfl).trans ((seq_run q2).trans ((seq_set (call2k (p := .ref k) (q := x) (μ1 := μ2) (μ2 := μ2) rfl rfl q3)).trans ?_)))
  refine (seq_run (ρ' := rhoS (.ref k) d (.ref p) x o4' (some (.ref m')) o6') (μ' := μ4) ?_).trans (ret_is ?_)
  · refine (for_to (items := P.reverse) (chk := fun μ' => μ'[p]? = some (.lst P)) (μ1 := μ3) ?_).trans q4
    show iRevD (mCons (mVar 2) mNil) (rhoS (.ref k) d (.ref p) x o4 (some (.ref m)) none) μ3 = _
    simp only [iRevD, mCons, mNil, mVar, rhoS, Res.bind, itSeq, List.getElem?_cons_succ, List.getElem?_cons_zero, e3]
  · refine bin_k (p := .ref μ5.length) (q := .int 0) (μ1 := μ6) (μ2 := μ6) (bin_k (p := .ref m') (q := .ref μ4.length) (μ1 := μ4) (μ2 := μ5) rfl rfl (catL_ok ey5 en5 (by simp; omega))) rfl (ix_lst e6 (by decide) ?_)
    rw [hr]; rfl
end
end K01

/-! S130: houses at bounds and beyond them. -/
namespace K01
open PySem L2 RW
open Q
/-- a thing without lists: its size -/
def flat : Nat → D → Option Nat
  | _, .int i => if i.natAbs ≤ bigZ then some 0 else none
  | _, .bl _ => some 0
  | _, .non => some 0
  | _, .tup [] => some 0
  | L + 1, .tup l => l.foldr (fun x s => match flat L x, s with
    | some a, some b => some (a + 1 + b)
    | _, _ => none) (some 0)
  | _, _ => none
section
variable {ex : List Nat} {μ : Mem}
theorem flat_lv : ∀ (L : Nat) (d : D) (b : Nat), flat L d = some b → Lv ex μ bigZ L b d := by
  intro L
  induction L with
  | zero =>
    intro d b h
    cases d with
    | int i =>
      simp only [flat] at h
      split at h
      · rename_i hi; exact .int hi
      · cases h
    | bl => exact .bl
    | non => exact .non
    | tup l =>
      cases l with
      | nil => exact .tup0
      | cons a l => simp [flat] at h
    | _ => simp [flat] at h
  | succ L ih =>
    intro d b h
    cases d with
    | int i =>
      simp only [flat] at h
      split at h
      · rename_i hi; exact .int hi
      · cases h
    | bl => exact .bl
    | non => exact .non
    | tup l =>
      have key : ∀ (l : List D) (b : Nat), l.foldr (fun x s => match flat L x, s with
          | some a, some b => some (a + 1 + b)
          | _, _ => none) (some 0) = some b → LvL ex μ bigZ L b l := by
        intro l
        induction l with
        | nil => intro b _; exact .nil
        | cons x l ihl =>
          intro b h
          rw [List.foldr_cons] at h
          split at h
          · rename_i a c ea ec
            cases h
            exact .cons (ih x a ea) (ihl c ec) (Nat.le_refl _)
          · cases h
      cases l with
      | nil => exact .tup0
      | cons a l =>
        simp only [flat] at h
        exact .tup (key _ b h)
    | _ => simp [flat] at h
def flatB (d : D) : Bool := match flat 5 d with
  | some b => decide (b ≤ 1000)
  | none => false
theorem flatB_lv {d : D} (h : flatB d = true) : Lv ex μ bigZ 5 1000 d := by
  unfold flatB at h
  split at h
  · rename_i b e
    exact (flat_lv 5 d b e).le (Nat.le_refl _) (Nat.le_refl _) (of_decide_eq_true h)
  · cases h
/-- the list at m: no more than n things -/
def Got (ex : List Nat) (μ : Mem) (m n : Nat) : Prop := ∃ ys, μ[m]? = some (.lst ys) ∧ ys.length ≤ n ∧ ∀ y ∈ ys, Lv ex μ bigZ 5 1000 y
theorem lst_flat {ys : List D} (h : ys.all flatB = true) : Got ex (μ ++ [.lst ys]) μ.length ys.length :=
  ⟨ys, app_new, Nat.le_refl _, fun y hy => flatB_lv (List.all_eq_true.mp h y hy)⟩
theorem add_step {ρ : Rho} {m n : Nat} {ex' : List Nat} {e : MD} {ys' : List D} (h1 : ρ[1]? = some (some (.ref m))) (g : Got ex μ m n) (he : e ρ μ = .ok (.ref μ.length) (μ ++ [.lst ys'])) (hf : ys'.all flatB = true) (hn : n + ys'.length ≤ 1000) (hx : ∀ i ∈ ex', i ∈ ex ∨ μ.length ≤ i) :
    ∃ μ', mBin addD (mVar 1) e ρ μ = .ok (.ref (μ.length + 1)) μ' ∧ Got ex' μ' (μ.length + 1) (n + ys'.length) ∧ Keep [] μ μ' ∧ μ'.length = μ.length + 2 := by
  obtain ⟨ys, em, hl, hy⟩ := g
  let μ1 : Mem := μ ++ [.lst ys']
  have e1 : μ1[m]? = some (.lst ys) := app_at em
  have e2 : μ1[μ.length]? = some (.lst ys') := app_new
  have m1 : mVar 1 ρ μ = .ok (.ref m) μ := by simp only [mVar, h1]
  have l1 : μ1.length = μ.length + 1 := by simp [μ1]
  have ca := catL_ok e1 e2 (by omega)
  rw [l1] at ca
  refine ⟨μ1 ++ [.lst (ys ++ ys')], bin_k m1 he ca, ⟨ys ++ ys', by rw [← l1]; exact app_new, by rw [List.length_append]; omega, fun y hm => ?_⟩, Keep.trans Keep.app Keep.app, by simp [μ1]⟩
  rcases List.mem_append.mp hm with hm | hm
  · exact (((hy y hm).other hx).keep Keep.app).keep Keep.app
  · exact flatB_lv (List.all_eq_true.mp hf y hm)
theorem append_step {ρ : Rho} {m n : Nat} {e : MD} {y : D} {μ1 : Mem} (h1 : ρ[1]? = some (some (.ref m))) (g : Got ex μ m n) (hm : m ∈ ex) (he : e ρ μ = .ok y μ1) (k1 : Keep [] μ μ1) (hy : Lv ex μ1 bigZ 5 1000 y) (hn : n ≤ 1000) :
    ∃ μ', sExpr (mMt isLst appendM (mVar 1) (mCons e mNil)) ρ μ = .ok (.nx ρ) μ' ∧ Got ex μ' m (n + 1) ∧ Keep [m] μ μ' := by
  obtain ⟨ys, em, hl, hys⟩ := g
  have m1 : mVar 1 ρ μ = .ok (.ref m) μ := by simp only [mVar, h1]
  have e1 : μ1[m]? = some (.lst ys) := k1.get em (by simp)
  have ks : Keep [m] μ1 (μ1.set m (.lst (ys ++ [y]))) := Keep.set (by simp)
  have k1' : Keep [m] μ μ1 := k1.mono fun i hi => (List.not_mem_nil hi).elim
  have kx : ∀ {a b : Mem}, Keep [m] a b → Keep ex a b := fun k => k.mono fun i hi => .inl (by rw [List.mem_singleton.mp hi]; exact hm)
  refine ⟨_, app_lst m1 e1 (isLst_of em) he (by omega), ⟨ys ++ [y], set_at (at_lt e1), by simp; omega, fun z hz => ?_⟩, k1'.trans ks⟩
  rcases List.mem_append.mp hz with hz | hz
  · exact ((hys z hz).keep (kx k1')).keep (kx ks)
  · rw [List.mem_singleton.mp hz]; exact hy.keep (kx ks)
theorem loop_app {ρ0 : Rho} {i m : Nat} {e : MD} {chk : Mem → Prop} {μ0 : Mem} (hm : m ∈ ex) (h1 : ∀ o, (ρ0.set i o)[1]? = some (some (.ref m))) (hc : ∀ μ, Keep [m] μ0 μ → chk μ) : ∀ (its : List D) {o : Option D} {μ : Mem} {n : Nat},
    (∀ d ∈ its, ∀ μ, Keep [m] μ0 μ → ∃ y μ1, e (ρ0.set i (some d)) μ = .ok y μ1 ∧ Keep [] μ μ1 ∧ Lv ex μ1 bigZ 5 1000 y) → Keep [m] μ0 μ → Got ex μ m n → n + its.length ≤ 1000 →
    ∃ o' μ', forL chk (gN i) (sExpr (mMt isLst appendM (mVar 1) (mCons e mNil))) its (ρ0.set i o) μ = .ok (.nx (ρ0.set i o')) μ' ∧ Got ex μ' m (n + its.length) ∧ Keep [m] μ0 μ' := by
  intro its
  induction its with
  | nil => intro o μ n _ k g _; exact ⟨o, μ, for_nil (hc _ k), g, k⟩
  | cons d its ih =>
    intro o μ n h k g hn
    rw [List.length_cons] at hn
    obtain ⟨y, μ1, q1, k1, v1⟩ := h d (List.mem_cons_self ..) μ k
    obtain ⟨μ2, q2, g2, k2⟩ := append_step (h1 (some d)) g hm q1 k1 v1 (by omega)
    obtain ⟨o', μ', q, g', k'⟩ := ih (o := some d) (fun z hz => h z (List.mem_cons_of_mem _ hz)) (k.trans k2) g2 (by omega)
    refine ⟨o', μ', (for_nx (hc _ k) (μ1 := μ) (ρ1 := ρ0.set i (some d)) ?_ q2).trans q, ?_, k'⟩
    · show Res.ok ((ρ0.set i o).set i (some d)) μ = _
      rw [List.set_set]
    · rw [List.length_cons, show n + (its.length + 1) = n + 1 + its.length by omega]; exact g'
theorem tup_range {ρ : Rho} {re te : MD} {f : Int → D} {n : Nat} (hr : re ρ μ = .ok (.int (n : Int)) μ) (hn : n ≤ 1000) (hf : ∀ (j : Int) (μ' : Mem), te ((wipeR ρ [7]).set 7 (some (.int j))) μ' = .ok (f j) μ') :
    ∃ μ', mB tupleL (mCons (mComp (iRange1 (mCons re mNil)) (gN 7) mYes te [7]) mNil) ρ μ = .ok (.tup ((List.range n).map fun (i : Nat) => f (0 + (i : Int)))) μ' ∧ Keep [] μ μ' := by
  obtain ⟨μ', q, k⟩ := comp_k (it := iRange1 (mCons re mNil)) (g := gN 7) (te := te) (own := [7]) (ρ := ρ) (ex := []) (fun (i : Nat) => D.int (0 + (i : Int))) (fun (i : Nat) => f (0 + (i : Int))) (List.range n)
    (ir1 (μ := μ) hr (by omega)) (fun _ _ => trivial) (by rw [List.length_range]; omega)
    (fun x hx μ' k => ⟨_, μ', rfl, hf _ μ', .refl⟩)
  have e : (μ' ++ [Cell.lst ((List.range n).map fun (i : Nat) => f (0 + (i : Int)))])[μ'.length]? = some (.lst ((List.range n).map fun (i : Nat) => f (0 + (i : Int)))) := app_new
  exact ⟨μ' ++ [Cell.lst ((List.range n).map fun (i : Nat) => f (0 + (i : Int)))], call1k q (by simp only [tupleL, e]), k.trans Keep.app⟩
theorem tup1k {ρ : Rho} {x : MD} {a : D} {μ1 : Mem} (h1 : x ρ μ = .ok a μ1) : mTup (mCons x mNil) ρ μ = .ok (.tup [a]) μ1 := by
  simp only [mTup, mCons, mNil, h1, Res.bind]; rfl
theorem tup2k {ρ : Rho} {x y : MD} {a b : D} {μ1 μ2 : Mem} (h1 : x ρ μ = .ok a μ1) (h2 : y ρ μ1 = .ok b μ2) : mTup (mCons x (mCons y mNil)) ρ μ = .ok (.tup [a, b]) μ2 := by
  simp only [mTup, mCons, mNil, h1, h2, Res.bind]; rfl
theorem tup5k {ρ : Rho} {x y z u v : MD} {a b c d e : D} {μ1 μ2 μ3 μ4 μ5 : Mem} (h1 : x ρ μ = .ok a μ1) (h2 : y ρ μ1 = .ok b μ2) (h3 : z ρ μ2 = .ok c μ3) (h4 : u ρ μ3 = .ok d μ4) (h5 : v ρ μ4 = .ok e μ5) : mTup (mCons x (mCons y (mCons z (mCons u (mCons v mNil))))) ρ μ = .ok (.tup [a, b, c, d, e]) μ5 := by
  simp only [mTup, mCons, mNil, h1, h2, h3, h4, h5, Res.bind]; rfl
end
/-! ### the text -/
abbrev pD (a b l : Int) (n f : D) : D := .tup [.int a, .int b, .int l, n, f]
abbrev hD (R : Int) (l : List D) : D := .tup [.int R, .tup l]
abbrev tD (a b : Int) : D := .tup [.int a, .int b]
abbrev edA : List D := [hD 1 [], hD 0 [], hD 2 [], hD 1 [pD 0 1 1 (.tup []) (.tup [])], hD 2 [pD 0 1 1 (.tup []) (.tup [])], hD 2 [pD 1 0 1 (.tup []) (.tup [])]]
abbrev edB : List D := [hD 2 [pD 0 0 1 (.tup []) (.tup [])], hD 2 [pD 0 1 1000000000000 (.tup []) (.tup [])], hD 2 [pD 0 1 1000000000001 (.tup []) (.tup [])]]
abbrev edC : List D := [hD 2 [pD 0 1 0 (.tup []) (.tup [])], hD 3 [pD 0 1 1 (.tup []) (.tup []), pD 0 1 1 (.tup []) (.tup [])]]
abbrev edD : List D := [hD 4 [pD 0 1 1 (.tup []) (.tup []), pD 1 2 1 (.tup []) (.tup []), pD 0 2 1 (.tup []) (.tup [])]]
abbrev edG : List D := [.tup [tD 0 1], .tup [tD 1 1], .tup [tD 9 1], .tup [tD 10 1], .tup [tD 1 0], .tup [tD 1 1000000], .tup [tD 1 1000001]]
abbrev edF : List D := [.tup [tD 0 1], .tup [tD 9 (-1)], .tup [tD 10 1], .tup [tD (-1) 1], .tup [tD 0 0], .tup [tD 0 2], .tup [.tup [.int 0, .bl true]], .tup [tD 0 1, tD 0 (-1)]]
noncomputable def edE0 : MS := sFor (iSeq (mLst (mCons (mC (.int 16)) (mCons (mC (.int 17)) (mNil))))) (gN 2) (sExpr (mMt isLst appendM (mVar 1) (mCons (mTup (mCons (mVar 2) (mCons (mB tupleL (mCons (mComp (iRange1 (mCons (mBin subD (mVar 2) (mC (.int 1))) (mNil))) (gN 7) (mYes) (mTup (mCons (mVar 7) (mCons (mBin addD (mVar 7) (mC (.int 1))) (mCons (mC (.int 1)) (mCons (mTup (mNil)) (mCons (mTup (mNil)) (mNil))))))) [7]) (mNil))) (mNil)))) (mNil))))
noncomputable def exN : MD := mTup (mCons (mC (.int 2)) (mCons (mTup (mCons (mTup (mCons (mC (.int 0)) (mCons (mC (.int 1)) (mCons (mC (.int 10)) (mCons (mVar 3) (mCons (mTup (mNil)) (mNil))))))) (mNil))) (mNil)))
noncomputable def exF : MD := mTup (mCons (mC (.int 2)) (mCons (mTup (mCons (mTup (mCons (mC (.int 0)) (mCons (mC (.int 1)) (mCons (mC (.int 10)) (mCons (mTup (mNil)) (mCons (mVar 4) (mNil))))))) (mNil))) (mNil)))
noncomputable def itG : MD := mLst (mCons (mTup (mCons (mTup (mCons (mC (.int 0)) (mCons (mC (.int 1)) (mNil)))) (mNil))) (mCons (mTup (mCons (mTup (mCons (mC (.int 1)) (mCons (mC (.int 1)) (mNil)))) (mNil))) (mCons (mTup (mCons (mTup (mCons (mC (.int 9)) (mCons (mC (.int 1)) (mNil)))) (mNil))) (mCons (mTup (mCons (mTup (mCons (mC (.int 10)) (mCons (mC (.int 1)) (mNil)))) (mNil))) (mCons (mTup (mCons (mTup (mCons (mC (.int 1)) (mCons (mC (.int 0)) (mNil)))) (mNil))) (mCons (mTup (mCons (mTup (mCons (mC (.int 1)) (mCons (mBin powD (mC (.int 10)) (mC (.int 6))) (mNil)))) (mNil))) (mCons (mTup (mCons (mTup (mCons (mC (.int 1)) (mCons (mBin addD (mBin powD (mC (.int 10)) (mC (.int 6))) (mC (.int 1))) (mNil)))) (mNil))) (mNil))))))))
noncomputable def itH : MD := mLst (mCons (mTup (mCons (mTup (mCons (mC (.int 1)) (mCons (mC (.int 2)) (mNil)))) (mCons (mTup (mCons (mC (.int 1)) (mCons (mC (.int 3)) (mNil)))) (mNil)))) (mCons (mTup (mCons (mTup (mCons (mC (.int 2)) (mCons (mC (.int 1)) (mNil)))) (mCons (mTup (mCons (mC (.int 1)) (mCons (mC (.int 1)) (mNil)))) (mNil)))) (mCons (mLst (mCons (mTup (mCons (mC (.int 1)) (mCons (mC (.int 1)) (mNil)))) (mNil))) (mCons (mTup (mCons (mLst (mCons (mC (.int 1)) (mCons (mC (.int 1)) (mNil)))) (mNil))) (mCons (mTup (mCons (mTup (mCons (mC (.int 1)) (mNil))) (mNil))) (mCons (mTup (mCons (mTup (mCons (mC (.bl true)) (mCons (mC (.int 1)) (mNil)))) (mNil))) (mCons (mTup (mCons (mTup (mCons (mC (.int 1)) (mCons (mC (.bl true)) (mNil)))) (mNil))) (mNil))))))))
noncomputable def itF : MD := mLst (mCons (mTup (mCons (mTup (mCons (mC (.int 0)) (mCons (mC (.int 1)) (mNil)))) (mNil))) (mCons (mTup (mCons (mTup (mCons (mC (.int 9)) (mCons (mUn negD (mC (.int 1))) (mNil)))) (mNil))) (mCons (mTup (mCons (mTup (mCons (mC (.int 10)) (mCons (mC (.int 1)) (mNil)))) (mNil))) (mCons (mTup (mCons (mTup (mCons (mUn negD (mC (.int 1))) (mCons (mC (.int 1)) (mNil)))) (mNil))) (mCons (mTup (mCons (mTup (mCons (mC (.int 0)) (mCons (mC (.int 0)) (mNil)))) (mNil))) (mCons (mTup (mCons (mTup (mCons (mC (.int 0)) (mCons (mC (.int 2)) (mNil)))) (mNil))) (mCons (mTup (mCons (mTup (mCons (mC (.int 0)) (mCons (mC (.bl true)) (mNil)))) (mNil))) (mCons (mTup (mCons (mTup (mCons (mC (.int 0)) (mCons (mC (.int 1)) (mNil)))) (mCons (mTup (mCons (mC (.int 0)) (mCons (mUn negD (mC (.int 1))) (mNil)))) (mNil)))) (mNil)))))))))
noncomputable def edE1 : MS := sFor (iSeq itG) (gN 3) (sExpr (mMt isLst appendM (mVar 1) (mCons exN (mNil))))
noncomputable def edE2 : MS := sFor (iSeq itH) (gN 3) (sExpr (mMt isLst appendM (mVar 1) (mCons exN (mNil))))
noncomputable def edE3 : MS := sFor (iSeq itF) (gN 4) (sExpr (mMt isLst appendM (mVar 1) (mCons exF (mNil))))
noncomputable def exM : MD := mTup (mCons (mC (.int 2)) (mCons (mTup (mCons (mTup (mCons (mC (.int 0)) (mCons (mC (.int 1)) (mCons (mC (.int 20)) (mCons (mB tupleL (mCons (mComp (iRange1 (mCons (mVar 5) (mNil))) (gN 7) (mYes) (mTup (mCons (mBin addD (mVar 7) (mC (.int 1))) (mCons (mC (.int 1)) (mNil)))) [7]) (mNil))) (mCons (mTup (mNil)) (mNil))))))) (mNil))) (mNil)))
noncomputable def exL : MD := mTup (mCons (mC (.int 2)) (mCons (mTup (mCons (mTup (mCons (mC (.int 0)) (mCons (mC (.int 1)) (mCons (mC (.int 20)) (mCons (mTup (mNil)) (mCons (mB tupleL (mCons (mComp (iRange1 (mCons (mVar 5) (mNil))) (gN 7) (mYes) (mTup (mCons (mVar 7) (mCons (mC (.int 1)) (mNil)))) [7]) (mNil))) (mNil))))))) (mNil))) (mNil)))
noncomputable def edE4 : MS := sFor (iSeq (mLst (mCons (mC (.int 12)) (mCons (mC (.int 13)) (mNil))))) (gN 5) (sExpr (mMt isLst appendM (mVar 1) (mCons exM (mNil))))
noncomputable def edE5 : MS := sFor (iSeq (mLst (mCons (mC (.int 6)) (mCons (mC (.int 7)) (mNil))))) (gN 5) (sExpr (mMt isLst appendM (mVar 1) (mCons exL (mNil))))
noncomputable def exS : MD := mB tupleL (mCons (mComp (iRange1 (mCons (mC (.int 6)) (mNil))) (gN 7) (mYes) (mTup (mCons (mBin addD (mVar 7) (mC (.int 1))) (mCons (mC (.int 1)) (mNil)))) [7]) (mNil))
noncomputable def exT (j : Int) : MD := mTup (mCons (mC (.int 3)) (mCons (mTup (mCons (mTup (mCons (mC (.int 0)) (mCons (mC (.int 1)) (mCons (mC (.int 9)) (mCons (mVar 6) (mCons (mSlc (mVar 6) oNone (oSome (mC (.int j)))) (mNil))))))) (mCons (mTup (mCons (mC (.int 1)) (mCons (mC (.int 2)) (mCons (mC (.int 9)) (mCons (mVar 6) (mCons (mSlc (mVar 6) oNone (oSome (mC (.int 3)))) (mNil))))))) (mNil)))) (mNil)))
noncomputable def exZ : MD := mLst (mCons (mTup (mCons (mC (.int 3)) (mCons (mTup (mCons (mTup (mCons (mC (.int 0)) (mCons (mC (.int 1)) (mCons (mC (.int 9)) (mCons (mBin addD (mVar 6) (mTup (mCons (mTup (mCons (mC (.int 7)) (mCons (mC (.int 1)) (mNil)))) (mNil)))) (mCons (mTup (mNil)) (mNil))))))) (mCons (mTup (mCons (mC (.int 0)) (mCons (mC (.int 2)) (mCons (mC (.int 9)) (mCons (mVar 6) (mCons (mTup (mNil)) (mNil))))))) (mNil)))) (mNil)))) (mNil))
noncomputable def exA : MD := mLst (mCons (mTup (mCons (mC (.int 1)) (mCons (mTup (mNil)) (mNil)))) (mCons (mTup (mCons (mC (.int 0)) (mCons (mTup (mNil)) (mNil)))) (mCons (mTup (mCons (mC (.int 2)) (mCons (mTup (mNil)) (mNil)))) (mCons (mTup (mCons (mC (.int 1)) (mCons (mTup (mCons (mTup (mCons (mC (.int 0)) (mCons (mC (.int 1)) (mCons (mC (.int 1)) (mCons (mTup (mNil)) (mCons (mTup (mNil)) (mNil))))))) (mNil))) (mNil)))) (mCons (mTup (mCons (mC (.int 2)) (mCons (mTup (mCons (mTup (mCons (mC (.int 0)) (mCons (mC (.int 1)) (mCons (mC (.int 1)) (mCons (mTup (mNil)) (mCons (mTup (mNil)) (mNil))))))) (mNil))) (mNil)))) (mCons (mTup (mCons (mC (.int 2)) (mCons (mTup (mCons (mTup (mCons (mC (.int 1)) (mCons (mC (.int 0)) (mCons (mC (.int 1)) (mCons (mTup (mNil)) (mCons (mTup (mNil)) (mNil))))))) (mNil))) (mNil)))) (mNil)))))))
noncomputable def exB : MD := mLst (mCons (mTup (mCons (mC (.int 2)) (mCons (mTup (mCons (mTup (mCons (mC (.int 0)) (mCons (mC (.int 0)) (mCons (mC (.int 1)) (mCons (mTup (mNil)) (mCons (mTup (mNil)) (mNil))))))) (mNil))) (mNil)))) (mCons (mTup (mCons (mC (.int 2)) (mCons (mTup (mCons (mTup (mCons (mC (.int 0)) (mCons (mC (.int 1)) (mCons (mVar 0) (mCons (mTup (mNil)) (mCons (mTup (mNil)) (mNil))))))) (mNil))) (mNil)))) (mCons (mTup (mCons (mC (.int 2)) (mCons (mTup (mCons (mTup (mCons (mC (.int 0)) (mCons (mC (.int 1)) (mCons (mBin addD (mVar 0) (mC (.int 1))) (mCons (mTup (mNil)) (mCons (mTup (mNil)) (mNil))))))) (mNil))) (mNil)))) (mNil))))
noncomputable def exC : MD := mLst (mCons (mTup (mCons (mC (.int 2)) (mCons (mTup (mCons (mTup (mCons (mC (.int 0)) (mCons (mC (.int 1)) (mCons (mC (.int 0)) (mCons (mTup (mNil)) (mCons (mTup (mNil)) (mNil))))))) (mNil))) (mNil)))) (mCons (mTup (mCons (mC (.int 3)) (mCons (mTup (mCons (mTup (mCons (mC (.int 0)) (mCons (mC (.int 1)) (mCons (mC (.int 1)) (mCons (mTup (mNil)) (mCons (mTup (mNil)) (mNil))))))) (mCons (mTup (mCons (mC (.int 0)) (mCons (mC (.int 1)) (mCons (mC (.int 1)) (mCons (mTup (mNil)) (mCons (mTup (mNil)) (mNil))))))) (mNil)))) (mNil)))) (mNil)))
noncomputable def exD : MD := mLst (mCons (mTup (mCons (mC (.int 4)) (mCons (mTup (mCons (mTup (mCons (mC (.int 0)) (mCons (mC (.int 1)) (mCons (mC (.int 1)) (mCons (mTup (mNil)) (mCons (mTup (mNil)) (mNil))))))) (mCons (mTup (mCons (mC (.int 1)) (mCons (mC (.int 2)) (mCons (mC (.int 1)) (mCons (mTup (mNil)) (mCons (mTup (mNil)) (mNil))))))) (mCons (mTup (mCons (mC (.int 0)) (mCons (mC (.int 2)) (mCons (mC (.int 1)) (mCons (mTup (mNil)) (mCons (mTup (mNil)) (mNil))))))) (mNil))))) (mNil)))) (mNil))
noncomputable def edR3 : MS := sSeq (sSet 6 exS) (sSeq (sExpr (mMt isLst appendM (mVar 1) (mCons (exT 3) (mNil)))) (sSeq (sExpr (mMt isLst appendM (mVar 1) (mCons (exT 4) (mNil)))) (sRet (mBin addD (mVar 1) exZ))))
noncomputable def edR2 : MS := sSeq edE3 (sSeq edE4 (sSeq edE5 edR3))
noncomputable def edR1 : MS := sSeq edE0 (sSeq edE1 (sSeq edE2 edR2))
theorem edges_eq : b_law_edges = sSeq (sSet 0 (mBin powD (mC (.int 10)) (mC (.int 12)))) (sSeq (sSet 1 exA) (sSeq (sSet 1 (mBin addD (mVar 1) exB)) (sSeq (sSet 1 (mBin addD (mVar 1) exC)) (sSeq (sSet 1 (mBin addD (mVar 1) exD)) edR1)))) := rfl
abbrev rhoE (v1 v2 v3 v4 v5 v6 : Option D) : Rho := [some (.int 1000000000000), v1, v2, v3, v4, v5, v6, none]
section
variable {k r m n : Nat} {μ μ0 : Mem} {v2 v3 v4 v5 v6 : Option D}
theorem wrapN {ex : List Nat} {B : Nat} {d : D} (h : Lv ex μ bigZ 2 B d) (hB : B ≤ 900) : Lv ex μ bigZ 5 1000 (hD 2 [pD 0 1 10 d (.tup [])]) := by
  have i : ∀ {L : Nat} {i : Int}, i.natAbs ≤ 100 → Lv ex μ bigZ L 0 (.int i) := fun h => .int (Nat.le_trans h (by unfold bigZ; decide))
  have p : Lv ex μ bigZ 3 (0 + 1 + (0 + 1 + (0 + 1 + (B + 1 + (0 + 1 + 0))))) (pD 0 1 10 d (.tup [])) := .tup (.cons (i (by decide)) (.cons (i (by decide)) (.cons (i (by decide)) (.cons h (.cons .tup0 .nil (Nat.le_refl _)) (Nat.le_refl _)) (Nat.le_refl _)) (Nat.le_refl _)) (Nat.le_refl _))
  exact (Lv.tup (.cons (i (by decide)) (.cons (C := 0) (.tup (.cons (C := 0) p .nil (Nat.le_refl _))) .nil (Nat.le_refl _)) (Nat.le_refl _))).le (Nat.le_refl _) (Nat.le_refl _) (by omega)
theorem wrapF {ex : List Nat} {B : Nat} {d : D} (h : Lv ex μ bigZ 2 B d) (hB : B ≤ 900) : Lv ex μ bigZ 5 1000 (hD 2 [pD 0 1 10 (.tup []) d]) := by
  have i : ∀ {L : Nat} {i : Int}, i.natAbs ≤ 100 → Lv ex μ bigZ L 0 (.int i) := fun h => .int (Nat.le_trans h (by unfold bigZ; decide))
  have p : Lv ex μ bigZ 3 (0 + 1 + (0 + 1 + (0 + 1 + (0 + 1 + (B + 1 + 0))))) (pD 0 1 10 (.tup []) d) := .tup (.cons (i (by decide)) (.cons (i (by decide)) (.cons (i (by decide)) (.cons .tup0 (.cons h .nil (Nat.le_refl _)) (Nat.le_refl _)) (Nat.le_refl _)) (Nat.le_refl _)) (Nat.le_refl _))
  exact (Lv.tup (.cons (i (by decide)) (.cons (C := 0) (.tup (.cons (C := 0) p .nil (Nat.le_refl _))) .nil (Nat.le_refl _)) (Nat.le_refl _))).le (Nat.le_refl _) (Nat.le_refl _) (by omega)
def flat2 (d : D) : Bool := match flat 2 d with
  | some b => decide (b ≤ 900)
  | none => false
theorem flat2_lv {ex : List Nat} {d : D} (h : flat2 d = true) : Lv ex μ bigZ 2 900 d := by
  unfold flat2 at h
  split at h
  · rename_i b e
    exact (flat_lv 2 d b e).le (Nat.le_refl _) (Nat.le_refl _) (of_decide_eq_true h)
  · cases h
theorem edge_for {ex : List Nat} {ρ : Rho} {i m q n : Nat} {it e : MD} {its : List D} {o : Option D} {μ μ1 : Mem} (hρ : ρ.set i o = ρ) (h1 : ∀ o, (ρ.set i o)[1]? = some (some (.ref m))) (hit : it ρ μ = .ok (.ref q) μ1) (e1 : μ1[q]? = some (.lst its)) (kk : Keep [] μ μ1) (hq : q ≠ m) (g : Got ex μ m n) (hm : m ∈ ex) (hn : n + its.length ≤ 1000)
    (h : ∀ d ∈ its, ∀ μ', Keep [m] μ1 μ' → ∃ y μ2, e (ρ.set i (some d)) μ' = .ok y μ2 ∧ Keep [] μ' μ2 ∧ Lv ex μ2 bigZ 5 1000 y) :
    ∃ o' μ', sFor (iSeq it) (gN i) (sExpr (mMt isLst appendM (mVar 1) (mCons e mNil))) ρ μ = .ok (.nx (ρ.set i o')) μ' ∧ Got ex μ' m (n + its.length) ∧ Keep [m] μ μ' := by
  have kx : Keep ex μ μ1 := kk.mono fun i hi => (List.not_mem_nil hi).elim
  have g1 : Got ex μ1 m n := by
    obtain ⟨ys, a, b, c⟩ := g
    exact ⟨ys, kk.get a (by simp), b, fun y hy => (c y hy).keep kx⟩
  obtain ⟨o', μ', w, g', k'⟩ := loop_app (ex := ex) (ρ0 := ρ) (i := i) (m := m) (e := e) (μ0 := μ1) (chk := fun μ' => μ'[q]? = some (.lst its)) hm h1 (fun μ' k => k.get e1 (by simpa using hq)) its (o := o) h .refl g1 hn
  rw [hρ] at w
  exact ⟨o', μ', (for_to (items := its) (chk := fun μ' => μ'[q]? = some (.lst its)) (μ1 := μ1) (seq_lst (n := q) hit e1)).trans w, g', (kk.mono fun i hi => (List.not_mem_nil hi).elim).trans k'⟩
theorem E0_spec (hn : n ≤ 500) (hm : m < μ.length) (g : Got [k, r, m] μ m n) : ∃ v2' μ', edE0 (rhoE (some (.ref m)) v2 v3 v4 v5 v6) μ = .ok (.nx (rhoE (some (.ref m)) v2' v3 v4 v5 v6)) μ' ∧ Got [k, r, m] μ' m (n + 2) ∧ Keep [m] μ μ' :=
  edge_for (i := 2) (o := v2) (its := [.int 16, .int 17]) (q := μ.length) (μ1 := μ ++ [.lst [.int 16, .int 17]]) rfl (fun o => rfl) rfl app_new Keep.app (by omega) g (by simp) (by simp; omega)
    (fun d hd μ2 k2 => by
      simp only [List.mem_cons, List.not_mem_nil, or_false] at hd
      rcases hd with rfl | rfl
      · obtain ⟨μ3, q3, k3⟩ := tup_range (μ := μ2) (ρ := rhoE (some (.ref m)) (some (.int 16)) v3 v4 v5 v6) (re := mBin subD (mVar 2) (mC (.int 1))) (te := mTup (mCons (mVar 7) (mCons (mBin addD (mVar 7) (mC (.int 1))) (mCons (mC (.int 1)) (mCons (mTup (mNil)) (mCons (mTup (mNil)) (mNil))))))) (f := fun j => pD j (j + 1) 1 (.tup []) (.tup [])) (n := 15) rfl (by decide) (fun j μ' => rfl)
        refine ⟨hD 16 ((List.range 15).map fun (i : Nat) => pD (0 + (i : Int)) (0 + (i : Int) + 1) 1 (.tup []) (.tup [])), μ3, ?_, k3, flatB_lv (by decide +kernel)⟩
        exact tup2k (a := .int 16) (μ1 := μ2) rfl q3
      · obtain ⟨μ3, q3, k3⟩ := tup_range (μ := μ2) (ρ := rhoE (some (.ref m)) (some (.int 17)) v3 v4 v5 v6) (re := mBin subD (mVar 2) (mC (.int 1))) (te := mTup (mCons (mVar 7) (mCons (mBin addD (mVar 7) (mC (.int 1))) (mCons (mC (.int 1)) (mCons (mTup (mNil)) (mCons (mTup (mNil)) (mNil))))))) (f := fun j => pD j (j + 1) 1 (.tup []) (.tup [])) (n := 16) rfl (by decide) (fun j μ' => rfl)
        refine ⟨hD 17 ((List.range 16).map fun (i : Nat) => pD (0 + (i : Int)) (0 + (i : Int) + 1) 1 (.tup []) (.tup [])), μ3, ?_, k3, flatB_lv (by decide +kernel)⟩
        exact tup2k (a := .int 17) (μ1 := μ2) rfl q3)
theorem E1_spec (hn : n ≤ 500) (hm : m < μ.length) (g : Got [k, r, m] μ m n) : ∃ v3' μ', edE1 (rhoE (some (.ref m)) v2 v3 v4 v5 v6) μ = .ok (.nx (rhoE (some (.ref m)) v2 v3' v4 v5 v6)) μ' ∧ Got [k, r, m] μ' m (n + 7) ∧ Keep [m] μ μ' :=
  edge_for (i := 3) (o := v3) (its := edG) (q := μ.length) (μ1 := μ ++ [.lst edG]) rfl (fun o => rfl) rfl app_new Keep.app (by omega) g (by simp) (by simp; omega)
    (fun d hd μ2 k2 => ⟨hD 2 [pD 0 1 10 d (.tup [])], μ2, rfl, .refl, wrapN (flat2_lv (List.all_eq_true.mp (show edG.all flat2 = true by decide +kernel) d hd)) (by decide)⟩)
theorem E3_spec (hn : n ≤ 500) (hm : m < μ.length) (g : Got [k, r, m] μ m n) : ∃ v4' μ', edE3 (rhoE (some (.ref m)) v2 v3 v4 v5 v6) μ = .ok (.nx (rhoE (some (.ref m)) v2 v3 v4' v5 v6)) μ' ∧ Got [k, r, m] μ' m (n + 8) ∧ Keep [m] μ μ' :=
  edge_for (i := 4) (o := v4) (its := edF) (q := μ.length) (μ1 := μ ++ [.lst edF]) rfl (fun o => rfl) rfl app_new Keep.app (by omega) g (by simp) (by simp; omega)
    (fun d hd μ2 k2 => ⟨hD 2 [pD 0 1 10 (.tup []) d], μ2, rfl, .refl, wrapF (flat2_lv (List.all_eq_true.mp (show edF.all flat2 = true by decide +kernel) d hd)) (by decide)⟩)
theorem E2_spec (hn : n ≤ 500) (hk : k < μ.length) (hr : r < μ.length) (hm : m < μ.length) (g : Got [k, r, m] μ m n) : ∃ v3' μ', edE2 (rhoE (some (.ref m)) v2 v3 v4 v5 v6) μ = .ok (.nx (rhoE (some (.ref m)) v2 v3' v4 v5 v6)) μ' ∧ Got [k, r, m] μ' m (n + 7) ∧ Keep [m] μ μ' := by
  let μa : Mem := μ ++ [.lst [tD 1 1]]
  let μb : Mem := μa ++ [.lst [.int 1, .int 1]]
  let its : List D := [.tup [tD 1 2, tD 1 3], .tup [tD 2 1, tD 1 1], .ref μ.length, .tup [.ref μa.length], .tup [.tup [.int 1]], .tup [.tup [.bl true, .int 1]], .tup [.tup [.int 1, .bl true]]]
  let μc : Mem := μb ++ [.lst its]
  have la : μa.length = μ.length + 1 := by simp [μa]
  have lb : μb.length = μ.length + 2 := by simp [μb, μa]
  have ea : μc[μ.length]? = some (.lst [tD 1 1]) := app_at (app_at app_new)
  have eb : μc[μa.length]? = some (.lst [.int 1, .int 1]) := app_at app_new
  have kk : Keep [] μ μc := Keep.trans (Keep.trans Keep.app Keep.app) Keep.app
  refine edge_for (i := 3) (o := v3) (its := its) (q := μb.length) (μ1 := μc) (it := itH) (e := exN) rfl (fun o => rfl) rfl app_new kk (by omega) g (by simp) (by simp [its]; omega) fun d hd μ2 k2 => ⟨hD 2 [pD 0 1 10 d (.tup [])], μ2, rfl, .refl, wrapN (B := 900) ?_ (by decide)⟩
  have ea2 : μ2[μ.length]? = some (.lst [tD 1 1]) := k2.get ea (by simp; omega)
  have eb2 : μ2[μa.length]? = some (.lst [.int 1, .int 1]) := k2.get eb (by simp; omega)
  have one : ∀ {x : D} {L B : Nat}, Lv [k, r, m] μ2 bigZ L B x → B + 1 ≤ 900 → LvL [k, r, m] μ2 bigZ L 900 [x] := fun h hb => .cons (C := 0) h .nil (by omega)
  have two1 : LvL [k, r, m] μ2 bigZ 0 2 [.int 1, .int 1] := .cons (B := 0) (C := 1) (.int (by unfold bigZ; decide)) (.cons (B := 0) (C := 0) (.int (by unfold bigZ; decide)) .nil (by decide)) (by decide)
  simp only [its, List.mem_cons, List.not_mem_nil, or_false] at hd
  rcases hd with rfl | rfl | rfl | rfl | rfl | rfl | rfl
  · exact flat2_lv (by decide +kernel)
  · exact flat2_lv (by decide +kernel)
  · exact .lst ea2 (by simp; omega) (one (L := 1) (.tup two1) (by decide))
  · exact .tup (one (L := 1) (.lst eb2 (by simp; omega) two1) (by decide))
  · exact flat2_lv (by decide +kernel)
  · exact flat2_lv (by decide +kernel)
  · exact flat2_lv (by decide +kernel)
theorem E4_spec (hn : n ≤ 500) (hm : m < μ.length) (g : Got [k, r, m] μ m n) : ∃ v5' μ', edE4 (rhoE (some (.ref m)) v2 v3 v4 v5 v6) μ = .ok (.nx (rhoE (some (.ref m)) v2 v3 v4 v5' v6)) μ' ∧ Got [k, r, m] μ' m (n + 2) ∧ Keep [m] μ μ' :=
  edge_for (i := 5) (o := v5) (its := [.int 12, .int 13]) (q := μ.length) (μ1 := μ ++ [.lst [.int 12, .int 13]]) rfl (fun o => rfl) rfl app_new Keep.app (by omega) g (by simp) (by simp; omega)
    (fun d hd μ2 k2 => by
      simp only [List.mem_cons, List.not_mem_nil, or_false] at hd
      rcases hd with rfl | rfl
      · obtain ⟨μ3, q3, k3⟩ := tup_range (μ := μ2) (ρ := rhoE (some (.ref m)) v2 v3 v4 (some (.int 12)) v6) (re := mVar 5) (te := mTup (mCons (mBin addD (mVar 7) (mC (.int 1))) (mCons (mC (.int 1)) (mNil)))) (f := fun j => tD (j + 1) 1) (n := 12) rfl (by decide) (fun j μ' => rfl)
        refine ⟨hD 2 [pD 0 1 20 (.tup ((List.range 12).map fun (i : Nat) => tD (0 + (i : Int) + 1) 1)) (.tup [])], μ3, ?_, k3, flatB_lv (by decide +kernel)⟩
        exact tup2k (a := .int 2) (μ1 := μ2) rfl (tup1k (tup5k (a := .int 0) (b := .int 1) (c := .int 20) (μ1 := μ2) (μ2 := μ2) (μ3 := μ2) rfl rfl rfl q3 (e := .tup []) (μ5 := μ3) rfl))
      · obtain ⟨μ3, q3, k3⟩ := tup_range (μ := μ2) (ρ := rhoE (some (.ref m)) v2 v3 v4 (some (.int 13)) v6) (re := mVar 5) (te := mTup (mCons (mBin addD (mVar 7) (mC (.int 1))) (mCons (mC (.int 1)) (mNil)))) (f := fun j => tD (j + 1) 1) (n := 13) rfl (by decide) (fun j μ' => rfl)
        refine ⟨hD 2 [pD 0 1 20 (.tup ((List.range 13).map fun (i : Nat) => tD (0 + (i : Int) + 1) 1)) (.tup [])], μ3, ?_, k3, flatB_lv (by decide +kernel)⟩
        exact tup2k (a := .int 2) (μ1 := μ2) rfl (tup1k (tup5k (a := .int 0) (b := .int 1) (c := .int 20) (μ1 := μ2) (μ2 := μ2) (μ3 := μ2) rfl rfl rfl q3 (e := .tup []) (μ5 := μ3) rfl)))
theorem E5_spec (hn : n ≤ 500) (hm : m < μ.length) (g : Got [k, r, m] μ m n) : ∃ v5' μ', edE5 (rhoE (some (.ref m)) v2 v3 v4 v5 v6) μ = .ok (.nx (rhoE (some (.ref m)) v2 v3 v4 v5' v6)) μ' ∧ Got [k, r, m] μ' m (n + 2) ∧ Keep [m] μ μ' :=
  edge_for (i := 5) (o := v5) (its := [.int 6, .int 7]) (q := μ.length) (μ1 := μ ++ [.lst [.int 6, .int 7]]) rfl (fun o => rfl) rfl app_new Keep.app (by omega) g (by simp) (by simp; omega)
    (fun d hd μ2 k2 => by
      simp only [List.mem_cons, List.not_mem_nil, or_false] at hd
      rcases hd with rfl | rfl
      · obtain ⟨μ3, q3, k3⟩ := tup_range (μ := μ2) (ρ := rhoE (some (.ref m)) v2 v3 v4 (some (.int 6)) v6) (re := mVar 5) (te := mTup (mCons (mVar 7) (mCons (mC (.int 1)) (mNil)))) (f := fun j => tD j 1) (n := 6) rfl (by decide) (fun j μ' => rfl)
        refine ⟨hD 2 [pD 0 1 20 (.tup []) (.tup ((List.range 6).map fun (i : Nat) => tD (0 + (i : Int)) 1))], μ3, ?_, k3, flatB_lv (by decide +kernel)⟩
        exact tup2k (a := .int 2) (μ1 := μ2) rfl (tup1k (tup5k (a := .int 0) (b := .int 1) (c := .int 20) (d := .tup []) (μ1 := μ2) (μ2 := μ2) (μ3 := μ2) (μ4 := μ2) rfl rfl rfl rfl q3))
      · obtain ⟨μ3, q3, k3⟩ := tup_range (μ := μ2) (ρ := rhoE (some (.ref m)) v2 v3 v4 (some (.int 7)) v6) (re := mVar 5) (te := mTup (mCons (mVar 7) (mCons (mC (.int 1)) (mNil)))) (f := fun j => tD j 1) (n := 7) rfl (by decide) (fun j μ' => rfl)
        refine ⟨hD 2 [pD 0 1 20 (.tup []) (.tup ((List.range 7).map fun (i : Nat) => tD (0 + (i : Int)) 1))], μ3, ?_, k3, flatB_lv (by decide +kernel)⟩
        exact tup2k (a := .int 2) (μ1 := μ2) rfl (tup1k (tup5k (a := .int 0) (b := .int 1) (c := .int 20) (d := .tup []) (μ1 := μ2) (μ2 := μ2) (μ3 := μ2) (μ4 := μ2) rfl rfl rfl rfl q3)))
abbrev six : List D := [tD 1 1, tD 2 1, tD 3 1, tD 4 1, tD 5 1, tD 6 1]
theorem exZ_is : exZ (rhoE (some (.ref m)) v2 v3 v4 v5 (some (.tup six))) μ = .ok (.ref μ.length) (μ ++ [.lst [hD 3 [pD 0 1 9 (.tup (six ++ [tD 7 1])) (.tup []), pD 0 2 9 (.tup six) (.tup [])]]]) := by
  have a : mBin addD (mVar 6) (mTup (mCons (mTup (mCons (mC (.int 7)) (mCons (mC (.int 1)) (mNil)))) (mNil))) (rhoE (some (.ref m)) v2 v3 v4 v5 (some (.tup six))) μ = .ok (.tup (six ++ [tD 7 1])) μ := bin_k (p := .tup six) (q := .tup [tD 7 1]) (μ1 := μ) (μ2 := μ) rfl rfl (tup_add (by decide))
  unfold exZ
  exact lst_one (tup2k (a := .int 3) (μ1 := μ) rfl (tup2k (tup5k (a := .int 0) (b := .int 1) (c := .int 9) (μ1 := μ) (μ2 := μ) (μ3 := μ) rfl rfl rfl a (e := .tup []) (μ5 := μ) rfl) (b := pD 0 2 9 (.tup six) (.tup [])) (μ2 := μ) rfl))
theorem R3_spec (hn : n ≤ 500) (hk : k < μ.length) (hr : r < μ.length) (hm : m < μ.length) (g : Got [k, r, m] μ m n) : ∃ m' μ', edR3 (rhoE (some (.ref m)) v2 v3 v4 v5 v6) μ = .ok (.ret (.ref m')) μ' ∧ Got [k, r] μ' m' (n + 3) ∧ Keep [m] μ μ' ∧ μ.length ≤ m' := by
  obtain ⟨μ1, q1, k1⟩ := tup_range (μ := μ) (ρ := rhoE (some (.ref m)) v2 v3 v4 v5 v6) (re := mC (.int 6)) (te := mTup (mCons (mBin addD (mVar 7) (mC (.int 1))) (mCons (mC (.int 1)) (mNil)))) (f := fun j => tD (j + 1) 1) (n := 6) rfl (by decide) (fun j μ' => rfl)
  have q1' : exS (rhoE (some (.ref m)) v2 v3 v4 v5 v6) μ = .ok (.tup six) μ1 := q1
  have kx : Keep [k, r, m] μ μ1 := k1.mono fun i hi => (List.not_mem_nil hi).elim
  have g1 : Got [k, r, m] μ1 m n := by
    obtain ⟨ys, a, b, c⟩ := g
    exact ⟨ys, k1.get a (by simp), b, fun y hy => (c y hy).keep kx⟩
  let ρ1 : Rho := rhoE (some (.ref m)) v2 v3 v4 v5 (some (.tup six))
  obtain ⟨μ2, q2, g2, k2⟩ := append_step (ex := [k, r, m]) (ρ := ρ1) (e := exT 3) (y := hD 3 [pD 0 1 9 (.tup six) (.tup (six.take 3)), pD 1 2 9 (.tup six) (.tup (six.take 3))]) (μ1 := μ1) rfl g1 (by simp) rfl .refl (flatB_lv (by decide +kernel)) (by omega)
  obtain ⟨μ3, q3, g3, k3⟩ := append_step (ex := [k, r, m]) (ρ := ρ1) (e := exT 4) (y := hD 3 [pD 0 1 9 (.tup six) (.tup (six.take 4)), pD 1 2 9 (.tup six) (.tup (six.take 3))]) (μ1 := μ2) rfl g2 (by simp) rfl .refl (flatB_lv (by decide +kernel)) (by omega)
  obtain ⟨μ4, q4, g4, k4, l4⟩ := add_step (ρ := ρ1) (ex' := [k, r]) (e := exZ) (ys' := [hD 3 [pD 0 1 9 (.tup (six ++ [tD 7 1])) (.tup []), pD 0 2 9 (.tup six) (.tup [])]]) rfl g3 exZ_is (by decide +kernel) (by simp; omega) (fun i hi => .inl (by simp at hi ⊢; omega))
  have w : ∀ {a b : Mem}, Keep [] a b → Keep [m] a b := fun k => k.mono fun i hi => (List.not_mem_nil hi).elim
  have kk := (((w k1).trans k2).trans k3)
  refine ⟨μ3.length + 1, μ4, ?_, g4, kk.trans (w k4), by have := kk.1; omega⟩
  unfold edR3
  exact (seq_set q1').trans ((seq_run q2).trans ((seq_run q3).trans (ret_is q4)))
theorem edges_any (hk : k < μ.length) (hr : r < μ.length) : ∃ m μ', m_law_edges [] μ = .ok (.ref m) μ' ∧ Got [k, r] μ' m 100 ∧ Keep [] μ μ' ∧ μ.length ≤ m := by
  let ρ0 : Rho := [some (.int 1000000000000), none, none, none, none, none, none, none]
  let μ1 : Mem := μ ++ [.lst edA]
  have l1 : μ1.length = μ.length + 1 := by simp [μ1]
  have g1 : Got [k, r] μ1 μ.length 6 := lst_flat (by decide +kernel)
  obtain ⟨μ2, q2, g2, k2, l2⟩ := add_step (ρ := rhoE (some (.ref μ.length)) none none none none none) (ex' := [k, r]) (e := exB) (ys' := edB) rfl g1 rfl (by decide +kernel) (by decide) (fun i hi => .inl hi)
  obtain ⟨μ3, q3, g3, k3, l3⟩ := add_step (ρ := rhoE (some (.ref (μ1.length + 1))) none none none none none) (ex' := [k, r]) (e := exC) (ys' := edC) rfl g2 rfl (by decide +kernel) (by decide) (fun i hi => .inl hi)
  obtain ⟨μ4, q4, g4, k4, l4⟩ := add_step (ρ := rhoE (some (.ref (μ2.length + 1))) none none none none none) (ex' := [k, r, μ3.length + 1]) (e := exD) (ys' := edD) rfl g3 rfl (by decide +kernel) (by decide) (fun i hi => by simp at hi ⊢; omega)
  let m : Nat := μ3.length + 1
  have h4 : m < μ4.length := by omega
  have w : ∀ {a b : Mem}, Keep [] a b → Keep [m] a b := fun k => k.mono fun i hi => (List.not_mem_nil hi).elim
  obtain ⟨a2, μ5, q5, g5, k5⟩ := E0_spec (k := k) (r := r) (v2 := none) (v3 := none) (v4 := none) (v5 := none) (v6 := none) (by decide) h4 g4
  have h5 := k5.1
  obtain ⟨a3, μ6, q6, g6, k6⟩ := E1_spec (k := k) (r := r) (v2 := a2) (v3 := none) (v4 := none) (v5 := none) (v6 := none) (by decide) (by omega) g5
  have h6 := k6.1
  obtain ⟨b3, μ7, q7, g7, k7⟩ := E2_spec (k := k) (r := r) (v2 := a2) (v3 := a3) (v4 := none) (v5 := none) (v6 := none) (by decide) (by omega) (by omega) (by omega) g6
  have h7 := k7.1
  obtain ⟨a4, μ8, q8, g8, k8⟩ := E3_spec (k := k) (r := r) (v2 := a2) (v3 := b3) (v4 := none) (v5 := none) (v6 := none) (by decide) (by omega) g7
  have h8 := k8.1
  obtain ⟨a5, μ9, q9, g9, k9⟩ := E4_spec (k := k) (r := r) (v2 := a2) (v3 := b3) (v4 := a4) (v5 := none) (v6 := none) (by decide) (by omega) g8
  have h9 := k9.1
  obtain ⟨b5, μA, qA, gA, kA⟩ := E5_spec (k := k) (r := r) (v2 := a2) (v3 := b3) (v4 := a4) (v5 := a5) (v6 := none) (by decide) (by omega) g9
  have hA := kA.1
  obtain ⟨m', μB, qB, gB, kB, hm'⟩ := R3_spec (k := k) (r := r) (v2 := a2) (v3 := b3) (v4 := a4) (v5 := b5) (v6 := none) (by decide) (by omega) (by omega) (by omega) gA
  have kk : Keep [m] μ4 μB := (((((k5.trans k6).trans k7).trans k8).trans k9).trans kA).trans kB
  have kall : Keep [m] μ μB := (w (((Keep.trans (Keep.app (cs := [.lst edA])) k2).trans k3).trans k4)).trans kk
  refine ⟨m', μB, run_is ?_, ?_, kall.mono fun i hi => .inr (by rw [List.mem_singleton.mp hi]; omega), by omega⟩
  · rw [edges_eq]
    refine (seq_set (d := .int 1000000000000) (μ1 := μ) rfl).trans ((seq_set (d := .ref μ.length) (μ1 := μ1) rfl).trans ((seq_set q2).trans ((seq_set q3).trans ((seq_set q4).trans ?_))))
    show edR1 (rhoE (some (.ref m)) none none none none none) μ4 = _
    unfold edR1 edR2
    exact (seq_run q5).trans ((seq_run q6).trans ((seq_run q7).trans ((seq_run q8).trans ((seq_run q9).trans ((seq_run qA).trans qB)))))
  · obtain ⟨ys, a, b, c⟩ := gB
    exact ⟨ys, a, Nat.le_trans b (by decide), c⟩
end
end K01

namespace K01
open PySem L2 RW
/-! ### the same things of the same kinds -/
theorem eqBl {a b : Bool} {μ : Mem} : eqD (.bl a) (.bl b) μ = .ok (.bl (a == b)) μ := by
  have h1 : SeqAt.shaped (PyData.bool a) = true := by rfl
  have h2 : SeqAt.shaped (PyData.bool b) = true := by rfl
  simp only [eqD, D.py?, h1, h2, Bool.and_self, if_true, PyData.eqv]
theorem neBl {a b : Bool} {μ : Mem} : neD (.bl a) (.bl b) μ = .ok (.bl (!(a == b))) μ := by
  have h1 : SeqAt.shaped (PyData.bool a) = true := by rfl
  have h2 : SeqAt.shaped (PyData.bool b) = true := by rfl
  simp only [neD, D.py?, h1, h2, Bool.and_self, if_true, PyData.eqv]
theorem eqStr {a : Str} {μ : Mem} (h : SeqAt.shaped (PyData.str a) = true) : eqD (.str a) (.str a) μ = .ok (.bl true) μ := by
  simp only [eqD, D.py?, h, Bool.and_self, if_true, PyData.eqv, beq_self_eq_true]
inductive Sm (μ : Mem) : Nat → D → D → Prop
  | int (n : Nat) (i : Int) : Sm μ n (.int i) (.int i)
  | bl (n : Nat) (b : Bool) : Sm μ n (.bl b) (.bl b)
  | str (n : Nat) (s : Str) (h : SeqAt.shaped (PyData.str s) = true) : Sm μ n (.str s) (.str s)
  | non (n : Nat) : Sm μ n .non .non
  | tup (n : Nat) (l l' : List D) (hl : l.length = l'.length) (hz : l.length ≤ 1000) (h : ∀ (i : Nat) (a b : D), l[i]? = some a → l'[i]? = some b → Sm μ n a b) : Sm μ (n + 1) (.tup l) (.tup l')
  | lst (n r r' : Nat) (l l' : List D) (e : μ[r]? = some (.lst l)) (e' : μ[r']? = some (.lst l')) (hl : l.length = l'.length) (hz : l.length ≤ 1000) (h : ∀ (i : Nat) (a b : D), l[i]? = some a → l'[i]? = some b → Sm μ n a b) : Sm μ (n + 1) (.ref r) (.ref r')
theorem Sm.keep {μ μ' : Mem} {n : Nat} {x y : D} (h : Sm μ n x y) (k : Keep [] μ μ') : Sm μ' n x y := by
  induction h with
  | int n i => exact .int n i
  | bl n b => exact .bl n b
  | str n s h => exact .str n s h
  | non n => exact .non n
  | tup n l l' hl hz h ih => exact .tup n l l' hl hz ih
  | lst n r r' l l' e e' hl hz h ih => exact .lst n r r' l l' (k.get e (by simp)) (k.get e' (by simp)) hl hz ih
/-- data without lists within -/
def PlainD : Nat → D → Prop
  | _, .int _ => True
  | _, .bl _ => True
  | _, .non => True
  | _, .str s => SeqAt.shaped (PyData.str s) = true
  | n + 1, .tup l => l.length ≤ 1000 ∧ ∀ x ∈ l, PlainD n x
  | _, _ => False
theorem sm_refl {μ : Mem} : ∀ (n : Nat) (d : D), PlainD n d → Sm μ n d d
  | n, .int i, _ => .int n i
  | n, .bl b, _ => .bl n b
  | n, .non, _ => .non n
  | n, .str s, h => .str n s (by unfold PlainD at h; exact h)
  | n + 1, .tup l, h => by
    unfold PlainD at h
    exact .tup n l l rfl h.1 fun i a b e e' => by
      rw [e] at e'; cases e'
      exact sm_refl n a (h.2 a (List.mem_of_getElem? e))
  | 0, .tup l, h => by unfold PlainD at h; exact h.elim
  | _, .frl l, h => by unfold PlainD at h; exact h.elim
  | _, .ref l, h => by unfold PlainD at h; exact h.elim
  | _, .fn l, h => by unfold PlainD at h; exact h.elim
section
variable {μ : Mem} {n : Nat}
/-- a list or tuple: its items -/
def itemsD (μ : Mem) : D → Option (List D)
  | .tup l => some l
  | .ref r => match μ[r]? with
    | some (.lst l) => some l
    | _ => none
  | _ => none
theorem itemsD_keep {μ' : Mem} {x : D} {l : List D} (h : itemsD μ x = some l) (k : Keep [] μ μ') : itemsD μ' x = some l := by
  cases x with
  | tup l' => exact h
  | ref r =>
    simp only [itemsD] at h ⊢
    split at h
    · rename_i l' e
      cases h
      rw [k.get e (by simp)]
    · cases h
  | _ => cases h
theorem len_items {x : D} {l : List D} (h : itemsD μ x = some l) : lenL [x] μ = .ok (.int l.length) μ := by
  cases x with
  | tup l' => cases h; rfl
  | ref r =>
    simp only [itemsD] at h
    split at h
    · rename_i l' e
      cases h
      simp only [lenL, e]
    · cases h
  | _ => cases h
theorem idx_items {x : D} {l : List D} {i : Nat} {d : D} (h : itemsD μ x = some l) (e : l[i]? = some d) : idxA x (.int (i : Int)) μ = .ok d μ := by
  cases x with
  | tup l' => cases h; exact ix_tup (by omega) (by rw [Int.toNat_natCast]; exact e)
  | ref r =>
    simp only [itemsD] at h
    split at h
    · rename_i l' e'
      cases h
      exact ix_lst e' (by omega) (by rw [Int.toNat_natCast]; exact e)
    · cases h
  | _ => cases h
theorem kind_items {x : D} {l : List D} (h : itemsD μ x = some l) : tyD x μ = some "list" ∨ tyD x μ = some "tuple" := by
  cases x with
  | tup l' => exact .inr rfl
  | ref r =>
    simp only [itemsD] at h
    split at h
    · rename_i l' e
      exact .inl (by simp only [tyD, e])
    · cases h
  | _ => cases h
theorem same_items {x y : D} {l l' : List D} (hx : itemsD μ x = some l) (hy : itemsD μ y = some l') (hk : tyD x μ = tyD y μ) (hl : l.length = l'.length) (hz : l.length ≤ 1000)
    (ih : ∀ (i : Nat) (a b : D) (μ' : Mem), Keep [] μ μ' → l[i]? = some a → l'[i]? = some b → ∃ μ2, m_law_same n [a, b] μ' = .ok (.bl true) μ2 ∧ Keep [] μ' μ2) :
    ∃ μ', m_law_same (n + 1) [x, y] μ = .ok (.bl true) μ' ∧ Keep [] μ μ' := by
  have s1 : subT "list" "list" = true := by decide +kernel
  have s2 : subT "list" "tuple" = false := by decide +kernel
  have s3 : subT "tuple" "list" = false := by decide +kernel
  have s4 : subT "tuple" "tuple" = true := by decide +kernel
  have t0 : isT2 "list" "tuple" y μ = .ok (.bl true) μ := by
    rcases kind_items hy with e | e <;> simp [isT2, e, s1, s2, s3, s4]
  obtain ⟨b1, e1, e1'⟩ : ∃ b, isT1 "list" x μ = .ok (.bl b) μ ∧ isT1 "list" y μ = .ok (.bl b) μ := by
    rcases kind_items hy with e | e
    · exact ⟨subT "list" "list", by simp only [isT1, hk, e], by simp only [isT1, e]⟩
    · exact ⟨subT "tuple" "list", by simp only [isT1, hk, e], by simp only [isT1, e]⟩
  obtain ⟨b2, e2, e2'⟩ : ∃ b, isT1 "tuple" x μ = .ok (.bl b) μ ∧ isT1 "tuple" y μ = .ok (.bl b) μ := by
    rcases kind_items hy with e | e
    · exact ⟨subT "list" "tuple", by simp only [isT1, hk, e], by simp only [isT1, e]⟩
    · exact ⟨subT "tuple" "tuple", by simp only [isT1, hk, e], by simp only [isT1, e]⟩
  have key := compL_ok (chk := fun _ => True) (g := gN 2) (tt := mNot (mTest (mB (m_law_same n) (mCons (mBin idxA (mVar 0) (mVar 2)) (mCons (mBin idxA (mVar 1) (mVar 2)) (mNil)))))) (te := mVar 2)
    (ρ0 := [some x, some y, none]) (rangeItems 0 l'.length) (fun i acc μ' => acc = [] ∧ Keep [] μ μ') 0 (acc := []) (μ := μ) ⟨rfl, .refl⟩ (fun _ _ _ _ => trivial) (fun i d acc μ' ed ⟨ea, k⟩ => by
      unfold rangeItems at ed
      rw [List.getElem?_map] at ed
      obtain ⟨j, ej, rfl⟩ := Option.map_eq_some_iff.mp ed
      have hj : i = j ∧ i < l'.length := by
        obtain ⟨h1, h2⟩ := List.getElem?_eq_some_iff.mp ej
        simp at h1 h2; exact ⟨h2, h1⟩
      obtain ⟨rfl, hi⟩ := hj
      obtain ⟨a, ha⟩ : ∃ a, l[i]? = some a := ⟨_, List.getElem?_eq_getElem (by omega)⟩
      obtain ⟨b, hb⟩ : ∃ b, l'[i]? = some b := ⟨_, List.getElem?_eq_getElem (by omega)⟩
      obtain ⟨μ2, q, k2⟩ := ih i a b μ' k ha hb
      have i1 := idx_items (itemsD_keep hx k) ha
      have i2 := idx_items (itemsD_keep hy k) hb
      refine .mk (a := [some x, some y, some (.int (i : Int))]) (μ := μ') (by simp) (.mk (a := false) (μ := μ2) (by simp [i1, i2, q]) ?_)
      rw [if_neg (by simp)]
      exact ⟨ea, k.trans k2⟩)
  obtain ⟨l2, μ2, e, rfl, k⟩ := key
  have ir : iRange1 (mCons (mB lenL (mCons (mVar 1) (mNil))) (mNil)) [some x, some y, none] μ = .ok (rangeItems 0 l'.length, fun _ => True) μ := ir1 (by simp [len_items hy]) (by omega)
  have hc := comp_is (own := [2]) ir (show compL _ _ _ _ (wipeR [some x, some y, none] [2]) _ [] μ = _ from e)
  have d0 : ∀ (μ : Mem) (r : Nat), μ[r]? = some (.lst []) → D.py? 8 μ (.ref r) = some (.list []) := fun μ r h => by simp [D.py?, h, D.pys?]
  have he : eqD (.ref μ2.length) (.ref (μ2.length + 1)) (μ2 ++ [.lst []] ++ [.lst []]) = .ok (.bl true) (μ2 ++ [.lst []] ++ [.lst []]) := by
    have h1 := d0 (μ2 ++ [.lst []] ++ [.lst []]) μ2.length (app_at app_new)
    have h2 := d0 (μ2 ++ [.lst []] ++ [.lst []]) (μ2.length + 1) (by rw [show μ2.length + 1 = (μ2 ++ [Cell.lst []]).length by simp]; exact app_new)
    have h3 : SeqAt.shaped (PyData.list []) = true := by rfl
    simp only [eqD, h1, h2, h3, Bool.and_self, if_true, PyData.eqv, PyData.eqvAll]
  refine ⟨μ2 ++ [.lst []] ++ [.lst []], run_is (m := b_law_same (m_law_same n)) ?_, k.trans (Keep.trans Keep.app Keep.app)⟩
  unfold b_law_same
  refine seq_ret ((if_t (μ1 := μ) (by simp [startR, t0])).trans ?_)
  refine (seq_skip (μ1 := μ) (by simp [startR, e1, e1', e2, e2', neBl])).trans ?_
  have ln : neD (.int (l.length : Int)) (.int (l'.length : Int)) μ = .ok (.bl false) μ := by rw [neI, hl]; simp
  refine (seq_skip (μ1 := μ) (by simp [startR, len_items hx, len_items hy, ln])).trans ?_
  refine ret_is ?_
  rw [mBin, show startR 3 [x, y] = [some x, some y, none] from rfl, hc]
  simp only [Res.bind, mLst, mNil, List.length_nil, Nat.zero_le, if_true, List.length_append, List.length_cons]
  exact he
theorem same_spec : ∀ (n : Nat) (x y : D) (μ : Mem), Sm μ n x y → ∃ μ', m_law_same (n + 1) [x, y] μ = .ok (.bl true) μ' ∧ Keep [] μ μ' := by
  have u1 : subT "int" "list" = false := by decide +kernel
  have u2 : subT "int" "tuple" = false := by decide +kernel
  have u3 : subT "int" "str" = false := by decide +kernel
  have u4 : subT "int" "int" = true := by decide +kernel
  have u5 : subT "int" "bool" = false := by decide +kernel
  have b1 : subT "bool" "list" = false := by decide +kernel
  have b2 : subT "bool" "tuple" = false := by decide +kernel
  have b3 : subT "bool" "str" = false := by decide +kernel
  have b4 : subT "bool" "int" = true := by decide +kernel
  have b5 : subT "bool" "bool" = true := by decide +kernel
  have z1 : subT "str" "list" = false := by decide +kernel
  have z2 : subT "str" "tuple" = false := by decide +kernel
  have z3 : subT "str" "str" = true := by decide +kernel
  have o1 : subT "NoneType" "list" = false := by decide +kernel
  have o2 : subT "NoneType" "tuple" = false := by decide +kernel
  intro n x y μ h
  revert h
  induction n generalizing x y μ with
  | zero =>
    intro h
    cases h with
    | int _ i => 
      refine ⟨μ, run_is (m := b_law_same (m_law_same 0)) ?_, .refl⟩
      unfold b_law_same
      refine (seq_skip (μ1 := μ) (by simp [startR, isT2, tyD, u1, u2])).trans ?_
      refine (seq_skip (μ1 := μ) (by simp [startR, isD, isNonD])).trans ?_
      refine (seq_skip (μ1 := μ) (by simp [startR, isT1, tyD, u3])).trans ?_
      exact ret_is (by simp [startR, isT1, tyD, u4, u5, eqBl, eqI])
    | bl _ i =>
      refine ⟨μ, run_is (m := b_law_same (m_law_same 0)) ?_, .refl⟩
      unfold b_law_same
      refine (seq_skip (μ1 := μ) (by simp [startR, isT2, tyD, b1, b2])).trans ?_
      refine (seq_skip (μ1 := μ) (by simp [startR, isD, isNonD])).trans ?_
      refine (seq_skip (μ1 := μ) (by simp [startR, isT1, tyD, b3])).trans ?_
      exact ret_is (by simp [startR, isT1, tyD, b4, b5, eqBl])
    | str _ s hs =>
      refine ⟨μ, run_is (m := b_law_same (m_law_same 0)) ?_, .refl⟩
      unfold b_law_same
      refine (seq_skip (μ1 := μ) (by simp [startR, isT2, tyD, z1, z2])).trans ?_
      refine (seq_skip (μ1 := μ) (by simp [startR, isD, isNonD])).trans ?_
      exact seq_ret ((if_t (μ1 := μ) (by simp [startR, isT1, tyD, z3])).trans (ret_is (by simp [startR, isT1, tyD, z3, eqStr hs])))
    | non _ =>
      refine ⟨μ, run_is (m := b_law_same (m_law_same 0)) ?_, .refl⟩
      unfold b_law_same
      refine (seq_skip (μ1 := μ) (by simp [startR, isT2, tyD, o1, o2])).trans ?_
      exact seq_ret ((if_t (μ1 := μ) (by simp [startR, isD, isNonD])).trans (ret_is (by simp [startR, isD, isNonD])))
  | succ n ih =>
    intro h
    cases h with
    | int _ i => 
      refine ⟨μ, run_is (m := b_law_same (m_law_same (n + 1))) ?_, .refl⟩
      unfold b_law_same
      refine (seq_skip (μ1 := μ) (by simp [startR, isT2, tyD, u1, u2])).trans ?_
      refine (seq_skip (μ1 := μ) (by simp [startR, isD, isNonD])).trans ?_
      refine (seq_skip (μ1 := μ) (by simp [startR, isT1, tyD, u3])).trans ?_
      exact ret_is (by simp [startR, isT1, tyD, u4, u5, eqBl, eqI])
    | bl _ i =>
      refine ⟨μ, run_is (m := b_law_same (m_law_same (n + 1))) ?_, .refl⟩
      unfold b_law_same
      refine (seq_skip (μ1 := μ) (by simp [startR, isT2, tyD, b1, b2])).trans ?_
      refine (seq_skip (μ1 := μ) (by simp [startR, isD, isNonD])).trans ?_
      refine (seq_skip (μ1 := μ) (by simp [startR, isT1, tyD, b3])).trans ?_
      exact ret_is (by simp [startR, isT1, tyD, b4, b5, eqBl])
    | str _ s hs =>
      refine ⟨μ, run_is (m := b_law_same (m_law_same (n + 1))) ?_, .refl⟩
      unfold b_law_same
      refine (seq_skip (μ1 := μ) (by simp [startR, isT2, tyD, z1, z2])).trans ?_
      refine (seq_skip (μ1 := μ) (by simp [startR, isD, isNonD])).trans ?_
      exact seq_ret ((if_t (μ1 := μ) (by simp [startR, isT1, tyD, z3])).trans (ret_is (by simp [startR, isT1, tyD, z3, eqStr hs])))
    | non _ =>
      refine ⟨μ, run_is (m := b_law_same (m_law_same (n + 1))) ?_, .refl⟩
      unfold b_law_same
      refine (seq_skip (μ1 := μ) (by simp [startR, isT2, tyD, o1, o2])).trans ?_
      exact seq_ret ((if_t (μ1 := μ) (by simp [startR, isD, isNonD])).trans (ret_is (by simp [startR, isD, isNonD])))
    | tup _ l l' hl hz h =>
      exact same_items (n := n + 1) (l := l) (l' := l') rfl rfl rfl hl hz fun i a b μ' k ea eb => ih a b μ' ((h i a b ea eb).keep k)
    | lst _ r r' l l' e e' hl hz h =>
      exact same_items (n := n + 1) (l := l) (l' := l') (by simp only [itemsD, e]) (by simp only [itemsD, e']) (by simp only [tyD, e, e']) hl hz fun i a b μ' k ea eb => ih a b μ' ((h i a b ea eb).keep k)
end
end K01

/-! S131: what is drawn is a house; what is shown. -/
namespace K01
open PySem L2 RW
open Q
inductive RchF (ps : List Pipe) (a : Int) : Int → Prop
  | zero : RchF ps a a
  | fwd {p : Pipe} (hp : p ∈ ps) (h : RchF ps a p.a) : RchF ps a p.b
  | bwd {p : Pipe} (hp : p ∈ ps) (h : RchF ps a p.b) : RchF ps a p.a
theorem RchF.mono {ps qs : List Pipe} {a y : Int} (h : RchF ps a y) (s : ∀ p ∈ ps, p ∈ qs) : RchF qs a y := by
  induction h with
  | zero => exact .zero
  | fwd hp _ ih => exact .fwd (s _ hp) ih
  | bwd hp _ ih => exact .bwd (s _ hp) ih
theorem RchF.trans {ps : List Pipe} {a b y : Int} (h : RchF ps a b) (h2 : RchF ps b y) : RchF ps a y := by
  induction h2 with
  | zero => exact h
  | fwd hp _ ih => exact .fwd hp ih
  | bwd hp _ ih => exact .bwd hp ih
theorem tree_rch {S : List Int} {ps : List Pipe} (t : Tree S ps) : ∀ a ∈ S, ∀ y ∈ S, RchF ps a y := by
  induction t with
  | one x =>
    intro a ha y hy
    rw [List.mem_singleton.mp ha, List.mem_singleton.mp hy]; exact .zero
  | @grow S ps1 ps2 p x y0 t hy0 hx he hl ih =>
    have s : ∀ q ∈ ps1 ++ ps2, q ∈ ps1 ++ p :: ps2 := fun q hq => by
      rcases List.mem_append.mp hq with h | h
      · exact List.mem_append_left _ h
      · exact List.mem_append_right _ (List.mem_cons_of_mem _ h)
    have hp : p ∈ ps1 ++ p :: ps2 := List.mem_append_right _ (List.mem_cons_self ..)
    have e1 : RchF (ps1 ++ p :: ps2) y0 x := by
      rcases he with ⟨rfl, rfl⟩ | ⟨rfl, rfl⟩
      · exact .fwd hp .zero
      · exact .bwd hp .zero
    have e2 : RchF (ps1 ++ p :: ps2) x y0 := by
      rcases he with ⟨rfl, rfl⟩ | ⟨rfl, rfl⟩
      · exact .bwd hp .zero
      · exact .fwd hp .zero
    intro a ha y hy
    rcases List.mem_append.mp ha with ha | ha <;> rcases List.mem_append.mp hy with hy | hy
    · exact (ih a ha y hy).mono s
    · rw [List.mem_singleton.mp hy]; exact ((ih a ha y0 hy0).mono s).trans e1
    · rw [List.mem_singleton.mp ha]; exact e2.trans ((ih y0 hy0 y hy).mono s)
    · rw [List.mem_singleton.mp ha, List.mem_singleton.mp hy]; exact .zero
theorem house_joined {R : Nat} {ps : List Pipe} (H : House R ps) : Joined R ps := by
  obtain ⟨S, hS, t⟩ := H.tree
  have r1 := H.r1
  intro y h0 h1
  have m : ∀ z : Int, 0 ≤ z → z < R → z ∈ S := fun z a b => hS.mem_iff.mpr (mem_upTo.mpr ⟨a, b⟩)
  have h := tree_rch t 0 (m 0 (by omega) (by omega)) y (m y h0 h1)
  generalize y = y at h
  clear h0 h1
  induction h with
  | zero => exact .zero
  | fwd hp _ ih => exact .fwd hp ih
  | bwd hp _ ih => exact .bwd hp ih
theorem house_is {R : Nat} {ps : List Pipe} (H : House R ps) : HouseIs (houseD R ps) :=
  ⟨R, ps, rfl, ⟨H.r1, H.r2, H.len, fun p hp => ⟨H.ok p hp, H.rng p hp⟩⟩, H.nar, H.fla, house_joined H⟩
section
variable {ex : List Nat} {μ : Mem} {Z : Nat}
theorem int_lv {L : Nat} {i : Int} (hZ : bigZ ≤ Z) (h1 : -100000000000000 ≤ i) (h2 : i ≤ 100000000000000) {B : Nat} : Lv ex μ Z L B (.int i) :=
  .int (Nat.le_trans (show i.natAbs ≤ 100000000000000 by omega) (Nat.le_trans (by unfold bigZ; decide) hZ))
theorem pairs_lv {l : List (Int × Int)} (hZ : bigZ ≤ Z) (h : ∀ x ∈ l, (-100000000000000 ≤ x.1 ∧ x.1 ≤ 100000000000000) ∧ (-100000000000000 ≤ x.2 ∧ x.2 ≤ 100000000000000)) {B : Nat} (hB : l.length * 3 ≤ B) : Lv ex μ Z 2 B (.tup (l.map pairD)) :=
  .tup (LvL.of_list (B := 2) (fun y hy => by
    obtain ⟨x, hx, rfl⟩ := List.mem_map.mp hy
    obtain ⟨⟨a1, a2⟩, b1, b2⟩ := h x hx
    exact .tup (.cons (B := 0) (C := 1) (int_lv hZ a1 a2) (.cons (B := 0) (C := 0) (int_lv hZ b1 b2) .nil (by decide)) (by decide))) (by rw [List.length_map]; exact hB))
theorem pipe_lv {p : Pipe} (hZ : bigZ ≤ Z) (ok : p.Ok) (ha : 0 ≤ p.a ∧ p.a < 100) (hb : 0 ≤ p.b ∧ p.b < 100) (hn : p.nar.length ≤ 12) (hf : p.fl.length ≤ 6) : Lv ex μ Z 3 59 p.d := by
  have l1 := ok.l1
  have l2 := ok.l2
  have t1 : Lv ex μ Z 2 36 (.tup (p.nar.map pairD)) := pairs_lv hZ (fun x hx => by
    obtain ⟨q1, q2, q3, q4⟩ := ok.n2 x hx
    omega) (by omega)
  have t2 : Lv ex μ Z 2 18 (.tup (p.fl.map pairD)) := pairs_lv hZ (fun x hx => by
    obtain ⟨q1, q2, q3⟩ := ok.f2 x hx
    omega) (by omega)
  exact .tup (.cons (B := 0) (C := 58) (int_lv hZ (by omega) (by omega)) (.cons (B := 0) (C := 57) (int_lv hZ (by omega) (by omega)) (.cons (B := 0) (C := 56) (int_lv hZ (by omega) (by omega)) (.cons (C := 19) t1 (.cons (C := 0) t2 .nil (by decide)) (by decide)) (by decide)) (by decide)) (by decide))
theorem house_lv {R : Nat} {ps : List Pipe} (hZ : bigZ ≤ Z) (H : House R ps) : Lv ex μ Z 5 1000 (houseD R ps) := by
  have h1 := H.r2
  have h2 := H.len
  have t : LvL ex μ Z 3 900 (ps.map Pipe.d) := LvL.of_list (B := 59) (fun y hy => by
    obtain ⟨p, hp, rfl⟩ := List.mem_map.mp hy
    obtain ⟨a0, a1, a2⟩ := H.rng p hp
    have n := le_sum (f := fun p => (p.nar.length : Int)) (fun p => by omega) hp
    have f := le_sum (f := fun p => (p.fl.length : Int)) (fun p => by omega) hp
    have n2 := H.nar
    have f2 := H.fla
    exact pipe_lv hZ (H.ok p hp) ⟨by omega, by omega⟩ ⟨by omega, by omega⟩ (by omega) (by omega)) (by rw [List.length_map]; omega)
  exact .tup (.cons (B := 0) (C := 901) (int_lv hZ (by omega) (by omega)) (.cons (B := 900) (C := 0) (.tup t) .nil (by decide)) (by decide))
theorem repr_thg {B : Nat} {d : D} {p : PyData} (T : Thg ex μ 8 B d p) (hB : B ≤ 100000) : reprL [d] μ = .ok (.str p.shown) μ := by
  have e : D.sh? 8 μ d = some p := T.sh μ .refl
  have ok : showOk p = true := by
    simp only [showOk, Bool.and_eq_true, decide_eq_true_eq]
    refine ⟨⟨T.ok, ?_⟩, ?_⟩
    · have h1 := PyData.shown_le_bulk 60 (by decide) p T.short
      have h2 := T.small
      rw [sizeLine_eq]
      omega
    · have := T.deep
      omega
  simp only [reprL, e, ok, if_true]
theorem repr_bl {b : Bool} : reprL [.bl b] μ = .ok (.str (PyData.bool b).shown) μ := repr_thg (ex := []) (B := 0) (thg_bl) (by decide)
theorem neT_self {s : Str} : neT (.str s) (.str s) μ = .ok (.bl false) μ := by simp [neT]
/-- isinstance(v, int) and not isinstance(v, bool) -/
theorem int_not_bool {ρ : Rho} {x : MD} {v : D} {t : String} (hx : ∀ μ, x ρ μ = .ok v μ) (h : tyD v μ = some t) : mAndV (mUn (isT1 "int") x) (mNotV (mUn (isT1 "bool") x)) ρ μ = .ok (.bl (isInt v)) μ := by
  have e1 : isT1 "int" v μ = .ok (.bl (subT t "int")) μ := by simp only [isT1, h]
  have e2 : isT1 "bool" v μ = .ok (.bl (subT t "bool")) μ := by simp only [isT1, h]
  have e : (subT t "int" = true → subT t "bool" = !isInt v) ∧ (subT t "int" = false → isInt v = false) := by
    cases v with
    | bl b => cases h; exact ⟨fun _ => by rw [s_bb]; rfl, fun z => by rw [s_bi] at z; cases z⟩
    | int b => cases h; exact ⟨fun _ => by rw [s_ib]; rfl, fun z => by rw [s_ii] at z; cases z⟩
    | ref n =>
      refine ⟨fun z => ?_, fun _ => rfl⟩
      simp only [tyD] at h
      split at h <;> first | (cases h; exact absurd z (by decide +kernel)) | cases h
    | fn x => cases h
    | _ => cases h; exact ⟨fun z => absurd z (by decide +kernel), fun _ => rfl⟩
  have a1 : mUn (isT1 "int") x ρ μ = .ok (.bl (subT t "int")) μ := un_k (hx μ) e1
  have a2 : mUn (isT1 "bool") x ρ μ = .ok (.bl (subT t "bool")) μ := un_k (hx μ) e2
  cases hs : subT t "int" with
  | true =>
    rw [hs] at a1
    have := e.1 hs
    rw [this] at a2
    exact andV_t a1 ((notV_k a2).trans (by rw [Bool.not_not]))
  | false =>
    rw [hs] at a1
    rw [e.2 hs]
    exact andV_f a1
theorem same_ints {xs : List Int} (hl : xs.length ≤ 1000) : ∃ μ', m_law_same 8 [.tup (xs.map D.int), .tup (xs.map D.int)] μ = .ok (.bl true) μ' ∧ Keep [] μ μ' :=
  same_spec 7 _ _ μ (sm_refl 7 _ (by
    unfold PlainD
    refine ⟨by rw [List.length_map]; exact hl, fun x hx => ?_⟩
    obtain ⟨i, -, rfl⟩ := List.mem_map.mp hx
    unfold PlainD
    trivial))
end
end K01

namespace K01
open PySem L2 RW
theorem cut62 (ns : List Int) : cutD (ns.map D.int) none (some 62) = (ns.take 62).map D.int := by
  have e : HT.sIx ns.length ns.length (some 62) = min 62 ns.length := HT.sIx_nat _ _ 62
  unfold cutD
  rw [List.length_map, HT.sIx_none, e]
  simp only [List.drop_zero, Nat.sub_zero, List.map_take]
  by_cases h : 62 ≤ ns.length
  · rw [Nat.min_eq_left h]
  · rw [Nat.min_eq_right (by omega), List.take_of_length_le (by simp), List.take_of_length_le (by simp; omega)]
theorem rep_flat : ∀ t : Nat, (List.replicate t [D.int 0]).flatten = List.replicate t (D.int 0)
  | 0 => rfl
  | t + 1 => by simp [List.replicate_succ, rep_flat t]
theorem deck_spec (ns : List Int) (hn : ns.length ≤ 63) : ∃ (k c r : Nat) (μ : Mem), m_law_deck [.frl (ns.map D.int)] [] = .ok (.ref k) μ ∧ Dk μ k c r 0 := by
  obtain ⟨ms, hms⟩ : ∃ ms, ms = ns.take 62 := ⟨_, rfl⟩
  obtain ⟨as, has⟩ : ∃ as : List Int, as = ms.map fun x => if x < 0 then -x else x := ⟨_, rfl⟩
  obtain ⟨t, ht⟩ : ∃ t : Nat, t = if ns.length = 0 then 1 else 0 := ⟨_, rfl⟩
  have hl : ms.length ≤ 62 := by rw [hms, List.length_take]; omega
  have ha : as.length = ms.length := by rw [has, List.length_map]
  -- the memory, step by step
  obtain ⟨μ1, h1⟩ : ∃ μ1 : Mem, μ1 = [Cell.lst (ms.map D.int)] := ⟨_, rfl⟩
  obtain ⟨μ2, h2⟩ : ∃ μ2 : Mem, μ2 = μ1 ++ [Cell.lst (as.map D.int)] := ⟨_, rfl⟩
  obtain ⟨μ3, h3⟩ : ∃ μ3 : Mem, μ3 = μ2 ++ [Cell.lst [.int 0]] := ⟨_, rfl⟩
  obtain ⟨μ4, h4⟩ : ∃ μ4 : Mem, μ4 = μ3 ++ [Cell.lst (List.replicate t [D.int 0]).flatten] := ⟨_, rfl⟩
  obtain ⟨cs, hcs⟩ : ∃ cs : List Int, cs = as ++ List.replicate t 0 := ⟨_, rfl⟩
  have ec : as.map D.int ++ (List.replicate t [D.int 0]).flatten = cs.map D.int := by
    rw [hcs, List.map_append, List.map_replicate]
    congr 1
    exact rep_flat t
  obtain ⟨μ5, h5⟩ : ∃ μ5 : Mem, μ5 = μ4 ++ [Cell.lst (cs.map D.int)] := ⟨_, rfl⟩
  obtain ⟨rs, hrs⟩ : ∃ rs : List Int, rs = cs.map fun x => x * (if decide (1000000000000000000 ≤ x) = true then 1 else 0) := ⟨_, rfl⟩
  obtain ⟨μ6, h6⟩ : ∃ μ6 : Mem, μ6 = μ5 ++ [Cell.lst (rs.map D.int)] := ⟨_, rfl⟩
  have z1 : μ1.length = 1 := by rw [h1]; rfl
  have z2 : μ2.length = 2 := by rw [h2]; simp [z1]
  have z3 : μ3.length = 3 := by rw [h3]; simp [z2]
  have z4 : μ4.length = 4 := by rw [h4]; simp [z3]
  have z5 : μ5.length = 5 := by rw [h5]; simp [z4]
  have z6 : μ6.length = 6 := by rw [h6]; simp [z5]
  have e1 : μ1[0]? = some (.lst (ms.map D.int)) := by rw [h1]; rfl
  have e2 : μ2[1]? = some (.lst (as.map D.int)) := by rw [h2, ← z1]; exact app_new
  have e3 : μ3[2]? = some (.lst [.int 0]) := by rw [h3, ← z2]; exact app_new
  have e4 : μ4[3]? = some (.lst (List.replicate t [D.int 0]).flatten) := by rw [h4, ← z3]; exact app_new
  have e42 : μ4[1]? = some (.lst (as.map D.int)) := by rw [h4, h3]; exact app_at (app_at e2)
  have e5 : μ5[4]? = some (.lst (cs.map D.int)) := by rw [h5, ← z4]; exact app_new
  have e6 : μ6[5]? = some (.lst (rs.map D.int)) := by rw [h6, ← z5]; exact app_new
  have e65 : μ6[4]? = some (.lst (cs.map D.int)) := by rw [h6]; exact app_at e5
  have hcl : cs.length = ms.length + t := by rw [hcs]; simp [ha]
  have ht1 : t ≤ 1 := by rw [ht]; split <;> omega
  have hpos : 0 < cs.length := by
    rw [hcl, ht]
    split
    · omega
    · rw [hms, List.length_take]; omega
  have c1 : mComp (iSeq (mSlc (mVar 0) oNone (oSome (mC (.int 62))))) (gN 2) (mYes) (mB absL (mCons (mVar 2) (mNil))) [2] (startR 3 [.frl (ns.map D.int)]) [] = .ok (.ref 1) μ2 := by
    have hs : mSlc (mVar 0) oNone (oSome (mC (.int 62))) (startR 3 [.frl (ns.map D.int)]) [] = .ok (.ref 0) μ1 := by
      have := cut62 ns
      simp [startR, slcD, h1, hms, this]
    have hc := comp_map (chk := fun μ' => μ'[0]? = some (.lst (ms.map D.int))) (i := 2) (te := mB absL (mCons (mVar 2) (mNil))) (ρ0 := wipeR (startR 3 [.frl (ns.map D.int)]) [2]) ms (fun x => if x < 0 then -x else x) μ1 e1 (fun x _ => by simp [wipeR, startR, absL]) (by omega)
    rw [comp_is (seq_lst hs e1) hc, z1, h2, has]
  have c2 : mBin mulD (mLst (mCons (mC (.int 0)) (mNil))) (mB intL (mCons (mBin eqD (mB lenL (mCons (mVar 0) (mNil))) (mC (.int 0))) (mNil))) (startR 3 [.frl (ns.map D.int)]) μ2 = .ok (.ref 3) μ4 := by
    have hb : (if decide ((ns.length : Int) = 0) = true then (1 : Int) else 0) = (t : Int) := by
      rw [ht]
      by_cases h0 : ns.length = 0
      · simp [h0]
      · simp [h0]
    have hm : mulD (.ref 2) (.int (t : Int)) μ3 = .ok (.ref 3) μ4 := by
      have : -(2 ^ 63) ≤ (t : Int) ∧ (t : Int) < 2 ^ 63 ∧ [D.int 0].length * t ≤ sizeLine := by
        rw [sizeLine_eq]
        refine ⟨by omega, by omega, ?_⟩
        simp only [List.length_cons, List.length_nil]; omega
      simp only [mulD, e3, Int.toNat_natCast, if_pos this, z3, h4]
    have e' : mLst (mCons (mC (.int 0)) (mNil)) (startR 3 [.frl (ns.map D.int)]) μ2 = .ok (.ref 2) μ3 := by simp [z2, h3]
    have v' : mVar 0 (startR 3 [.frl (ns.map D.int)]) μ3 = .ok (.frl (ns.map D.int)) μ3 := rfl
    simp only [mBin, e', Res.bind, mB, mCons, mNil, v', mC, lenL, List.length_map, eqI, intL, hb, hm]
  have c3 : mComp (iSeq (mVar 1)) (gN 2) (mYes) (mBin mulD (mVar 2) (mB intL (mCons (mBin (cmpI fun i j => decide (j ≤ i)) (mVar 2) (mBin powD (mC (.int 10)) (mC (.int 18)))) (mNil)))) [2] ((startR 3 [.frl (ns.map D.int)]).set 1 (some (.ref 4))) μ5 = .ok (.ref 5) μ6 := by
    have hc := comp_map (chk := fun μ' => μ'[4]? = some (.lst (cs.map D.int))) (i := 2) (te := mBin mulD (mVar 2) (mB intL (mCons (mBin (cmpI fun i j => decide (j ≤ i)) (mVar 2) (mBin powD (mC (.int 10)) (mC (.int 18)))) (mNil)))) (ρ0 := wipeR ((startR 3 [.frl (ns.map D.int)]).set 1 (some (.ref 4))) [2]) cs (fun x => x * (if decide (1000000000000000000 ≤ x) = true then 1 else 0)) μ5 e5 (fun x _ => by
      have hb : (if decide (1000000000000000000 ≤ x) = true then (1 : Int) else 0).natAbs < 18446744073709551616 := by split <;> decide
      have hpw : powD (.int 10) (.int 18) μ5 = .ok (.int 1000000000000000000) μ5 := by rfl
      simp only [mBin, mB, mCons, mNil, mC, Res.bind, hpw]
      simp only [wipeR, startR, mVar, List.map_cons, List.map_nil, List.cons_append, List.nil_append, List.length_cons, List.length_nil, List.replicate, List.set_cons_succ, List.set_cons_zero, List.getElem?_cons_succ, List.getElem?_cons_zero, Res.bind, cmpI, intL]
      exact mul_ok (.inr hb)) (by omega)
    have hv : mVar 1 ((startR 3 [.frl (ns.map D.int)]).set 1 (some (.ref 4))) μ5 = .ok (.ref 4) μ5 := rfl
    rw [comp_is (seq_lst hv e5) hc, z5, h6, hrs]
  refine ⟨6, 4, 5, μ6 ++ [.lst [.ref 4, .ref 5, .int 0]], run_is ?_, ⟨by omega, cs, rs, 0, by rw [← z6]; exact app_new, app_at e65, app_at e6, by rw [hrs, List.length_map], hpos, Nat.le_refl _⟩⟩
  unfold b_law_deck
  rw [seq_set (d := .ref 4) (μ1 := μ5) (by
    have ha' : addD (.ref 1) (.ref 3) μ4 = .ok (.ref 4) μ5 := by
      rw [catL_ok e42 e4 (by simp [ha]; omega), z4, h5, ec]
    rw [mBin, c1]
    simp only [Res.bind]
    rw [c2]
    exact ha')]
  refine ret_is ?_
  have hv : mVar 1 ((startR 3 [.frl (ns.map D.int)]).set 1 (some (.ref 4))) μ5 = .ok (.ref 4) μ5 := rfl
  simp only [mLst, mCons, hv, c3, Res.bind, mC, mNil, z6]
  rfl
end K01

/-! k01: the law. -/
namespace K01
open PySem L2 RW
open Q
noncomputable def lits : MD := mLst (mCons (mC .non) (mCons (mC (.bl true)) (mCons (mC (.int 0)) (mCons (mC (.int 1)) (mCons (mC (.str "")) (mCons (mTup (mNil)) (mCons (mLst (mNil)) (mCons (mDicNew) (mCons (mTup (mCons (mC (.int 1)) (mNil))) (mCons (mLst (mCons (mC (.int 1)) (mCons (mTup (mNil)) (mNil)))) (mCons (mTup (mCons (mC (.int 1)) (mCons (mLst (mNil)) (mNil)))) (mCons (mTup (mCons (mC (.bl true)) (mCons (mTup (mNil)) (mNil)))) (mCons (mTup (mCons (mC (.str "1")) (mCons (mTup (mNil)) (mNil)))) (mCons (mTup (mCons (mC (.int 1)) (mCons (mTup (mNil)) (mCons (mTup (mNil)) (mNil))))) (mNil)))))))))))))))
noncomputable def four : MD := mLst (mCons (mVar 4) (mCons (mVar 5) (mCons (mB m_law_spoilt (mCons (mVar 1) (mCons (mVar 4) (mNil)))) (mCons (mB m_law_spoilt (mCons (mVar 1) (mCons (mVar 5) (mNil)))) (mNil)))))
noncomputable def turnB : MS := sSeq (sSet 4 (mB m_law_house (mCons (mVar 1) (mCons (mBin idxA (mLst (mCons (mC (.int 4)) (mCons (mC (.int 16)) (mNil)))) (mB m_law_next (mCons (mVar 1) (mCons (mC (.int 2)) (mNil))))) (mCons (mB m_law_next (mCons (mVar 1) (mCons (mC (.int 2)) (mNil)))) (mCons (mC (.int 1)) (mNil)))))))
    (sSeq (sSet 5 (mB m_law_spoilt (mCons (mVar 1) (mCons (mVar 4) (mNil)))))
    (sSeq (sSet 2 (mBin addD (mVar 2) four))
    (sIf (mNot (mTest (mB m_is_house (mCons (mVar 4) (mNil))))) (sRet (mC (.bl false))) (sNil))))
noncomputable def seeB : MS := sSeq (sSet 7 (mB reprL (mCons (mVar 6) (mNil))))
    (sSeq (sSet 8 (mB m_is_house (mCons (mVar 6) (mNil))))
    (sSeq (sIf (mOr (mNot (mTest (mUn (isT1 "bool") (mVar 8)))) (mOr (mTest (mBin neD (mVar 8) (mB m_law_is_one (mCons (mVar 6) (mNil))))) (mTest (mBin neT (mB reprL (mCons (mVar 6) (mNil))) (mVar 7))))) (sRet (mC (.bl false))) (sNil))
    (sIf (mTest (mBin neT (mB reprL (mCons (mB m_is_whole (mCons (mVar 6) (mNil))) (mNil))) (mB reprL (mCons (mAndV (mUn (isT1 "int") (mVar 6)) (mNotV (mUn (isT1 "bool") (mVar 6)))) (mNil))))) (sRet (mC (.bl false))) (sNil))))
noncomputable def endB1 : MS := sSeq (sIf (mNot (mTest (mB (m_law_same 8) (mCons (mTup (mCons (mC (.int 16)) (mCons (mC (.int 1000000000000)) (mCons (mC (.int 1000000)) (mCons (mC (.int 12)) (mCons (mC (.int 6)) (mNil))))))) (mCons (mTup (mCons (mC (.int 16)) (mCons (mBin powD (mC (.int 10)) (mC (.int 12))) (mCons (mBin powD (mC (.int 10)) (mC (.int 6))) (mCons (mC (.int 12)) (mCons (mC (.int 6)) (mNil))))))) (mNil)))))) (sRet (mC (.bl false))) (sNil))
    (sRet (mB (m_law_same 8) (mCons (mTup (mCons (mC (.int 100000000000000)) (mCons (mC (.int 4)) (mCons (mC (.int 0)) (mCons (mC (.int 1)) (mNil)))))) (mCons (mTup (mCons (mBin powD (mC (.int 10)) (mC (.int 14))) (mCons (mC (.int 4)) (mCons (mC (.int 0)) (mCons (mC (.int 1)) (mNil)))))) (mNil)))))
theorem law_eq : b_law = sSeq (sSet 1 (mB m_law_deck (mCons (mVar 0) (mNil))))
    (sSeq (sSet 2 (mBin addD (mB m_law_edges mNil) lits))
    (sSeq (sFor (iRange1 (mCons (mC (.int 4)) (mNil))) (gN 3) turnB)
    (sSeq (sFor (iSeq (mVar 2)) (gN 6) seeB) endB1))) := rfl
section
variable {μ : Mem} {k c r N : Nat}
abbrev rho (v0 v1 v2 v3 v4 v5 v6 v7 v8 : Option D) : Rho := [v0, v1, v2, v3, v4, v5, v6, v7, v8]
abbrev bZ : Nat := bigZ + 100
/-- the things gathered at m -/
def All (k r : Nat) (μ : Mem) (m n : Nat) : Prop := ∃ ys, μ[m]? = some (.lst ys) ∧ m ∉ [k, r] ∧ ys.length ≤ n ∧ ∀ y ∈ ys, Lv [k, r] μ bZ 7 5000 y
theorem All.keep {μ' : Mem} {m n : Nat} (h : All k r μ m n) (kk : Keep [k, r] μ μ') : All k r μ' m n := by
  obtain ⟨ys, a, b, d, e⟩ := h
  exact ⟨ys, kk.get a b, b, d, fun y hy => (e y hy).keep kk⟩
theorem All.add {m n j : Nat} {e : MD} {ρ : Rho} {μ1 : Mem} {zs : List D} {x : MD} (h : All k r μ m n) (hx : x ρ μ = .ok (.ref m) μ) (he : e ρ μ = .ok (.ref j) μ1) (kk : Keep [k, r] μ μ1) (ez : μ1[j]? = some (.lst zs)) (hz : ∀ z ∈ zs, Lv [k, r] μ1 bZ 7 5000 z) (hk : k < μ.length) (hr : r < μ.length) (hn : n + zs.length ≤ 1000) :
    ∃ m' μ', mBin addD x e ρ μ = .ok (.ref m') μ' ∧ All k r μ' m' (n + zs.length) ∧ Keep [] μ1 μ' := by
  obtain ⟨ys, a, b, d, f⟩ := h
  have l1 := kk.1
  have e1 : μ1[m]? = some (.lst ys) := kk.get a b
  have ka : Keep [k, r] μ1 (μ1 ++ [.lst (ys ++ zs)]) := Keep.app
  refine ⟨μ1.length, μ1 ++ [.lst (ys ++ zs)], bin_k hx he (catL_ok e1 ez (by omega)), ⟨ys ++ zs, app_new, by simp; omega, by rw [List.length_append]; omega, fun y hy => ?_⟩, Keep.app⟩
  rcases List.mem_append.mp hy with hy | hy
  · exact ((f y hy).keep kk).keep ka
  · exact (hz y hy).keep ka
theorem call4m {ρ : Rho} {μ1 μ2 μ3 μ4 μ5 : Mem} {f : Sem} {x y z w : MD} {a b d e g : D} (h1 : x ρ μ = .ok a μ1) (h2 : y ρ μ1 = .ok b μ2) (h3 : z ρ μ2 = .ok d μ3) (h4 : w ρ μ3 = .ok e μ4) (h : f [a, b, d, e] μ4 = .ok g μ5) : mB f (mCons x (mCons y (mCons z (mCons w mNil)))) ρ μ = .ok g μ5 := by
  simp only [mB, mCons, mNil, h1, h2, h3, h4, Res.bind]; exact h
theorem lst4k {ρ : Rho} {μ1 μ2 μ3 μ4 : Mem} {x y z w : MD} {a b d e : D} (h1 : x ρ μ = .ok a μ1) (h2 : y ρ μ1 = .ok b μ2) (h3 : z ρ μ2 = .ok d μ3) (h4 : w ρ μ3 = .ok e μ4) : mLst (mCons x (mCons y (mCons z (mCons w mNil)))) ρ μ = .ok (.ref μ4.length) (μ4 ++ [.lst [a, b, d, e]]) := by
  simp only [mLst, mCons, mNil, h1, h2, h3, h4, Res.bind]
  rfl
theorem drawV {ρ : Rho} {j : Int} {e : MD} (h : Dk μ k c r N) (hN : N < 1000000) (hj : 0 < j) (hj2 : j < 18446744073709551616) (h0 : ρ[1]? = some (some (.ref k))) (he : e ρ μ = .ok (.int j) μ) :
    ∃ (x : Int) (μ' : Mem), mB m_law_next (mCons (mVar 1) (mCons e mNil)) ρ μ = .ok (.int x) μ' ∧ 0 ≤ x ∧ x < j ∧ Dk μ' k c r (N + 1) ∧ Keep [k, r] μ μ' := by
  obtain ⟨x, μ', q, x0, x1, d, kk, _⟩ := next_spec h hN hj hj2
  have m0 : mVar 1 ρ μ = .ok (.ref k) μ := by simp only [mVar, h0]
  exact ⟨x, μ', call2k m0 he q, x0, x1, d, kk⟩
theorem turn_spec {v0 v3 v4 v5 v6 v7 v8 : Option D} {m n : Nat} (h : Dk μ k c r N) (hN : N + 6000 < 1000000) (g : All k r μ m n) (hn : n ≤ 500) :
    ∃ v4' v5' m' μ', turnB (rho v0 (some (.ref k)) (some (.ref m)) v3 v4 v5 v6 v7 v8) μ = .ok (.nx (rho v0 (some (.ref k)) (some (.ref m')) v3 v4' v5' v6 v7 v8)) μ' ∧ All k r μ' m' (n + 4) ∧ Dk μ' k c r (N + 6000) ∧ Keep [k, r] μ μ' := by
  let ρ : Rho := rho v0 (some (.ref k)) (some (.ref m)) v3 v4 v5 v6 v7 v8
  have lt := h.lt
  let μ1 : Mem := μ ++ [.lst [.int 4, .int 16]]
  have d1 : Dk μ1 k c r N := h.app
  have e1 : μ1[μ.length]? = some (.lst [.int 4, .int 16]) := app_new
  obtain ⟨x, μ2, q2, x0, x1, d2, k2⟩ := drawV (ρ := ρ) (e := mC (.int 2)) (j := 2) d1 (by omega) (by decide) (by decide) rfl rfl
  have e2 : μ2[μ.length]? = some (.lst [.int 4, .int 16]) := k2.get e1 (by simp; omega)
  obtain ⟨most, hm, hm1, hm2⟩ : ∃ most : Int, ([D.int 4, .int 16] : List D)[x.toNat]? = some (.int most) ∧ 1 ≤ most ∧ most ≤ 16 := by
    have : x = 0 ∨ x = 1 := by omega
    rcases this with rfl | rfl
    · exact ⟨4, rfl, by decide, by decide⟩
    · exact ⟨16, rfl, by decide, by decide⟩
  have qm : mBin idxA (mLst (mCons (mC (.int 4)) (mCons (mC (.int 16)) (mNil)))) (mB m_law_next (mCons (mVar 1) (mCons (mC (.int 2)) (mNil)))) ρ μ = .ok (.int most) μ2 := bin_k (p := .ref μ.length) (μ1 := μ1) rfl q2 (ix_lst e2 x0 hm)
  obtain ⟨far, μ3, q3, f0, f1, d3, k3⟩ := drawV (ρ := ρ) (e := mC (.int 2)) (j := 2) d2 (by omega) (by decide) (by decide) rfl rfl
  obtain ⟨R, ps, μ4, q4, H, -, -, d4, k4⟩ := house_spec (most := most) (far := far) (fl := 1) d3 (by omega) hm1 hm2 (by omega) (by omega)
  have c4 := call4m (μ := μ) (ρ := ρ) (x := mVar 1) (a := .ref k) (μ1 := μ) rfl qm q3 (w := mC (.int 1)) (e := .int 1) (μ4 := μ3) rfl q4
  have ka : Keep [k, r] μ μ4 := (Keep.trans (Keep.app (cs := [.lst [.int 4, .int 16]])) k2).trans (k3.trans k4)
  have hv : ∀ {μ : Mem}, Lv [k, r] μ bigZ 5 1000 (houseD R ps) := house_lv (Nat.le_refl _) H
  obtain ⟨b, μ5, q5, v5, d5, k5⟩ := spoilt_any d4 (by omega) (Nat.le_refl _) (by omega) (by decide) (by decide) hv
  obtain ⟨s1, μ6, q6, v6', d6, k6⟩ := spoilt_any d5 (by omega) (Nat.le_refl _) (by omega) (by decide) (by decide) hv
  obtain ⟨s2, μ7, q7, v7', d7, k7⟩ := spoilt_any d6 (by omega) (Nat.le_add_right bigZ 16) (by omega) (by decide) (by decide) (v5.keep k6)
  let ρ5 : Rho := rho v0 (some (.ref k)) (some (.ref m)) v3 (some (houseD R ps)) (some b) v6 v7 v8
  let μ8 : Mem := μ7 ++ [.lst [houseD R ps, b, s1, s2]]
  have hbz : bZ = bigZ + 100 := rfl
  have cl : four ρ5 μ5 = .ok (.ref μ7.length) μ8 := lst4k (μ := μ5) (a := houseD R ps) (b := b) rfl rfl (call2k (p := .ref k) (q := houseD R ps) (μ1 := μ5) (μ2 := μ5) rfl rfl q6) (call2k (p := .ref k) (q := b) (μ1 := μ6) (μ2 := μ6) rfl rfl q7)
  have k8 : Keep [k, r] μ7 μ8 := Keep.app
  have l4 := d5.lt
  obtain ⟨m', μ9, q9, g9, k9⟩ := All.add (x := mVar 2) (ρ := ρ5) (zs := [houseD R ps, b, s1, s2]) (g.keep (ka.trans k5)) rfl cl ((k6.trans k7).trans k8) app_new (fun z hz => by
    simp only [List.mem_cons, List.not_mem_nil, or_false] at hz
    rcases hz with rfl | rfl | rfl | rfl
    · exact hv.le (by omega) (by decide) (by decide)
    · exact (((v5.keep k6).keep k7).keep k8).le (by omega) (by decide) (by decide)
    · exact ((v6'.keep k7).keep k8).le (by omega) (by decide) (by decide)
    · exact (v7'.keep k8).le (by omega) (by decide) (by decide)) l4.1 l4.2.2 (by simp; omega)
  have sk : Sk μ9 6 (houseD R ps) := hv.sk (by unfold bigZ; decide)
  obtain ⟨t, μA, qA, kA, hA⟩ := house_any sk
  have ht : t = true := hA.mpr (house_is H)
  subst ht
  have kA' : Keep [k, r] μ9 μA := kA.mono fun i hi => (List.not_mem_nil hi).elim
  have k9' : Keep [k, r] μ8 μ9 := k9.mono fun i hi => (List.not_mem_nil hi).elim
  have d8 : Dk μ8 k c r _ := d7.app
  have d9 : Dk μ9 k c r _ := d8.keep k9 (by simp) (by simp) (by simp)
  refine ⟨some (houseD R ps), some b, m', μA, ?_, g9.keep kA', (d9.keep kA (by simp) (by simp) (by simp)).mono (by omega), ((((ka.trans k5).trans k6).trans k7).trans k8).trans (k9'.trans kA')⟩
  unfold turnB
  refine (seq_set c4).trans ((seq_set (call2k (p := .ref k) (q := houseD R ps) (μ1 := μ4) (μ2 := μ4) rfl rfl q5)).trans ((seq_set q9).trans ?_))
  exact (if_f (not_k (b := true) (test_k (call1k (p := houseD R ps) (μ1 := μ9) rfl qA)))).trans rfl
theorem turns_spec {v0 v6 v7 v8 : Option D} : ∀ (its : List D) {μ : Mem} {N : Nat} {m n : Nat} {v3 v4 v5 : Option D}, Dk μ k c r N → N + 6000 * its.length < 1000000 → All k r μ m n → n + 4 * its.length ≤ 500 →
    ∃ v3' v4' v5' m' μ', forL (fun _ => True) (gN 3) turnB its (rho v0 (some (.ref k)) (some (.ref m)) v3 v4 v5 v6 v7 v8) μ = .ok (.nx (rho v0 (some (.ref k)) (some (.ref m')) v3' v4' v5' v6 v7 v8)) μ' ∧ All k r μ' m' (n + 4 * its.length) ∧ Keep [k, r] μ μ' := by
  intro its
  induction its with
  | nil => intro μ N m n v3 v4 v5 h hN g hn; exact ⟨v3, v4, v5, m, μ, for_nil trivial, g, .refl⟩
  | cons d its ih =>
    intro μ N m n v3 v4 v5 h hN g hn
    rw [List.length_cons] at hN hn
    obtain ⟨a4, a5, m1, μ1, q1, g1, d1, k1⟩ := turn_spec (v0 := v0) (v3 := some d) (v4 := v4) (v5 := v5) (v6 := v6) (v7 := v7) (v8 := v8) h (by omega) g (by omega)
    obtain ⟨v3', v4', v5', m', μ', q, g', k'⟩ := ih (v3 := some d) (v4 := a4) (v5 := a5) d1 (by omega) g1 (by omega)
    refine ⟨v3', v4', v5', m', μ', (for_nx trivial rfl q1).trans q, ?_, k1.trans k'⟩
    rw [List.length_cons, show n + 4 * (its.length + 1) = n + 4 + 4 * its.length by omega]; exact g'
theorem see_spec {v0 v1 v2 v3 v4 v5 v7 v8 : Option D} {d : D} (hd : Lv [k, r] μ bZ 7 5000 d) :
    ∃ v7' v8' μ', seeB (rho v0 v1 v2 v3 v4 v5 (some d) v7 v8) μ = .ok (.nx (rho v0 v1 v2 v3 v4 v5 (some d) v7' v8')) μ' ∧ Keep [] μ μ' := by
  have hz : bZ < 10 ^ 50 := by unfold bZ bigZ; decide
  have w : ∀ {a b : Mem}, Keep [] a b → Keep [k, r] a b := fun k => k.mono fun i hi => (List.not_mem_nil hi).elim
  obtain ⟨p, T⟩ := hd.thg hz
  have c1 : mB reprL (mCons (mVar 6) (mNil)) (rho v0 v1 v2 v3 v4 v5 (some d) v7 v8) μ = .ok (.str p.shown) μ := call1k (p := d) (μ1 := μ) rfl (repr_thg T (by decide))
  obtain ⟨b, μ2, q2, k2, h2⟩ := house_any (hd.sk hz)
  let ρ2 : Rho := rho v0 v1 v2 v3 v4 v5 (some d) (some (.str p.shown)) (some (.bl b))
  have hd2 := hd.keep (w k2)
  obtain ⟨b', μ3, q3, k3, h3⟩ := lone_any (hd2.sk hz) (hd2.ln 4 (by decide))
  have hb : b' = b := of_iff h3 h2
  subst hb
  have T3 := (T.keep (w k2)).keep (w k3)
  obtain ⟨t, ht⟩ := (hd2.keep (w k3)).ty hz
  have a1 : mNot (mTest (mUn (isT1 "bool") (mVar 8))) ρ2 μ2 = .ok false μ2 := not_k (b := true) (test_k (un_k (p := .bl b') (μ1 := μ2) rfl (by simp [isT1, tyD, s_bb])))
  have a2 : mTest (mBin neD (mVar 8) (mB m_law_is_one (mCons (mVar 6) (mNil)))) ρ2 μ2 = .ok false μ3 := test_k (bin_k (p := .bl b') (q := .bl b') (μ1 := μ2) (μ2 := μ3) rfl (call1k (p := d) (μ1 := μ2) rfl q3) (neBl.trans (by cases b' <;> rfl)))
  have a3 : mTest (mBin neT (mB reprL (mCons (mVar 6) (mNil))) (mVar 7)) ρ2 μ3 = .ok false μ3 := test_k (bin_k (p := .str p.shown) (q := .str p.shown) (μ1 := μ3) (μ2 := μ3) (call1k (p := d) (μ1 := μ3) rfl (repr_thg T3 (by decide))) rfl neT_self)
  have a4 : mTest (mBin neT (mB reprL (mCons (mB m_is_whole (mCons (mVar 6) (mNil))) (mNil))) (mB reprL (mCons (mAndV (mUn (isT1 "int") (mVar 6)) (mNotV (mUn (isT1 "bool") (mVar 6)))) (mNil)))) ρ2 μ3 = .ok false μ3 :=
    test_k (bin_k (p := .str (PyData.bool (isInt d)).shown) (q := .str (PyData.bool (isInt d)).shown) (μ1 := μ3) (μ2 := μ3) (call1k (p := .bl (isInt d)) (μ1 := μ3) (call1k (p := d) (μ1 := μ3) rfl (whole_any ht)) repr_bl) (call1k (p := .bl (isInt d)) (μ1 := μ3) (int_not_bool (fun μ => rfl) ht) repr_bl) neT_self)
  refine ⟨some (.str p.shown), some (.bl b'), μ3, ?_, k2.trans k3⟩
  unfold seeB
  refine (seq_set c1).trans ((seq_set (call1k (p := d) (μ1 := μ) rfl q2)).trans ((seq_skip (or_f a1 (or_f a2 a3))).trans ?_))
  exact (if_f a4).trans rfl
theorem sees_spec {v0 v1 v2 v3 v4 v5 : Option D} {chk : Mem → Prop} : ∀ (its : List D) {μ : Mem} {v6 v7 v8 : Option D}, (∀ μ', Keep [] μ μ' → chk μ') → (∀ d ∈ its, Lv [k, r] μ bZ 7 5000 d) →
    ∃ v6' v7' v8' μ', forL chk (gN 6) seeB its (rho v0 v1 v2 v3 v4 v5 v6 v7 v8) μ = .ok (.nx (rho v0 v1 v2 v3 v4 v5 v6' v7' v8')) μ' ∧ Keep [] μ μ' := by
  intro its
  induction its with
  | nil => intro μ v6 v7 v8 hc _; exact ⟨v6, v7, v8, μ, for_nil (hc _ .refl), .refl⟩
  | cons d its ih =>
    intro μ v6 v7 v8 hc h
    obtain ⟨a7, a8, μ1, q1, k1⟩ := see_spec (v0 := v0) (v1 := v1) (v2 := v2) (v3 := v3) (v4 := v4) (v5 := v5) (v7 := v7) (v8 := v8) (h d (List.mem_cons_self ..))
    have k1' : Keep [k, r] μ μ1 := k1.mono fun i hi => (List.not_mem_nil hi).elim
    obtain ⟨v6', v7', v8', μ', q, k'⟩ := ih (v6 := some d) (v7 := a7) (v8 := a8) (fun μ2 k2 => hc _ (k1.trans k2)) (fun z hz => (h z (List.mem_cons_of_mem _ hz)).keep k1')
    exact ⟨v6', v7', v8', μ', (for_nx (hc _ .refl) rfl q1).trans q, k1.trans k'⟩
theorem lits_spec {ρ : Rho} (hk : k < μ.length) (hr : r < μ.length) : ∃ j μ' zs, lits ρ μ = .ok (.ref j) μ' ∧ Keep [] μ μ' ∧ μ'[j]? = some (.lst zs) ∧ zs.length = 14 ∧ ∀ z ∈ zs, Lv [k, r] μ' bZ 7 5000 z := by
  let zs : List D := [.non, .bl true, .int 0, .int 1, .str "", .tup [], .ref μ.length, .ref (μ.length + 1), .tup [.int 1], .ref (μ.length + 2), .tup [.int 1, .ref (μ.length + 3)], .tup [.bl true, .tup []], .tup [.str "1", .tup []], .tup [.int 1, .tup [], .tup []]]
  let cs : List Cell := [.lst [], .dic [], .lst [.int 1, .tup []], .lst [], .lst zs]
  have q : lits ρ μ = .ok (.ref (μ.length + 4)) (μ ++ cs) := by
    unfold lits
    simp [mDicNew, cs, zs]
  have e0 : (μ ++ cs)[μ.length]? = some (.lst []) := by simp [cs]
  have e1 : (μ ++ cs)[μ.length + 1]? = some (.dic []) := by simp [cs]
  have e2 : (μ ++ cs)[μ.length + 2]? = some (.lst [.int 1, .tup []]) := by simp [cs]
  have e3 : (μ ++ cs)[μ.length + 3]? = some (.lst []) := by simp [cs]
  have e4 : (μ ++ cs)[μ.length + 4]? = some (.lst zs) := by simp [cs]
  have no : ∀ j, μ.length ≤ j → j ∉ [k, r] := fun j hj => by simp; omega
  refine ⟨_, _, zs, q, Keep.app, e4, rfl, fun z hz => ?_⟩
  have small : ∀ (L B : Nat) (i : Int), -10 ≤ i → i ≤ 10 → Lv [k, r] (μ ++ cs) bZ L B (.int i) := fun L B i h1 h2 => .int (by unfold bZ bigZ; omega)
  have two : ∀ {x y : D} {L : Nat}, Lv [k, r] (μ ++ cs) bZ L 10 x → Lv [k, r] (μ ++ cs) bZ L 10 y → LvL [k, r] (μ ++ cs) bZ L 5000 [x, y] := fun a b => .cons (C := 11) a (.cons (C := 0) b .nil (by decide)) (by decide)
  simp only [zs, List.mem_cons, List.not_mem_nil, or_false] at hz
  rcases hz with rfl | rfl | rfl | rfl | rfl | rfl | rfl | rfl | rfl | rfl | rfl | rfl | rfl | rfl
  · exact .non
  · exact .bl
  · exact small _ _ _ (by decide) (by decide)
  · exact small _ _ _ (by decide) (by decide)
  · exact .str (by decide) (by decide)
  · exact .tup0
  · exact .lst0 e0 (no _ (by omega))
  · exact .dic0 e1 (no _ (by omega))
  · exact .tup (.cons (C := 0) (small _ 10 _ (by decide) (by decide)) .nil (by decide))
  · exact .lst e2 (no _ (by omega)) (two (small _ _ _ (by decide) (by decide)) .tup0)
  · exact .tup (two (small _ _ _ (by decide) (by decide)) (.lst0 e3 (no _ (by omega))))
  · exact .tup (two .bl .tup0)
  · exact .tup (two (.str (by decide) (by decide)) .tup0)
  · exact .tup (.cons (C := 22) (small _ 10 _ (by decide) (by decide)) (.cons (B := 10) (C := 11) .tup0 (.cons (B := 10) (C := 0) .tup0 .nil (by decide)) (by decide)) (by decide))
theorem end_spec {ρ : Rho} : ∃ μ', endB1 ρ μ = .ok (.ret (.bl true)) μ' := by
  obtain ⟨μ1, q1, -⟩ := same_ints (μ := μ) (xs := [16, 1000000000000, 1000000, 12, 6]) (by decide)
  obtain ⟨μ2, q2, -⟩ := same_ints (μ := μ1) (xs := [100000000000000, 4, 0, 1]) (by decide)
  refine ⟨μ2, ?_⟩
  unfold endB1
  exact (seq_skip (not_k (b := true) (test_k (call2k (p := .tup [.int 16, .int 1000000000000, .int 1000000, .int 12, .int 6]) (q := .tup [.int 16, .int 1000000000000, .int 1000000, .int 12, .int 6]) (μ1 := μ) (μ2 := μ) rfl rfl q1)))).trans
    (ret_is (call2k (p := .tup [.int 100000000000000, .int 4, .int 0, .int 1]) (q := .tup [.int 100000000000000, .int 4, .int 0, .int 1]) (μ1 := μ1) (μ2 := μ1) rfl rfl q2))
end
theorem math (ns : List Int) (hn : ns.length ≤ 63) : ∃ μ, m_law [.frl (ns.map D.int)] [] = .ok (.bl true) μ := by
  obtain ⟨k, c, r, μ1, q1, d1⟩ := deck_spec ns hn
  let V : Option D := some (.frl (ns.map D.int))
  have l1 := d1.lt
  let ρ1 : Rho := rho V (some (.ref k)) none none none none none none none
  obtain ⟨m2, μ2, q2, g2, k2, h2⟩ := edges_any (k := k) (r := r) l1.1 l1.2.2
  have n2 := k2.1
  obtain ⟨j, μ3, zs, q3, k3, e3, lz, vz⟩ := lits_spec (k := k) (r := r) (μ := μ2) (ρ := ρ1) (by omega) (by omega)
  have w : ∀ {a b : Mem}, Keep [] a b → Keep [k, r] a b := fun k => k.mono fun i hi => (List.not_mem_nil hi).elim
  obtain ⟨m4, μ4, q4, g4, k4⟩ : ∃ m' μ', mBin addD (mB m_law_edges mNil) lits ρ1 μ1 = .ok (.ref m') μ' ∧ All k r μ' m' (100 + zs.length) ∧ Keep [] μ3 μ' := by
    obtain ⟨ys, a, b, f⟩ := g2
    have e1 : μ3[m2]? = some (.lst ys) := k3.get a (by simp)
    have n3 := k3.1
    have ka : Keep [k, r] μ3 (μ3 ++ [.lst (ys ++ zs)]) := Keep.app
    refine ⟨μ3.length, μ3 ++ [.lst (ys ++ zs)], bin_k (p := .ref m2) (μ1 := μ2) ?_ q3 (catL_ok e1 e3 (by omega)), ⟨ys ++ zs, app_new, by simp; omega, by rw [List.length_append]; omega, fun y hy => ?_⟩, Keep.app⟩
    · simp only [mB, mNil, Res.bind]; exact q2
    · rcases List.mem_append.mp hy with hy | hy
      · exact (((f y hy).keep (w k3)).keep ka).le (Nat.le_add_right _ _) (by decide) (by decide)
      · exact (vz y hy).keep ka
  have d4 : Dk μ4 k c r 0 := d1.keep ((k2.trans k3).trans k4) (by simp) (by simp) (by simp)
  obtain ⟨v3, v4, v5, m5, μ5, q5, g5, k5⟩ := turns_spec (v0 := V) (v6 := none) (v7 := none) (v8 := none) (rangeItems 0 4) (v3 := none) (v4 := none) (v5 := none) d4 (by decide) g4 (by rw [lz]; decide)
  obtain ⟨ys, ey, hm, hl, hy⟩ := g5
  obtain ⟨v6, v7, v8, μ6, q6, k6⟩ := sees_spec (k := k) (r := r) (v0 := V) (v1 := some (.ref k)) (v2 := some (.ref m5)) (v3 := v3) (v4 := v4) (v5 := v5) (chk := fun μ' => μ'[m5]? = some (.lst ys)) ys (v6 := none) (v7 := none) (v8 := none) (fun μ' kk => kk.get ey (by simp)) hy
  obtain ⟨μ7, q7⟩ := end_spec (μ := μ6) (ρ := rho V (some (.ref k)) (some (.ref m5)) v3 v4 v5 v6 v7 v8)
  refine ⟨μ7, run_is ?_⟩
  rw [law_eq]
  refine (seq_set (call1k (p := .frl (ns.map D.int)) (μ1 := []) rfl q1)).trans ?_
  show sSeq _ _ ρ1 μ1 = _
  refine (seq_set q4).trans ?_
  show sSeq _ _ (rho V (some (.ref k)) (some (.ref m4)) none none none none none none) μ4 = _
  refine (seq_run (for_run (ir1 (n := 4) (e := mC (.int 4)) rfl (by decide)) q5)).trans ?_
  exact (seq_run (for_run (seq_lst (n := m5) (μ1 := μ5) rfl ey) q6)).trans q7
end K01

open PySem PySem.W PyProof.Rows
set_option maxRecDepth 100000 in
set_option maxHeartbeats 0 in
theorem PySem.Challenge.cw_ropewarren_k01_houses_taken_or_not_holds : PySem.Challenge.rw_ropewarren_k01_houses_taken_or_not.Holds := by
  w_on; o_law; k_head; (case hw => w_witness2)
  k_fill
  refine K01.walk (l := PySem.Challenge.rw_ropewarren_k01_houses_taken_or_not) rfl rfl (fun w h Y => PySem.W.kIn_of Y) ?F
  case F =>
    intro w mg fa h KX G hmg
    refine' K01.all_mk KX G hmg ?a_law_deck ?l_law_deck ?c_law_deck ?k_law_deck ?a_law_same ?l_law_same ?c_law_same ?k_law_same ?a_law_edges ?l_law_edges ?c_law_edges ?k_law_edges ?a_law_next ?l_law_next ?c_law_next ?k_law_next ?a_law_one ?l_law_one ?c_law_one ?k_law_one ?a_law_length ?l_law_length ?c_law_length ?k_law_length ?a_law_edge ?l_law_edge ?c_law_edge ?k_law_edge ?a_law_spots ?l_law_spots ?c_law_spots ?k_law_spots ?a_law_pipe ?l_law_pipe ?c_law_pipe ?k_law_pipe ?a_law_house ?l_law_house ?c_law_house ?k_law_house ?a_law_odd ?l_law_odd ?c_law_odd ?k_law_odd ?a_law_otherwise ?l_law_otherwise ?c_law_otherwise ?k_law_otherwise ?a_law_spoilt ?l_law_spoilt ?c_law_spoilt ?k_law_spoilt ?a_is_joined ?l_is_joined ?c_is_joined ?k_is_joined ?a_is_whole ?l_is_whole ?c_is_whole ?k_is_whole ?a_is_from ?l_is_from ?c_is_from ?k_is_from ?a_is_pair ?l_is_pair ?c_is_pair ?k_is_pair ?a_is_size ?l_is_size ?c_is_size ?k_is_size ?a_is_course ?l_is_course ?c_is_course ?k_is_course ?a_are_pairs ?l_are_pairs ?c_are_pairs ?k_are_pairs ?a_is_pipe ?l_is_pipe ?c_is_pipe ?k_is_pipe ?a_is_house ?l_is_house ?c_is_house ?k_is_house ?a_law_all_joined ?l_law_all_joined ?c_law_all_joined ?k_law_all_joined ?a_law_is_from ?l_law_is_from ?c_law_is_from ?k_law_is_from ?a_law_are_pairs ?l_law_are_pairs ?c_law_are_pairs ?k_law_are_pairs ?a_law_is_pipe ?l_law_is_pipe ?c_law_is_pipe ?k_law_is_pipe ?a_law_is_one ?l_law_is_one ?c_law_is_one ?k_law_is_one ?a_law ?l_law ?c_law ?k_law ?z_abs ?z_all ?z_bool ?z_int ?z_isinstance ?z_len ?z_list ?z_min ?z_range ?z_repr ?z_reversed ?z_set ?z_sorted ?z_str ?z_sum ?z_tuple ?c_FLAPS ?c_HEAD ?c_KNOTS ?c_LONG ?c_NARROWS ?c_REACH ?c_ROOMS ?c_TAIL ?c_WIDE K01.math
    (case a_law_deck => k_is)
    (case l_law_deck => k_is)
    (case c_law_deck => k_is)
    (case k_law_deck => k_is)
    (case a_law_same => k_is)
    (case l_law_same => k_is)
    (case c_law_same => k_is)
    (case k_law_same => k_is)
    (case a_law_edges => k_is)
    (case l_law_edges => k_is)
    (case c_law_edges => k_is)
    (case k_law_edges => k_is)
    (case a_law_next => k_is)
    (case l_law_next => k_is)
    (case c_law_next => k_is)
    (case k_law_next => k_is)
    (case a_law_one => k_is)
    (case l_law_one => k_is)
    (case c_law_one => k_is)
    (case k_law_one => k_is)
    (case a_law_length => k_is)
    (case l_law_length => k_is)
    (case c_law_length => k_is)
    (case k_law_length => k_is)
    (case a_law_edge => k_is)
    (case l_law_edge => k_is)
    (case c_law_edge => k_is)
    (case k_law_edge => k_is)
    (case a_law_spots => k_is)
    (case l_law_spots => k_is)
    (case c_law_spots => k_is)
    (case k_law_spots => k_is)
    (case a_law_pipe => k_is)
    (case l_law_pipe => k_is)
    (case c_law_pipe => k_is)
    (case k_law_pipe => k_is)
    (case a_law_house => k_is)
    (case l_law_house => k_is)
    (case c_law_house => k_is)
    (case k_law_house => k_is)
    (case a_law_odd => k_is)
    (case l_law_odd => k_is)
    (case c_law_odd => k_is)
    (case k_law_odd => k_is)
    (case a_law_otherwise => k_is)
    (case l_law_otherwise => k_is)
    (case c_law_otherwise => k_is)
    (case k_law_otherwise => k_is)
    (case a_law_spoilt => k_is)
    (case l_law_spoilt => k_is)
    (case c_law_spoilt => k_is)
    (case k_law_spoilt => k_is)
    (case a_is_joined => k_is)
    (case l_is_joined => k_is)
    (case c_is_joined => k_is)
    (case k_is_joined => k_is)
    (case a_is_whole => k_is)
    (case l_is_whole => k_is)
    (case c_is_whole => k_is)
    (case k_is_whole => k_is)
    (case a_is_from => k_is)
    (case l_is_from => k_is)
    (case c_is_from => k_is)
    (case k_is_from => k_is)
    (case a_is_pair => k_is)
    (case l_is_pair => k_is)
    (case c_is_pair => k_is)
    (case k_is_pair => k_is)
    (case a_is_size => k_is)
    (case l_is_size => k_is)
    (case c_is_size => k_is)
    (case k_is_size => k_is)
    (case a_is_course => k_is)
    (case l_is_course => k_is)
    (case c_is_course => k_is)
    (case k_is_course => k_is)
    (case a_are_pairs => k_is)
    (case l_are_pairs => k_is)
    (case c_are_pairs => k_is)
    (case k_are_pairs => k_is)
    (case a_is_pipe => k_is)
    (case l_is_pipe => k_is)
    (case c_is_pipe => k_is)
    (case k_is_pipe => k_is)
    (case a_is_house => k_is)
    (case l_is_house => k_is)
    (case c_is_house => k_is)
    (case k_is_house => k_is)
    (case a_law_all_joined => k_is)
    (case l_law_all_joined => k_is)
    (case c_law_all_joined => k_is)
    (case k_law_all_joined => k_is)
    (case a_law_is_from => k_is)
    (case l_law_is_from => k_is)
    (case c_law_is_from => k_is)
    (case k_law_is_from => k_is)
    (case a_law_are_pairs => k_is)
    (case l_law_are_pairs => k_is)
    (case c_law_are_pairs => k_is)
    (case k_law_are_pairs => k_is)
    (case a_law_is_pipe => k_is)
    (case l_law_is_pipe => k_is)
    (case c_law_is_pipe => k_is)
    (case k_law_is_pipe => k_is)
    (case a_law_is_one => k_is)
    (case l_law_is_one => k_is)
    (case c_law_is_one => k_is)
    (case k_law_is_one => k_is)
    (case a_law => k_is)
    (case l_law => k_is)
    (case c_law => k_is)
    (case k_law => k_is)
    (case z_abs => k_is)
    (case z_all => k_is)
    (case z_bool => k_is)
    (case z_int => k_is)
    (case z_isinstance => k_is)
    (case z_len => k_is)
    (case z_list => k_is)
    (case z_min => k_is)
    (case z_range => k_is)
    (case z_repr => k_is)
    (case z_reversed => k_is)
    (case z_set => k_is)
    (case z_sorted => k_is)
    (case z_str => k_is)
    (case z_sum => k_is)
    (case z_tuple => k_is)
    (case c_FLAPS => k_is)
    (case c_HEAD => k_is)
    (case c_KNOTS => k_is)
    (case c_LONG => k_is)
    (case c_NARROWS => k_is)
    (case c_REACH => k_is)
    (case c_ROOMS => k_is)
    (case c_TAIL => k_is)
    (case c_WIDE => k_is)
