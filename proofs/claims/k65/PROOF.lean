import PyProof.Rows.All
import HandS.ForMost
import HandS.Conv
import HandS.Walk
import HandS.Zip
import HandS.Wide
import HandS.Star
import HandS.TupMul
import KE.GoesMore
import KE.GoesEnum
import KE.GoesZip
import PyProof.ReprLen
import HandS.Style
import HandS.Small
import HandS.Gcd
import HandS.SetFor
import HandS.Strs
import PyProof.SumWalkG
import HandS.TupAny
import KE.KSuper
import HandS.Nested
import HandS.IsInst
import HandS.DictComp
import HandS.WordsDict
import HandS.SortInts
import HandS.NoneIn
import HandS.Flt
import HandS.Text
import PyProof.AssignAttr
import KE.RegKIsAll
import KE.RegKSuper
import PySem.Challenge.RW_allmoduli_k65_lots_bent
set_option Elab.async false
set_option linter.all false
set_option maxRecDepth 100000
set_option exponentiation.threshold 300
/-! DLa: a layer of data over the hand layer: values as trees, changing objects by number. -/
namespace DL
open PySem L2

/-- a value as a tree; ref k: the k-th changing object; op v: a value that is not looked into -/
inductive Vl where
  | non | bl (b : Bool) | int (i : Int) | str (x : Str) | tup (xs : List Vl) | lst (xs : List Vl) | frl (xs : List Vl) | ref (k : Nat) | op (v : V)

/-- a changing object -/
inductive Mo where
  | dead | lst (xs : List Vl) | dict (kvs : List (Key × Vl)) | ins (C : Addr) (fs : List (Str × Vl))
  /-- a dict that is not written any more -/
  | fdict (o : Obj) (vs : List (Key × V)) (kvs : List (Key × Vl))

abbrev Mu := List Mo
abbrev Rho := List (Option Vl)
/-- where the changing objects lie, and what stands still -/
structure Cf where
  al : List Addr
  Hd : Hp
  /-- what is kept aside -/
  Fr : Hp

mutual
inductive Rep (K : PySem.W.Frag) (c : Cf) : V → Vl → Prop
  | non : Rep K c .non .non
  | bl (b : Bool) : Rep K c (.bl b) (.bl b)
  | int (i : Int) : Rep K c (.int i) (.int i)
  | str (x : Str) : Rep K c (.str x) (.str x)
  | tup {a : Addr} {vs : List V} {xs : List Vl} : SqT K c.Hd a vs → xs.length ≤ sizeLine → Reps K c vs xs → Rep K c (.ref a) (.tup xs)
  | lst {a : Addr} {vs : List V} {xs : List Vl} : c.Hd a = some (.lst vs) → xs.length ≤ sizeLine → Reps K c vs xs → Rep K c (.ref a) (.lst xs)
  | frl {a : Addr} {vs : List V} {xs : List Vl} : SqL K c.Hd a vs → xs.length ≤ sizeLine → Reps K c vs xs → Rep K c (.ref a) (.frl xs)
  | ref {a : Addr} {k : Nat} : c.al[k]? = some a → Rep K c (.ref a) (.ref k)
  | op (v : V) : Rep K c v (.op v)
inductive Reps (K : PySem.W.Frag) (c : Cf) : List V → List Vl → Prop
  | nil : Reps K c [] []
  | cons {v : V} {x : Vl} {vs : List V} {xs : List Vl} : Rep K c v x → Reps K c vs xs → Reps K c (v :: vs) (x :: xs)
end

structure Ext0 (c c' : Cf) : Prop where
  al : ∀ (k : Nat) (a : Addr), c.al[k]? = some a → c'.al[k]? = some a
  hd : Same c.Hd c'.Hd
structure Ext (c c' : Cf) : Prop extends Ext0 c c' where
  fr : c'.Fr = c.Fr
theorem Ext0.refl (c : Cf) : Ext0 c c := ⟨fun _ _ h => h, Same.refl _⟩
theorem Ext0.trans {a b c : Cf} (x : Ext0 a b) (y : Ext0 b c) : Ext0 a c := ⟨fun k p h => y.al k p (x.al k p h), x.hd.trans y.hd⟩
theorem Ext.refl (c : Cf) : Ext c c := ⟨Ext0.refl c, rfl⟩
theorem Ext.trans {a b c : Cf} (x : Ext a b) (y : Ext b c) : Ext a c := ⟨x.toExt0.trans y.toExt0, y.fr.trans x.fr⟩

theorem same_rd {H H' : Hp} {a : Addr} {u : HO} (e : Same H H') (h : Rd H a u) : Rd H' a u := by
  rcases h with h | ⟨o, h⟩
  · exact Or.inl (e a _ h)
  · exact Or.inr ⟨o, e a _ h⟩
theorem same_t {K : PySem.W.Frag} {H H' : Hp} {a : Addr} {xs : List V} (e : Same H H') (h : SqT K H a xs) : SqT K H' a xs := by
  rcases h with h | h
  · exact Or.inl (same_rd e h)
  · exact Or.inr h
theorem same_l {K : PySem.W.Frag} {H H' : Hp} {a : Addr} {xs : List V} (e : Same H H') (h : SqL K H a xs) : SqL K H' a xs := e.seq h

mutual
theorem Rep.mono {K : PySem.W.Frag} {c c' : Cf} (e : Ext0 c c') : ∀ (x : Vl) (v : V), Rep K c v x → Rep K c' v x
  | .non, _, h => by cases h; exact .non
  | .bl b, _, h => by cases h; exact .bl b
  | .int i, _, h => by cases h; exact .int i
  | .str s, _, h => by cases h; exact .str s
  | .tup xs, _, h => by
    cases h with
    | tup h1 hz h2 => exact .tup (same_t e.hd h1) hz (Reps.mono e xs _ h2)
  | .lst xs, _, h => by
    cases h with
    | lst h1 hz h2 => exact .lst (e.hd _ _ h1) hz (Reps.mono e xs _ h2)
  | .frl xs, _, h => by
    cases h with
    | frl h1 hz h2 => exact .frl (same_l e.hd h1) hz (Reps.mono e xs _ h2)
  | .ref k, _, h => by
    cases h with
    | ref h1 => exact .ref (e.al _ _ h1)
  | .op v, _, h => by
    cases h
    exact .op v
theorem Reps.mono {K : PySem.W.Frag} {c c' : Cf} (e : Ext0 c c') : ∀ (xs : List Vl) (vs : List V), Reps K c vs xs → Reps K c' vs xs
  | [], _, h => by cases h; exact .nil
  | x :: xs, _, h => by
    cases h with
    | cons h1 h2 => exact .cons (Rep.mono e x _ h1) (Reps.mono e xs _ h2)
end
theorem Rep.up {K : PySem.W.Frag} {c c' : Cf} {x : Vl} {v : V} (h : Rep K c v x) (e : Ext0 c c') : Rep K c' v x := h.mono e x v
theorem Reps.up {K : PySem.W.Frag} {c c' : Cf} {xs : List Vl} {vs : List V} (h : Reps K c vs xs) (e : Ext0 c c') : Reps K c' vs xs := h.mono e xs vs
section
variable {K : PySem.W.Frag} {c : Cf}
theorem Reps.length : ∀ {xs : List Vl} {vs : List V}, Reps K c vs xs → vs.length = xs.length
  | [], _, h => by cases h; rfl
  | x :: xs, _, h => by
    cases h with
    | cons h1 h2 => exact congrArg (· + 1) (Reps.length h2)
theorem Reps.get : ∀ {xs : List Vl} {vs : List V} {i : Nat} {x : Vl}, Reps K c vs xs → xs[i]? = some x → ∃ v, vs[i]? = some v ∧ Rep K c v x
  | [], _, _, _, h, e => by simp at e
  | y :: xs, _, 0, x, h, e => by
    cases h with
    | cons h1 h2 =>
      have e' : y = x := by simpa using e
      subst e'
      exact ⟨_, rfl, h1⟩
  | y :: xs, _, i + 1, x, h, e => by
    cases h with
    | cons h1 h2 =>
      obtain ⟨v, q, r⟩ := Reps.get (i := i) (x := x) h2 (by simpa using e)
      exact ⟨v, by simpa using q, r⟩
theorem Reps.getV : ∀ {xs : List Vl} {vs : List V} {i : Nat} {v : V}, Reps K c vs xs → vs[i]? = some v → ∃ x, xs[i]? = some x ∧ Rep K c v x
  | [], _, _, _, h, e => by cases h; simp at e
  | y :: xs, _, 0, v, h, e => by
    cases h with
    | cons h1 h2 =>
      rename_i w ws
      have e' : w = v := by simpa using e
      subst e'
      exact ⟨y, rfl, h1⟩
  | y :: xs, _, i + 1, v, h, e => by
    cases h with
    | cons h1 h2 =>
      obtain ⟨x, q, r⟩ := Reps.getV (i := i) (v := v) h2 (by simpa using e)
      exact ⟨x, by simpa using q, r⟩
theorem Reps.append : ∀ {xs ys : List Vl} {vs ws : List V}, Reps K c vs xs → Reps K c ws ys → Reps K c (vs ++ ws) (xs ++ ys)
  | [], _, _, _, h, g => by cases h; exact g
  | x :: xs, _, _, _, h, g => by
    cases h with
    | cons h1 h2 => exact .cons h1 (Reps.append h2 g)
theorem Reps.take : ∀ (n : Nat) {xs : List Vl} {vs : List V}, Reps K c vs xs → Reps K c (vs.take n) (xs.take n)
  | 0, _, _, _ => .nil
  | n + 1, [], _, h => by cases h; exact .nil
  | n + 1, x :: xs, _, h => by
    cases h with
    | cons h1 h2 => exact .cons h1 (Reps.take n h2)
theorem Reps.drop : ∀ (n : Nat) {xs : List Vl} {vs : List V}, Reps K c vs xs → Reps K c (vs.drop n) (xs.drop n)
  | 0, _, _, h => h
  | n + 1, [], _, h => by cases h; exact .nil
  | n + 1, x :: xs, _, h => by
    cases h with
    | cons h1 h2 => exact Reps.drop n h2
theorem Reps.set {v : V} {x : Vl} (r : Rep K c v x) : ∀ (n : Nat) {xs : List Vl} {vs : List V}, Reps K c vs xs → Reps K c (vs.set n v) (xs.set n x)
  | 0, [], _, h => by cases h; exact .nil
  | n + 1, [], _, h => by cases h; exact .nil
  | 0, y :: xs, _, h => by
    cases h with
    | cons h1 h2 => exact .cons r h2
  | n + 1, y :: xs, _, h => by
    cases h with
    | cons h1 h2 => exact .cons h1 (Reps.set r n h2)
theorem Reps.one {v : V} {x : Vl} (h : Rep K c v x) : Reps K c [v] [x] := .cons h .nil
theorem Reps.ints_of : ∀ {ns : List Int} {vs : List V}, Reps K c vs (ns.map Vl.int) → vs = ns.map V.int
  | [], _, h => by cases h; rfl
  | n :: ns, _, h => by
    cases h with
    | cons h1 h2 =>
      cases h1
      rw [Reps.ints_of h2]
      rfl
theorem Reps.ints : ∀ (ns : List Int), Reps K c (ns.map V.int) (ns.map Vl.int)
  | [] => .nil
  | n :: ns => .cons (.int n) (Reps.ints ns)
end

/-- the fields of an instance, the pairs of a dict -/
inductive RepF (K : PySem.W.Frag) (c : Cf) {κ : Type} : List (κ × V) → List (κ × Vl) → Prop
  | nil : RepF K c [] []
  | cons {f : κ} {v : V} {x : Vl} {vs : List (κ × V)} {xs : List (κ × Vl)} : Rep K c v x → RepF K c vs xs → RepF K c ((f, v) :: vs) ((f, x) :: xs)
theorem RepF.up {K : PySem.W.Frag} {c c' : Cf} {κ : Type} (e : Ext0 c c') : ∀ {xs : List (κ × Vl)} {vs : List (κ × V)}, RepF K c vs xs → RepF K c' vs xs
  | [], _, h => by cases h; exact .nil
  | (f, x) :: xs, _, h => by
    cases h with
    | cons h1 h2 => exact .cons (h1.up e) (RepF.up e h2)

/-- what lies at a changing object's address -/
def ObR (K : PySem.W.Frag) (c : Cf) (h : Option HO) : Mo → Prop
  | .dead => h.isSome = true
  | .lst xs => ∃ vs, h = some (.lst vs) ∧ xs.length ≤ sizeLine ∧ Reps K c vs xs
  | .dict kvs => ∃ vs, h = some (.dK vs) ∧ RepF K c vs kvs
  | .ins C fs => ∃ dx vs, h = some (.ins C dx vs) ∧ RepF K c vs fs
  | .fdict o vs kvs => h = some (.frz o (.dK vs)) ∧ RepF K c vs kvs
theorem ObR.up {K : PySem.W.Frag} {c c' : Cf} {h : Option HO} (e : Ext0 c c') : ∀ {o : Mo}, ObR K c h o → ObR K c' h o
  | .dead, x => x
  | .lst xs, x => let ⟨vs, a, z, b⟩ := x; ⟨vs, a, z, b.up e⟩
  | .dict _, x => let ⟨vs, a, b⟩ := x; ⟨vs, a, b.up e⟩
  | .ins _ _, x => let ⟨dx, vs, a, b⟩ := x; ⟨dx, vs, a, b.up e⟩
  | .fdict _ _ _, x => ⟨x.1, x.2.up e⟩
theorem ObR.some {K : PySem.W.Frag} {c : Cf} {h : Option HO} : ∀ {o : Mo}, ObR K c h o → h.isSome = true
  | .dead, x => x
  | .lst _, x => by obtain ⟨vs, a, _⟩ := x; rw [a]; rfl
  | .dict _, x => by obtain ⟨vs, a, _⟩ := x; rw [a]; rfl
  | .ins _ _, x => by obtain ⟨dx, vs, a, _⟩ := x; rw [a]; rfl
  | .fdict _ _ _, x => by rw [x.1]; rfl

structure RM (K : PySem.W.Frag) (c : Cf) (μ : Mu) (H : Hp) : Prop where
  sub : Same c.Hd H
  len : c.al.length = μ.length
  nod : c.al.Nodup
  obj : ∀ (k : Nat) (a : Addr) (o : Mo), c.al[k]? = some a → μ[k]? = some o → c.Hd a = none ∧ ObR K c (H a) o
  fsb : Same c.Fr H
  fds : ∀ (a : Addr) (o : HO), c.Fr a = some o → c.Hd a = none ∧ a ∉ c.al

structure RS (K : PySem.W.Frag) (c : Cf) (ρ : Rho) (σ : L2.St) : Prop where
  len : ρ.length = σ.length
  get : ∀ (i : Nat) (x : Vl), ρ[i]? = some (some x) → ∃ v, σ[i]? = some (some v) ∧ Rep K c v x

section
variable {K : PySem.W.Frag} {c c' : Cf} {μ : Mu} {H H' : Hp} {ρ : Rho} {σ : L2.St}
theorem RS.up (h : RS K c ρ σ) (e : Ext0 c c') : RS K c' ρ σ := ⟨h.len, fun i x q => let ⟨v, a, b⟩ := h.get i x q; ⟨v, a, b.up e⟩⟩
theorem RS.set {v : V} {x : Vl} (h : RS K c ρ σ) (i : Nat) (r : Rep K c v x) : RS K c (ρ.set i (some x)) (σ.set i (some v)) := by
  refine ⟨by rw [List.length_set, List.length_set]; exact h.len, fun j y e => ?_⟩
  by_cases hj : i = j
  · subst hj
    by_cases hl : i < ρ.length
    · rw [List.getElem?_set_self hl] at e
      have e' : x = y := by simpa using e
      subst e'
      exact ⟨v, List.getElem?_set_self (by rw [← h.len]; exact hl), r⟩
    · rw [List.getElem?_eq_none (by rw [List.length_set]; omega)] at e
      cases e
  · rw [List.getElem?_set_ne hj] at e
    rw [List.getElem?_set_ne hj]
    exact h.get j y e
theorem RM.nin {p : Addr} (R : RM K c μ H) (hp : H p = none) : p ∉ c.al := fun hm => by
  obtain ⟨k, hk, e⟩ := List.getElem_of_mem hm
  have hk' : k < μ.length := by rw [← R.len]; exact hk
  have s := (R.obj k p μ[k] (by rw [← e]; simp [hk]) (by simp [hk'])).2.some
  rw [hp] at s; cases s
/-- a new object that will not change -/
theorem RM.still {p : Addr} {o : HO} (R : RM K c μ H) (hp : H p = none) : RM K ⟨c.al, upd c.Hd p o, c.Fr⟩ μ (upd H p o) ∧ Ext c ⟨c.al, upd c.Hd p o, c.Fr⟩ := by
  have hd : c.Hd p = none := R.sub.free hp
  have hf : c.Fr p = none := R.fsb.free hp
  have E : Ext c ⟨c.al, upd c.Hd p o, c.Fr⟩ := ⟨⟨fun _ _ h => h, fun b u e => by
    show upd c.Hd p o b = _
    rw [upd_ne (ne_of_none e hd)]; exact e⟩, rfl⟩
  refine ⟨⟨fun b u e => ?_, R.len, R.nod, fun k a m h1 h2 => ?_, fun b u e => ?_, fun a u e => ?_⟩, E⟩
  · have e : upd c.Hd p o b = some u := e
    by_cases hb : b = p
    · subst hb
      rw [upd_same] at e ⊢; exact e
    · rw [upd_ne hb] at e ⊢
      exact R.sub b u e
  · obtain ⟨q1, q2⟩ := R.obj k a m h1 h2
    have ne : a ≠ p := fun z => by
      have s := q2.some
      rw [z, hp] at s; cases s
    refine ⟨?_, ?_⟩
    · show upd c.Hd p o a = none
      rw [upd_ne ne]; exact q1
    · rw [upd_ne ne]; exact q2.up E.toExt0
  · have e : c.Fr b = some u := e
    rw [upd_ne (ne_of_none e hf)]
    exact R.fsb b u e
  · have e : c.Fr a = some u := e
    obtain ⟨q1, q2⟩ := R.fds a u e
    refine ⟨?_, q2⟩
    show upd c.Hd p o a = none
    rw [upd_ne (ne_of_none e hf)]; exact q1
/-- a new object that may change -/
theorem RM.fresh {p : Addr} {o : HO} {m : Mo} (R : RM K c μ H) (hp : H p = none) (hm : ObR K ⟨c.al ++ [p], c.Hd, c.Fr⟩ (some o) m) : RM K ⟨c.al ++ [p], c.Hd, c.Fr⟩ (μ ++ [m]) (upd H p o) ∧ Ext c ⟨c.al ++ [p], c.Hd, c.Fr⟩ := by
  have hd : c.Hd p = none := R.sub.free hp
  have hf : c.Fr p = none := R.fsb.free hp
  have E : Ext c ⟨c.al ++ [p], c.Hd, c.Fr⟩ := ⟨⟨fun k a h => by
    show (c.al ++ [p])[k]? = some a
    rw [List.getElem?_append_left (List.getElem?_eq_some_iff.mp h).1]; exact h, Same.refl _⟩, rfl⟩
  have nin : ∀ (k : Nat) (a : Addr), c.al[k]? = some a → a ≠ p := fun k a h z => by
    subst z
    exact R.nin hp (List.mem_of_getElem? h)
  refine ⟨⟨fun b u e => ?_, by simp [R.len], ?_, fun k a m' h1 h2 => ?_, fun b u e => ?_, fun a u e => ?_⟩, E⟩
  · rw [upd_ne (ne_of_none e hd)]
    exact R.sub b u e
  · show (c.al ++ [p]).Nodup
    rw [List.nodup_append]
    refine ⟨R.nod, by simp, fun a ha b hb z => ?_⟩
    have hb' : b = p := by simpa using hb
    subst hb'; subst z
    exact R.nin hp ha
  · have h1 : (c.al ++ [p])[k]? = some a := h1
    by_cases hk : k < c.al.length
    · rw [List.getElem?_append_left hk] at h1
      rw [List.getElem?_append_left (by rw [← R.len]; exact hk)] at h2
      obtain ⟨q1, q2⟩ := R.obj k a m' h1 h2
      refine ⟨q1, ?_⟩
      rw [upd_ne (nin k a h1)]
      exact q2.up E.toExt0
    · have hk2 : k = c.al.length := by
        have := (List.getElem?_eq_some_iff.mp h1).1
        simp at this; omega
      subst hk2
      have e1 : p = a := by simpa using h1
      have e2 : m = m' := by rw [R.len] at h2; simpa using h2
      subst e1; subst e2
      refine ⟨hd, ?_⟩
      rw [upd_same]; exact hm
  · have e : c.Fr b = some u := e
    rw [upd_ne (ne_of_none e hf)]
    exact R.fsb b u e
  · have e : c.Fr a = some u := e
    obtain ⟨q1, q2⟩ := R.fds a u e
    refine ⟨q1, fun hm => ?_⟩
    have hm : a ∈ c.al ++ [p] := hm
    rcases List.mem_append.mp hm with z | z
    · exact q2 z
    · have z' : a = p := by simpa using z
      subst z'
      have e9 : c.Fr a = some u := e
      rw [hf] at e9; cases e9
/-- a changing object is changed -/
theorem RM.write {k : Nat} {a : Addr} {o : HO} {m : Mo} (R : RM K c μ H) (hk : c.al[k]? = some a) (hm : ObR K c (some o) m) : RM K c (μ.set k m) (upd H a o) := by
  have hlt : k < μ.length := by rw [← R.len]; exact (List.getElem?_eq_some_iff.mp hk).1
  have hd : c.Hd a = none := (R.obj k a μ[k] hk (by simp [hlt])).1
  refine ⟨fun b u e => ?_, by simp [R.len], R.nod, fun j b m' h1 h2 => ?_, fun b u e => ?_, R.fds⟩
  · rw [upd_ne (ne_of_none e hd)]
    exact R.sub b u e
  · by_cases hj : j = k
    · subst hj
      rw [hk] at h1
      have e1 : a = b := by simpa using h1
      subst e1
      rw [List.getElem?_set_self hlt] at h2
      have e2 : m = m' := by simpa using h2
      subst e2
      refine ⟨hd, ?_⟩
      rw [upd_same]; exact hm
    · rw [List.getElem?_set_ne (Ne.symm hj)] at h2
      obtain ⟨q1, q2⟩ := R.obj j b m' h1 h2
      have ne : b ≠ a := fun z => by
        subst z
        exact hj (nd_ix R.nod h1 hk)
      refine ⟨q1, ?_⟩
      rw [upd_ne ne]; exact q2
  · have ne : b ≠ a := fun z => by
      subst z
      exact (R.fds b u e).2 (List.mem_of_getElem? hk)
    rw [upd_ne ne]; exact R.fsb b u e
/-- a new object kept aside -/
theorem RM.aside {p : Addr} {o : HO} (R : RM K c μ H) (hp : H p = none) : RM K ⟨c.al, c.Hd, upd c.Fr p o⟩ μ (upd H p o) := by
  have hd : c.Hd p = none := R.sub.free hp
  have hf : c.Fr p = none := R.fsb.free hp
  refine ⟨fun b u e => ?_, R.len, R.nod, fun k a m h1 h2 => ?_, fun b u e => ?_, fun a u e => ?_⟩
  · rw [upd_ne (ne_of_none e hd)]; exact R.sub b u e
  · obtain ⟨q1, q2⟩ := R.obj k a m h1 h2
    have ne : a ≠ p := fun z => by
      subst z
      exact R.nin hp (List.mem_of_getElem? h1)
    refine ⟨q1, ?_⟩
    rw [upd_ne ne]; exact ObR.up (c := c) (c' := ⟨c.al, c.Hd, upd c.Fr p o⟩) ⟨fun _ _ h => h, Same.refl _⟩ q2
  · have e : upd c.Fr p o b = some u := e
    by_cases hb : b = p
    · subst hb; rw [upd_same] at e ⊢; exact e
    · rw [upd_ne hb] at e ⊢; exact R.fsb b u e
  · have e : upd c.Fr p o a = some u := e
    by_cases hb : a = p
    · subst hb; exact ⟨hd, R.nin hp⟩
    · rw [upd_ne hb] at e; exact R.fds a u e
/-- what is kept aside is written -/
theorem RM.asideW {p : Addr} {o o' : HO} (R : RM K c μ H) (hp : c.Fr p = some o) : RM K ⟨c.al, c.Hd, upd c.Fr p o'⟩ μ (upd H p o') := by
  obtain ⟨hd, hn⟩ := R.fds p o hp
  refine ⟨fun b u e => ?_, R.len, R.nod, fun k a m h1 h2 => ?_, fun b u e => ?_, fun a u e => ?_⟩
  · rw [upd_ne (ne_of_none e hd)]; exact R.sub b u e
  · obtain ⟨q1, q2⟩ := R.obj k a m h1 h2
    have ne : a ≠ p := fun z => by
      subst z
      exact hn (List.mem_of_getElem? h1)
    refine ⟨q1, ?_⟩
    rw [upd_ne ne]; exact ObR.up (c := c) (c' := ⟨c.al, c.Hd, upd c.Fr p o'⟩) ⟨fun _ _ h => h, Same.refl _⟩ q2
  · have e : upd c.Fr p o' b = some u := e
    by_cases hb : b = p
    · subst hb; rw [upd_same] at e ⊢; exact e
    · rw [upd_ne hb] at e ⊢; exact R.fsb b u e
  · have e : upd c.Fr p o' a = some u := e
    by_cases hb : a = p
    · subst hb; exact ⟨hd, hn⟩
    · rw [upd_ne hb] at e; exact R.fds a u e
/-- what was kept aside will not change any more -/
theorem RM.asideStill {p : Addr} {o : HO} {F : Hp} (R : RM K c μ H) (hp : c.Fr p = some o) (hF : F p = none) (hF2 : ∀ b u, F b = some u → c.Fr b = some u) : RM K ⟨c.al, upd c.Hd p o, F⟩ μ H ∧ Ext0 c ⟨c.al, upd c.Hd p o, F⟩ := by
  obtain ⟨hd, hn⟩ := R.fds p o hp
  have E : Ext0 c ⟨c.al, upd c.Hd p o, F⟩ := ⟨fun _ _ h => h, fun b u e => by
    show upd c.Hd p o b = _
    rw [upd_ne (ne_of_none e hd)]; exact e⟩
  refine ⟨⟨fun b u e => ?_, R.len, R.nod, fun k a m h1 h2 => ?_, fun b u e => R.fsb b u (hF2 b u e), fun a u e => ?_⟩, E⟩
  · have e : upd c.Hd p o b = some u := e
    by_cases hb : b = p
    · subst hb
      rw [upd_same] at e
      rw [← e]; exact R.fsb _ _ hp
    · rw [upd_ne hb] at e; exact R.sub b u e
  · obtain ⟨q1, q2⟩ := R.obj k a m h1 h2
    have ne : a ≠ p := fun z => by
      subst z
      exact hn (List.mem_of_getElem? h1)
    refine ⟨?_, q2.up E⟩
    show upd c.Hd p o a = none
    rw [upd_ne ne]; exact q1
  · have e : F a = some u := e
    obtain ⟨q1, q2⟩ := R.fds a u (hF2 a u e)
    refine ⟨?_, q2⟩
    show upd c.Hd p o a = none
    rw [upd_ne (ne_of_none e hF)]; exact q1
/-- what was kept aside may change -/
theorem RM.asideFresh {p : Addr} {o : HO} {F : Hp} {m : Mo} (R : RM K c μ H) (hp : c.Fr p = some o) (hF : F p = none) (hF2 : ∀ b u, F b = some u → c.Fr b = some u) (hm : ObR K ⟨c.al ++ [p], c.Hd, F⟩ (some o) m) :
    RM K ⟨c.al ++ [p], c.Hd, F⟩ (μ ++ [m]) H ∧ Ext0 c ⟨c.al ++ [p], c.Hd, F⟩ := by
  obtain ⟨hd, hn⟩ := R.fds p o hp
  have E : Ext0 c ⟨c.al ++ [p], c.Hd, F⟩ := ⟨fun k a h => by
    show (c.al ++ [p])[k]? = some a
    rw [List.getElem?_append_left (List.getElem?_eq_some_iff.mp h).1]; exact h, Same.refl _⟩
  refine ⟨⟨R.sub, by simp [R.len], ?_, fun k a m' h1 h2 => ?_, fun b u e => R.fsb b u (hF2 b u e), fun a u e => ?_⟩, E⟩
  · show (c.al ++ [p]).Nodup
    rw [List.nodup_append]
    refine ⟨R.nod, by simp, fun a ha b hb z => ?_⟩
    have hb' : b = p := by simpa using hb
    subst hb'; subst z
    exact hn ha
  · have h1 : (c.al ++ [p])[k]? = some a := h1
    by_cases hk : k < c.al.length
    · rw [List.getElem?_append_left hk] at h1
      rw [List.getElem?_append_left (by rw [← R.len]; exact hk)] at h2
      obtain ⟨q1, q2⟩ := R.obj k a m' h1 h2
      exact ⟨q1, q2.up E⟩
    · have hk2 : k = c.al.length := by
        have := (List.getElem?_eq_some_iff.mp h1).1
        simp at this; omega
      subst hk2
      have e1 : p = a := by simpa using h1
      have e2 : m = m' := by rw [R.len] at h2; simpa using h2
      subst e1; subst e2
      exact ⟨hd, by rw [R.fsb _ _ hp]; exact hm⟩
  · have e : F a = some u := e
    obtain ⟨q1, q2⟩ := R.fds a u (hF2 a u e)
    refine ⟨q1, fun hm => ?_⟩
    have hm : a ∈ c.al ++ [p] := hm
    rcases List.mem_append.mp hm with z | z
    · exact q2 z
    · have z' : a = p := by simpa using z
      subst z'
      have e9 : F a = some u := e
      rw [hF] at e9; cases e9
end

/-! ### readings over data -/
abbrev DK := Vl → Mu → Prop
abbrev DE := Rho → Mu → DK → Prop
abbrev DT := Rho → Mu → (Bool → Mu → Prop) → Prop
abbrev DA := Rho → Mu → (List Vl → Mu → Prop) → Prop
abbrev DO := Rho → Mu → (Option Int → Mu → Prop) → Prop
structure DEnds where
  nx : Rho → Mu → Prop
  rt : DK
  bk : Rho → Mu → Prop := fun _ _ => False
  ct : Rho → Mu → Prop := fun _ _ => False
abbrev DS := DEnds → Rho → Mu → Prop
abbrev DG := Vl → Rho → Mu → (Rho → Mu → Prop) → Prop
abbrev DGs := List Vl → Rho → Mu → (Rho → Mu → Prop) → Prop

def SimE (K : PySem.W.Frag) (te : TE) (de : DE) : Prop := ∀ (c : Cf) (ρ : Rho) (μ : Mu) (σ : L2.St) (H : Hp) (Q : DK) (P : VK), RM K c μ H → RS K c ρ σ → de ρ μ Q →
  (∀ c' x μ' v H', Ext c c' → RM K c' μ' H' → Rep K c' v x → Q x μ' → P v H') → te σ H P
def SimT (K : PySem.W.Frag) (tt : TT) (dt : DT) : Prop := ∀ (c : Cf) (ρ : Rho) (μ : Mu) (σ : L2.St) (H : Hp) (Q : Bool → Mu → Prop) (P : Bool → Hp → Prop), RM K c μ H → RS K c ρ σ → dt ρ μ Q →
  (∀ c' b μ' H', Ext c c' → RM K c' μ' H' → Q b μ' → P b H') → tt σ H P
def SimA (K : PySem.W.Frag) (ta : TA) (da : DA) : Prop := ∀ (c : Cf) (ρ : Rho) (μ : Mu) (σ : L2.St) (H : Hp) (Q : List Vl → Mu → Prop) (P : List V → Hp → Prop), RM K c μ H → RS K c ρ σ → da ρ μ Q →
  (∀ c' xs μ' vs H', Ext c c' → RM K c' μ' H' → Reps K c' vs xs → Q xs μ' → P vs H') → ta σ H P
def SimO (K : PySem.W.Frag) (to : TO) (do_ : DO) : Prop := ∀ (c : Cf) (ρ : Rho) (μ : Mu) (σ : L2.St) (H : Hp) (Q : Option Int → Mu → Prop) (P : Option Int → Hp → Prop), RM K c μ H → RS K c ρ σ → do_ ρ μ Q →
  (∀ c' o μ' H', Ext c c' → RM K c' μ' H' → Q o μ' → P o H') → to σ H P
/-- the ends agree, from c on -/
structure SimD (K : PySem.W.Frag) (c : Cf) (D : Ends) (d : DEnds) : Prop where
  nx : ∀ c' ρ μ σ H, Ext c c' → RM K c' μ H → RS K c' ρ σ → d.nx ρ μ → D.nx σ H
  rt : ∀ c' x μ v H, Ext c c' → RM K c' μ H → Rep K c' v x → d.rt x μ → D.rt v H
  bk : ∀ c' ρ μ σ H, Ext c c' → RM K c' μ H → RS K c' ρ σ → d.bk ρ μ → D.bk σ H
  ct : ∀ c' ρ μ σ H, Ext c c' → RM K c' μ H → RS K c' ρ σ → d.ct ρ μ → D.ct σ H
theorem SimD.up {K : PySem.W.Frag} {c c' : Cf} {D : Ends} {d : DEnds} (h : SimD K c D d) (e : Ext c c') : SimD K c' D d :=
  ⟨fun c2 ρ μ σ H e2 => h.nx c2 ρ μ σ H (e.trans e2), fun c2 ρ μ σ H e2 => h.rt c2 ρ μ σ H (e.trans e2), fun c2 ρ μ σ H e2 => h.bk c2 ρ μ σ H (e.trans e2), fun c2 ρ μ σ H e2 => h.ct c2 ρ μ σ H (e.trans e2)⟩
def SimS (K : PySem.W.Frag) (ts : TS) (ds : DS) : Prop := ∀ (c : Cf) (ρ : Rho) (μ : Mu) (σ : L2.St) (H : Hp) (D : Ends) (d : DEnds), RM K c μ H → RS K c ρ σ → SimD K c D d → ds d ρ μ → ts D σ H
def SimG (K : PySem.W.Frag) (tg : TG) (dg : DG) : Prop := ∀ (c : Cf) (ρ : Rho) (μ : Mu) (σ : L2.St) (H : Hp) (v : V) (x : Vl) (Q : Rho → Mu → Prop) (P : L2.St → Hp → Prop), RM K c μ H → RS K c ρ σ → Rep K c v x → dg x ρ μ Q →
  (∀ c' ρ' μ' σ' H', Ext c c' → RM K c' μ' H' → RS K c' ρ' σ' → Q ρ' μ' → P σ' H') → tg v σ H P
def SimGs (K : PySem.W.Frag) (tg : TGs) (dg : DGs) : Prop := ∀ (c : Cf) (ρ : Rho) (μ : Mu) (σ : L2.St) (H : Hp) (vs : List V) (xs : List Vl) (Q : Rho → Mu → Prop) (P : L2.St → Hp → Prop), RM K c μ H → RS K c ρ σ → Reps K c vs xs → dg xs ρ μ Q →
  (∀ c' ρ' μ' σ' H', Ext c c' → RM K c' μ' H' → RS K c' ρ' σ' → Q ρ' μ' → P σ' H') → tg vs σ H P

structure QE (X : Cx) (e : Expr) (te : TE) (de : DE) : Prop where
  p : PE X e te
  s : SimE X.K te de
structure QT (X : Cx) (e : Expr) (tt : TT) (dt : DT) : Prop where
  p : PT X e tt
  s : SimT X.K tt dt
structure QW (X : Cx) (e : Expr) (tt : TT) (dt : DT) : Prop where
  p : PW X e tt
  s : SimT X.K tt dt
structure QTs (X : Cx) (e : List Expr) (tt : TT) (dt : DT) : Prop where
  p : PTs X e tt
  s : SimT X.K tt dt
structure QA (X : Cx) (es : List Expr) (ta : TA) (da : DA) : Prop where
  p : PA X es ta
  s : SimA X.K ta da
structure QO (X : Cx) (o : Option Expr) (to : TO) (do_ : DO) : Prop where
  p : PO X o to
  s : SimO X.K to do_
structure QS (X : Cx) (st : Stmt) (ts : TS) (ds : DS) : Prop where
  p : PS X st ts
  s : SimS X.K ts ds
structure QSs (X : Cx) (st : List Stmt) (ts : TS) (ds : DS) : Prop where
  p : PSs X st ts
  s : SimS X.K ts ds
structure QG (X : Cx) (e : Expr) (tg : TG) (dg : DG) : Prop where
  p : PG X e tg
  s : SimG X.K tg dg
structure QGs (X : Cx) (es : List Expr) (tg : TGs) (dg : DGs) : Prop where
  p : PGs X es tg
  s : SimGs X.K tg dg
end DL

/-! DLb: expressions over data. -/
namespace DL
open PySem L2 StX PyProof.Rows

section
variable {X : Cx} {e a b o : Expr} {es : List Expr} {te ta tb : TE} {de da db : DE} {pos : Pos}

/-! ### names, constants -/
def dVar (i : Nat) : DE := fun ρ μ Q => match ρ[i]? with
  | some (some x) => Q x μ
  | _ => False
def dC (x : Vl) : DE := fun _ μ Q => Q x μ
theorem sim_var {K : PySem.W.Frag} {i : Nat} : SimE K (tVar i) (dVar i) := by
  intro c ρ μ σ H Q P R S h k
  unfold dVar at h
  split at h
  · rename_i x e
    obtain ⟨v, e1, r⟩ := S.get i x e
    exact ⟨v, e1, k c x μ v H (Ext.refl c) R r h⟩
  · exact h.elim
theorem qv (i : Nat) {x : Str} {pos : Pos} (hN : X.N[i]? = some x := by rfl) (hv : Vis X.env.scope x := by first | exact Or.inl rfl | exact Or.inr (Or.inl rfl) | exact Or.inr (Or.inr rfl)) (hd : (x == ("__debug__" : Str)) = false := by decide)
    (hcd : (x == ("__classdict__" : Str)) = false := by decide) : QE X (.Name x pos) (tVar i) (dVar i) := ⟨pe_var hN hv hd hcd, sim_var⟩
theorem sim_c {K : PySem.W.Frag} {v : V} {x : Vl} (h : ∀ c, Rep K c v x) : SimE K (tC v) (dC x) := fun c _ μ _ H _ _ R _ q k => k c x μ v H (Ext.refl c) R (h c) q
theorem q_int {i j pos} : QE X (.Constant (.int i) j pos) (tC (.int i)) (dC (.int i)) := ⟨pe_int, sim_c fun _ => .int i⟩
theorem q_bl {b j pos} : QE X (.Constant (.bool b) j pos) (tC (.bl b)) (dC (.bl b)) := ⟨pe_bl, sim_c fun _ => .bl b⟩
theorem q_non {j pos} : QE X (.Constant .none j pos) (tC .non) (dC .non) := ⟨pe_non, sim_c fun _ => .non⟩
theorem q_str {x j pos} : QE X (.Constant (.str x) j pos) (tC (.str x)) (dC (.str x)) := ⟨pe_str, sim_c fun _ => .str x⟩

/-! ### two-place operations -/
abbrev D2 := Vl → Vl → Mu → DK → Prop
def Sim2 (K : PySem.W.Frag) (r : R2) (d : D2) : Prop := ∀ (c : Cf) (μ : Mu) (H : Hp) (vx vy : V) (x y : Vl) (Q : DK) (P : VK), RM K c μ H → Rep K c vx x → Rep K c vy y → d x y μ Q →
  (∀ c' z μ' v H', Ext c c' → RM K c' μ' H' → Rep K c' v z → Q z μ' → P v H') → r vx vy H P
def dOp (d : D2) (da db : DE) : DE := fun ρ μ Q => da ρ μ fun x μ1 => db ρ μ1 fun y μ2 => d x y μ2 Q
theorem sim_op {K : PySem.W.Frag} {r : R2} {d : D2} (hs : Sim2 K r d) (ha : SimE K ta da) (hb : SimE K tb db) : SimE K (tOp r ta tb) (dOp d da db) := by
  intro c ρ μ σ H Q P R S h k
  refine ha c ρ μ σ H _ _ R S h fun c1 x μ1 v H1 E1 R1 r1 q1 => ?_
  refine hb c1 ρ μ1 σ H1 _ _ R1 (S.up E1.toExt0) q1 fun c2 y μ2 u H2 E2 R2 r2 q2 => ?_
  exact hs c2 μ2 H2 v u x y Q P R2 (r1.up E2.toExt0) r2 q2 fun c3 z μ3 w H3 E3 => k c3 z μ3 w H3 ((E1.trans E2).trans E3)
theorem q_op {op : Operator} {r : R2} {d : D2} (ho : OpR X (binaryOp op) r) (hs : Sim2 X.K r d) (ha : QE X a ta da) (hb : QE X b tb db) : QE X (.BinOp a op b pos) (tOp r ta tb) (dOp d da db) := ⟨pe_op ho ha.p hb.p, sim_op hs ha.s hb.s⟩
theorem opr_or {f : Value → Value → Sem Value} {r r' : R2} (h : OpR X f r) (h' : OpR X f r') : OpR X f (fun x y H Q => r x y H Q ∨ r' x y H Q) := by
  intro pins s σ H x y v u Q I rx ry q
  rcases q with q | q
  · exact h pins s σ H x y v u Q I rx ry q
  · exact h' pins s σ H x y v u Q I rx ry q

/-! ### lists as they stand -/
def lview (μ : Mu) : Vl → Option (List Vl)
  | .lst xs => some xs
  | .frl xs => some xs
  | .ref k => match μ[k]? with
    | some (.lst xs) => some xs
    | _ => none
  | _ => none
/-- a list that may be joined with another -/
def mview (μ : Mu) : Vl → Option (List Vl)
  | .lst xs => some xs
  | .ref k => match μ[k]? with
    | some (.lst xs) => some xs
    | _ => none
  | _ => none
def sview (μ : Mu) : Vl → Option (List Vl)
  | .tup xs => some xs
  | x => lview μ x
theorem ref_at {K : PySem.W.Frag} {c : Cf} {μ : Mu} {H : Hp} {v : V} {k : Nat} {m : Mo} (R : RM K c μ H) (r : Rep K c v (.ref k)) (h : μ[k]? = some m) : ∃ a, v = .ref a ∧ c.al[k]? = some a ∧ ObR K c (H a) m := by
  cases r with
  | ref e => exact ⟨_, rfl, e, (R.obj k _ m e h).2⟩
theorem mview_ref {μ : Mu} {k : Nat} {xs : List Vl} (h : mview μ (.ref k) = some xs) : μ[k]? = some (.lst xs) := by
  have h : (match μ[k]? with
    | some (.lst xs) => some xs
    | _ => none) = some xs := h
  split at h
  · rename_i ys e
    have e' : ys = xs := by simpa using h
    rw [e, e']
  · cases h
theorem mview_at {K : PySem.W.Frag} {c : Cf} {μ : Mu} {H : Hp} {v : V} {x : Vl} {xs : List Vl} (R : RM K c μ H) (r : Rep K c v x) (h : mview μ x = some xs) : ∃ a vs, v = .ref a ∧ H a = some (.lst vs) ∧ xs.length ≤ sizeLine ∧ Reps K c vs xs := by
  cases x with
  | lst ys =>
    cases r with
    | lst h1 hz h2 =>
      have e : ys = xs := by simpa [mview] using h
      subst e
      exact ⟨_, _, rfl, R.sub _ _ h1, hz, h2⟩
  | ref k =>
    obtain ⟨a, e1, _, vs, e2, hz, e3⟩ := ref_at R r (mview_ref h)
    exact ⟨a, vs, e1, e2, hz, e3⟩
  | _ => simp [mview] at h
theorem lview_at {K : PySem.W.Frag} {c : Cf} {μ : Mu} {H : Hp} {v : V} {x : Vl} {xs : List Vl} (R : RM K c μ H) (r : Rep K c v x) (h : lview μ x = some xs) : ∃ a vs, v = .ref a ∧ SqL K H a vs ∧ xs.length ≤ sizeLine ∧ Reps K c vs xs := by
  cases x with
  | lst ys =>
    obtain ⟨a, vs, e1, e2, hz, e3⟩ := mview_at (xs := xs) R r (by simpa [mview, lview] using h)
    exact ⟨a, vs, e1, SqL.of e2, hz, e3⟩
  | ref k =>
    obtain ⟨a, vs, e1, e2, hz, e3⟩ := mview_at (xs := xs) R r (by simpa [mview, lview] using h)
    exact ⟨a, vs, e1, SqL.of e2, hz, e3⟩
  | frl ys =>
    cases r with
    | frl h1 hz h2 =>
      have e : ys = xs := by simpa [lview] using h
      subst e
      exact ⟨_, _, rfl, same_l R.sub h1, hz, h2⟩
  | _ => simp [lview] at h
theorem sview_at {K : PySem.W.Frag} {c : Cf} {μ : Mu} {H : Hp} {v : V} {x : Vl} {xs : List Vl} (R : RM K c μ H) (r : Rep K c v x) (h : sview μ x = some xs) : ∃ a vs, v = .ref a ∧ (SqL K H a vs ∨ SqT K H a vs) ∧ xs.length ≤ sizeLine ∧ Reps K c vs xs := by
  cases x with
  | tup ys =>
    cases r with
    | tup h1 hz h2 =>
      have e : ys = xs := by simpa [sview] using h
      subst e
      exact ⟨_, _, rfl, .inr (same_t R.sub h1), hz, h2⟩
  | _ =>
    obtain ⟨a, vs, e1, e2, e3⟩ := lview_at (xs := xs) R r (by simpa [sview] using h)
    exact ⟨a, vs, e1, .inl e2, e3⟩
theorem tup_at {K : PySem.W.Frag} {c : Cf} {μ : Mu} {H : Hp} {v : V} {xs : List Vl} (R : RM K c μ H) (r : Rep K c v (.tup xs)) : ∃ a vs, v = .ref a ∧ SqT K H a vs ∧ xs.length ≤ sizeLine ∧ Reps K c vs xs := by
  cases r with
  | tup h1 hz h2 => exact ⟨_, _, rfl, same_t R.sub h1, hz, h2⟩

/-! ### new lists, new tuples -/
/-- a new list: one that will not change, or one that may -/
def newL (zs : List Vl) (μ : Mu) (Q : DK) : Prop := Q (.lst zs) μ ∨ Q (.ref μ.length) (μ ++ [.lst zs])
theorem sim_newL {K : PySem.W.Frag} {c : Cf} {μ : Mu} {H : Hp} {vs : List V} {zs : List Vl} {Q : DK} {P : VK} (R : RM K c μ H) (r : Reps K c vs zs) (hz : zs.length ≤ sizeLine) (h : newL zs μ Q)
    (k : ∀ c' z μ' v H', Ext c c' → RM K c' μ' H' → Rep K c' v z → Q z μ' → P v H') : ∀ p, H p = none → P (.ref p) (upd H p (.lst vs)) := by
  intro p hp
  rcases h with h | h
  · obtain ⟨R1, E1⟩ := R.still (o := .lst vs) hp
    exact k _ _ _ _ _ E1 R1 (.lst (by show upd c.Hd p (.lst vs) p = _; exact upd_same) hz (r.up E1.toExt0)) h
  · have E0 : Ext0 c ⟨c.al ++ [p], c.Hd, c.Fr⟩ := ⟨fun k a h => by
      show (c.al ++ [p])[k]? = some a
      rw [List.getElem?_append_left (List.getElem?_eq_some_iff.mp h).1]; exact h, Same.refl _⟩
    obtain ⟨R1, E1⟩ := R.fresh (o := .lst vs) (m := .lst zs) hp ⟨vs, rfl, hz, r.up E0⟩
    refine k _ _ _ _ _ E1 R1 (.ref ?_) h
    show (c.al ++ [p])[μ.length]? = some p
    rw [← R.len]; simp
theorem sim_newT {K : PySem.W.Frag} {c : Cf} {μ : Mu} {H : Hp} {vs : List V} {zs : List Vl} {Q : DK} {P : VK} (R : RM K c μ H) (r : Reps K c vs zs) (hz : zs.length ≤ sizeLine) (h : Q (.tup zs) μ)
    (k : ∀ c' z μ' v H', Ext c c' → RM K c' μ' H' → Rep K c' v z → Q z μ' → P v H') : ∀ p, H p = none → P (.ref p) (upd H p (.tup vs)) := by
  intro p hp
  obtain ⟨R1, E1⟩ := R.still (o := .tup vs) hp
  exact k _ _ _ _ _ E1 R1 (.tup (.inl (.inl (by show upd c.Hd p (.tup vs) p = _; exact upd_same))) hz (r.up E1.toExt0)) h

/-! ### arithmetic -/
def dI (C : Int → Int → Prop) (g : Int → Int → Vl) : D2 := fun x y μ Q => match x, y with
  | .int i, .int j => C i j ∧ Q (g i j) μ
  | _, _ => False
def dI0 (g : Int → Int → Vl) : D2 := fun x y μ Q => match x, y with
  | .int i, .int j => Q (g i j) μ
  | _, _ => False
theorem sim_I {K : PySem.W.Frag} {C : Int → Int → Prop} {g : Int → Int → V} {g' : Int → Int → Vl} (hg : ∀ i j c, Rep K c (g i j) (g' i j)) : Sim2 K (rI C g) (dI C g') := by
  intro c μ H vx vy x y Q P R rx ry h k
  unfold dI at h
  split at h
  · cases rx; cases ry
    exact ⟨_, _, rfl, rfl, h.1, k c _ μ _ H (Ext.refl c) R (hg _ _ c) h.2⟩
  · exact h.elim
theorem sim_I0 {K : PySem.W.Frag} {g : Int → Int → V} {g' : Int → Int → Vl} (hg : ∀ i j c, Rep K c (g i j) (g' i j)) : Sim2 K (rI0 g) (dI0 g') := by
  intro c μ H vx vy x y Q P R rx ry h k
  unfold dI0 at h
  split at h
  · cases rx; cases ry
    exact ⟨_, _, rfl, rfl, k c _ μ _ H (Ext.refl c) R (hg _ _ c) h⟩
  · exact h.elim
def rAddD (K : PySem.W.Frag) : R2 := fun x y H Q => rI0 (fun i j => .int (i + j)) x y H Q ∨ (rCatT K x y H Q ∨ rCat x y H Q)
/-- + : ints, tuples, lists -/
def dAdd : D2 := fun x y μ Q => match x, y with
  | .int i, .int j => Q (.int (i + j)) μ
  | .tup xs, .tup ys => xs ≠ [] ∧ xs.length + ys.length ≤ sizeLine ∧ Q (.tup (xs ++ ys)) μ
  | x, y => ∃ xs ys, mview μ x = some xs ∧ mview μ y = some ys ∧ xs.length + ys.length ≤ sizeLine ∧ newL (xs ++ ys) μ Q
theorem Reps.nil_iff {K : PySem.W.Frag} {c : Cf} {vs : List V} {xs : List Vl} (r : Reps K c vs xs) : vs = [] ↔ xs = [] := by
  have := r.length
  constructor
  · intro e; rw [e] at this; exact List.eq_nil_of_length_eq_zero this.symm
  · intro e; rw [e] at this; exact List.eq_nil_of_length_eq_zero this
theorem sim_add {K : PySem.W.Frag} : Sim2 K (rAddD K) dAdd := by
  intro c μ H vx vy x y Q P R rx ry h k
  unfold dAdd at h
  split at h
  · cases rx; cases ry
    exact .inl ⟨_, _, rfl, rfl, k c _ μ _ H (Ext.refl c) R (.int _) h⟩
  · rename_i xs ys
    obtain ⟨hne, hz, q⟩ := h
    obtain ⟨a, vs, e1, t1, z1, r1⟩ := tup_at R rx
    obtain ⟨b, ws, e2, t2, z2, r2⟩ := tup_at R ry
    refine .inr (.inl ⟨a, b, vs, ws, e1, e2, t1, t2, fun z => hne (r1.nil_iff.mp z), by rw [r1.length, r2.length]; exact hz, fun z => ?_, fun z => ?_⟩)
    · have z' : ys = [] := r2.nil_iff.mp z
      subst z'
      rw [List.append_nil] at q
      rw [← e1]
      exact k c _ μ _ H (Ext.refl c) R rx q
    · exact sim_newT R (r1.append r2) (by rw [List.length_append]; exact hz) q k
  · obtain ⟨xs, ys, h1, h2, hz, q⟩ := h
    obtain ⟨a, vs, e1, t1, z1, r1⟩ := mview_at R rx h1
    obtain ⟨b, ws, e2, t2, z2, r2⟩ := mview_at R ry h2
    exact .inr (.inr ⟨a, b, vs, ws, e1, e2, t1, t2, by rw [r1.length, r2.length]; exact hz, sim_newL R (r1.append r2) (by rw [List.length_append]; exact hz) q k⟩)
theorem q_add (ha : QE X a ta da) (hb : QE X b tb db) : QE X (.BinOp a .Add b pos) (tOp (rAddD X.K) ta tb) (dOp dAdd da db) := q_op (opr_or op_add (opr_or op_catT op_cat)) sim_add ha hb
theorem q_sub (ha : QE X a ta da) (hb : QE X b tb db) : QE X (.BinOp a .Sub b pos) (tOp (rI0 fun i j => .int (i - j)) ta tb) (dOp (dI0 fun i j => .int (i - j)) da db) := q_op op_sub (sim_I0 fun _ _ _ => .int _) ha hb
/-- products: together below so many bits, or one of them short -/
def MulOk (i j : Int) : Prop := i.natAbs < 2 ^ 64 ∨ j.natAbs < 2 ^ 64 ∨ i.natAbs.log2 + j.natAbs.log2 < 134000000
theorem MulOk.ok {i j : Int} (h : MulOk i j) : IntMulOk i j := by
  rcases h with h | h | h
  · exact IntMulOk.of_left (intBits_le_64 (by omega) (by omega))
  · exact IntMulOk.of_right (intBits_le_64 (by omega) (by omega))
  · have b : ∀ x : Int, Builtin.Int.intBits x ≤ x.natAbs.log2 + 1 := fun x => by
      unfold Builtin.Int.intBits
      split <;> omega
    have h1 := b i
    have h2 := b j
    have e : bitsLine = 134217728 := by decide
    unfold IntMulOk
    intro z
    rw [Bool.and_eq_true] at z
    have z2 := z.2
    unfold Builtin.Int.intTooBig at z2
    have z3 := of_decide_eq_true z2
    rw [e] at z3
    omega
theorem op_mulD : OpR X (binaryOp .Mult) (rI MulOk fun i j => .int (i * j)) := by
  intro pins s σ H x y v u Q I rx ry h
  obtain ⟨i, j, e1, e2, hc, q⟩ := h
  subst e1; subst e2
  obtain ⟨t, rfl⟩ := rx
  obtain ⟨t', rfl⟩ := ry
  exact mul_int ⟨.int _, H, I.tok _, ⟨_, rfl⟩, q⟩ hc.ok
theorem op_fdivD : OpR X (binaryOp .FloorDiv) (rI (fun _ j => j ≠ 0 ∧ j.natAbs.log2 < 9000) fun i j => .int (i.fdiv j)) := by
  intro pins s σ H x y v u Q I rx ry h
  obtain ⟨i, j, e1, e2, hc, q⟩ := h
  subst e1; subst e2
  obtain ⟨t, rfl⟩ := rx
  obtain ⟨t', rfl⟩ := ry
  exact floordiv_int hc.1 ⟨.int _, H, I.tok _, ⟨_, rfl⟩, q⟩ (.inl (PyProof.noPylong_of_log2 hc.2))

theorem q_fdiv (ha : QE X a ta da) (hb : QE X b tb db) : QE X (.BinOp a .FloorDiv b pos) (tOp (rI (fun _ j => j ≠ 0 ∧ j.natAbs.log2 < 9000) fun i j => .int (i.fdiv j)) ta tb) (dOp (dI (fun _ j => j ≠ 0 ∧ j.natAbs.log2 < 9000) fun i j => .int (i.fdiv j)) da db) :=
  q_op op_fdivD (sim_I fun _ _ _ => .int _) ha hb
theorem q_mod (ha : QE X a ta da) (hb : QE X b tb db) : QE X (.BinOp a .Mod b pos) (tOp (rI (fun _ j => j ≠ 0) fun i j => .int (i.fmod j)) ta tb) (dOp (dI (fun _ j => j ≠ 0) fun i j => .int (i.fmod j)) da db) :=
  q_op op_modN (sim_I fun _ _ _ => .int _) ha hb
theorem q_pow (ha : QE X a ta da) (hb : QE X b tb db) : QE X (.BinOp a .Pow b pos) (tOp (rI CPow fun i j => .int (i ^ j.toNat)) ta tb) (dOp (dI CPow fun i j => .int (i ^ j.toNat)) da db) :=
  q_op op_pow (sim_I fun _ _ _ => .int _) ha hb

/-! ### products -/
theorem once_meets (l : Addr) (items : Array Value) (n : Nat) (dd : Option Addr) (sl : Array (Option Value)) (u : Tok) (he : items.isEmpty = false) :
    Meets (Builtin.«tuple.__mul__» ⟨[.ref l, .int 1 u], []⟩) (fun _ R s => s.heap.get? l = some { cls := .type "tuple", dict := dd, data := .seq items n, slots := sl } ∧ R (.ok (.ret (Value.ref l))) s) :=
  .of_wp fun prog w A R s h => by
    obtain ⟨hp, g, d, tk, os⟩ := s
    obtain ⟨hl, h⟩ := h
    have f1 := AutoSeq1.idx_int
    wp_walk using wpAny_loadPart' hl
    repeat (first
      | (refine wpAny_ite_false (by decide) ?_; wp_walk using wpAny_loadPart' hl)
      | (refine wpAny_ite_true (by simp) ?_; wp_walk using wpAny_loadPart' hl)
      | (refine wpAny_ite_true (by decide) ?_; wp_walk using wpAny_loadPart' hl))
    exact ⟨_, rfl, h⟩
def rOnce (K : PySem.W.Frag) : R2 := fun x y H Q => ∃ l xs, x = .ref l ∧ y = .int 1 ∧ SqT K H l xs ∧ xs ≠ [] ∧ Q (.ref l) H
theorem op_once : OpR X (binaryOp .Mult) (rOnce X.K) := by
  intro pins s σ H x y v u Q I rx ry h
  obtain ⟨l, xs, e1, e2, hT, hne, q⟩ := h
  subst e1; subst e2
  cases rx
  obtain ⟨t, rfl⟩ := ry
  obtain ⟨its, r, ⟨⟨cls, dd, data, sl⟩, ho, hc, n, hd⟩, hs⟩ := I.tuple hT
  simp only at hc hd
  subst hc hd
  have hi : its.toArray.isEmpty = false := by
    cases its with
    | nil => exact absurd (List.eq_nil_of_length_eq_zero r.length) hne
    | cons p q => rfl
  refine wpAny_binaryOp_repeat_ref (T := "tuple") (U := "int") (by decide) ⟨_, ho, rfl⟩ (fun s' => typeIs_int s' 1 t) noFill_tuple_mul F.fills_int_mul F.slot_int_rmul repeat_tuple F.slot_int_index.lookup ?_
  refine call_meets F.slot_int_rmul (typeIs_int s 1 t) F.entry_int_rmul (F.args_int_rmul_2 _ _) (int_rmul_tuple 1 t l its.toArray n dd sl) ⟨ho, rfl, ⟨_, ho, rfl⟩, ?_⟩
  refine call_meets F.slot_tuple_mul ⟨_, ho, rfl⟩ F.entry_tuple_mul (F.args_tuple_mul_2 _ _) (once_meets l its.toArray n dd sl t hi) ⟨ho, ?_⟩
  exact ⟨.ref l, H, I, rfl, q⟩
def rMulD (K : PySem.W.Frag) : R2 := fun x y H Q => rI MulOk (fun i j => .int (i * j)) x y H Q ∨ (rOnce K x y H Q ∨ (rRepT K x y H Q ∨ rRep x y H Q))
/-- * : ints; a tuple, a list times an int -/
def dMul : D2 := fun x y μ Q => match x, y with
  | .int i, .int j => MulOk i j ∧ Q (.int (i * j)) μ
  | .tup xs, .int k => xs ≠ [] ∧ 1 ≤ k ∧ k ≤ 1000 ∧ xs.length ≤ 1000 ∧ Q (.tup (List.replicate k.toNat xs).flatten) μ
  | x, .int k => ∃ xs, mview μ x = some xs ∧ -(2 ^ 63) ≤ k ∧ k < 2 ^ 63 ∧ xs.length * k.toNat ≤ sizeLine ∧ newL (List.replicate k.toNat xs).flatten μ Q
  | _, _ => False
theorem Reps.rep {K : PySem.W.Frag} {c : Cf} {vs : List V} {xs : List Vl} (r : Reps K c vs xs) : ∀ n : Nat, Reps K c (List.replicate n vs).flatten (List.replicate n xs).flatten
  | 0 => .nil
  | n + 1 => by
    rw [List.replicate_succ, List.replicate_succ, List.flatten_cons, List.flatten_cons]
    exact r.append (Reps.rep r n)
theorem rep_len {α : Type} (xs : List α) : ∀ n : Nat, (List.replicate n xs).flatten.length = xs.length * n
  | 0 => rfl
  | n + 1 => by
    rw [List.replicate_succ, List.flatten_cons, List.length_append, rep_len xs n, Nat.mul_succ, Nat.add_comm]
theorem sim_mul {K : PySem.W.Frag} : Sim2 K (rMulD K) dMul := by
  intro c μ H vx vy x y Q P R rx ry h k
  unfold dMul at h
  split at h
  · cases rx; cases ry
    exact .inl ⟨_, _, rfl, rfl, h.1, k c _ μ _ H (Ext.refl c) R (.int _) h.2⟩
  · rename_i xs n
    obtain ⟨hne, h1, h2, h3, q⟩ := h
    obtain ⟨a, vs, e1, t1, z1, r1⟩ := tup_at R rx
    cases ry
    by_cases hn : n = 1
    · subst hn
      refine .inr (.inl ⟨a, vs, e1, rfl, t1, fun z => hne (r1.nil_iff.mp z), ?_⟩)
      rw [← e1]
      refine k c _ μ _ H (Ext.refl c) R rx ?_
      have e : (List.replicate (1 : Int).toNat xs).flatten = xs := by
        show ([xs] : List (List Vl)).flatten = xs
        simp
      rw [e] at q; exact q
    · refine .inr (.inr (.inl ⟨a, n, vs, e1, rfl, t1, fun z => hne (r1.nil_iff.mp z), by omega, h2, by rw [r1.length]; exact h3, sim_newT R (r1.rep _) ?_ q k⟩))
      rw [rep_len, sizeLine_eq]
      have a1 : xs.length * n.toNat ≤ 1000 * 1000 := Nat.mul_le_mul h3 (by omega)
      omega
  · obtain ⟨xs, h1, h2, h3, h4, q⟩ := h
    obtain ⟨a, vs, e1, t1, z1, r1⟩ := mview_at R rx h1
    cases ry
    exact .inr (.inr (.inr ⟨a, _, vs, e1, rfl, t1, h2, h3, by rw [r1.length]; exact h4, sim_newL R (r1.rep _) (by rw [rep_len]; exact h4) q k⟩))
  · exact h.elim
theorem q_mul (ha : QE X a ta da) (hb : QE X b tb db) : QE X (.BinOp a .Mult b pos) (tOp (rMulD X.K) ta tb) (dOp dMul da db) := q_op (opr_or op_mulD (opr_or op_once (opr_or op_repT op_rep))) sim_mul ha hb

/-! ### one-place -/
def dNeg (da : DE) : DE := fun ρ μ Q => da ρ μ fun x μ1 => match x with
  | .int i => Q (.int (-i)) μ1
  | _ => False
theorem q_neg (ha : QE X a ta da) : QE X (.UnaryOp .USub a pos) (tUn (rU fun i => .int (-i)) ta) (dNeg da) := by
  refine ⟨pe_un un_neg ha.p, fun c ρ μ σ H Q P R S h k => ?_⟩
  refine ha.s c ρ μ σ H _ _ R S h fun c1 x μ1 v H1 E1 R1 r1 q1 => ?_
  split at q1
  · cases r1
    exact ⟨_, rfl, k c1 _ μ1 _ H1 E1 R1 (.int _) q1⟩
  · exact q1.elim

/-! ### comparisons -/
theorem q_cmp {op : CmpOp} {r : R2} {d : D2} (ho : OpR X (compareOp op) r) (hs : Sim2 X.K r d) (ha : QE X a ta da) (hb : QE X b tb db) (hm : behindInMarks op b = false) : QE X (.Compare a [op] [b] pos) (tOp r ta tb) (dOp d da db) := ⟨pe_cmpR ho ha.p hb.p hm, sim_op hs ha.s hb.s⟩
abbrev dLt : D2 := dI0 fun i j => .bl (decide (i < j))
abbrev dLe : D2 := dI0 fun i j => .bl (decide (i ≤ j))
abbrev dGt : D2 := dI0 fun i j => .bl (decide (j < i))
abbrev dGe : D2 := dI0 fun i j => .bl (decide (j ≤ i))
theorem sim_lt {K : PySem.W.Frag} : Sim2 K (rI0 fun i j => .bl (decide (i < j))) dLt := sim_I0 fun _ _ _ => .bl _
theorem sim_le {K : PySem.W.Frag} : Sim2 K (rI0 fun i j => .bl (decide (i ≤ j))) dLe := sim_I0 fun _ _ _ => .bl _
theorem sim_gt {K : PySem.W.Frag} : Sim2 K (rI0 fun i j => .bl (decide (j < i))) dGt := sim_I0 fun _ _ _ => .bl _
theorem sim_ge {K : PySem.W.Frag} : Sim2 K (rI0 fun i j => .bl (decide (j ≤ i))) dGe := sim_I0 fun _ _ _ => .bl _
theorem q_lt (ha : QE X a ta da) (hb : QE X b tb db) : QE X (.Compare a [.Lt] [b] pos) (tOp (rI0 fun i j => .bl (decide (i < j))) ta tb) (dOp dLt da db) := q_cmp op_lt sim_lt ha hb (nomark _)
theorem q_le (ha : QE X a ta da) (hb : QE X b tb db) : QE X (.Compare a [.LtE] [b] pos) (tOp (rI0 fun i j => .bl (decide (i ≤ j))) ta tb) (dOp dLe da db) := q_cmp op_le sim_le ha hb (nomark _)
theorem q_gt (ha : QE X a ta da) (hb : QE X b tb db) : QE X (.Compare a [.Gt] [b] pos) (tOp (rI0 fun i j => .bl (decide (j < i))) ta tb) (dOp dGt da db) := q_cmp op_gt sim_gt ha hb (nomark _)
theorem q_ge (ha : QE X a ta da) (hb : QE X b tb db) : QE X (.Compare a [.GtE] [b] pos) (tOp (rI0 fun i j => .bl (decide (j ≤ i))) ta tb) (dOp dGe da db) := q_cmp op_ge sim_ge ha hb (nomark _)

/-! ### data: what == and repr look at -/
mutual
def dat : Vl → Option PyData
  | .non => some .none
  | .bl b => some (.bool b)
  | .int i => some (.int i)
  | .str x => some (.str x)
  | .tup xs => (dats xs).map .tuple
  | .lst xs => (dats xs).map .list
  | .frl _ => none
  | .ref _ => none
  | .op _ => none
def dats : List Vl → Option (List PyData)
  | [] => some []
  | x :: xs => match dat x, dats xs with
    | some d, some ds => some (d :: ds)
    | _, _ => none
end
def datM (μ : Mu) : Vl → Option PyData
  | .ref k => match μ[k]? with
    | some (.lst xs) => (dats xs).map .list
    | _ => none
  | x => dat x
mutual
theorem dp_of {K : PySem.W.Frag} {c : Cf} {H : Hp} (hs : Same c.Hd H) : ∀ (x : Vl) (d : PyData) (v : V), dat x = some d → Rep K c v x → Dp K H v d
  | .non, d, v, e, r => by
    cases r
    rw [dat] at e
    cases e; exact .non
  | .bl b, d, v, e, r => by
    cases r
    rw [dat] at e
    cases e; exact .bl b
  | .int i, d, v, e, r => by
    cases r
    rw [dat] at e
    cases e; exact .int i
  | .str x, d, v, e, r => by
    cases r
    rw [dat] at e
    cases e; exact .str x
  | .tup xs, d, v, e, r => by
    rw [dat] at e
    cases hx : dats xs with
    | none => rw [hx] at e; cases e
    | some ds =>
      rw [hx] at e
      cases e
      cases r with
      | tup h1 hz h2 => exact .tup (same_t hs h1) (dpAll_of hs xs ds _ hx h2)
  | .lst xs, d, v, e, r => by
    rw [dat] at e
    cases hx : dats xs with
    | none => rw [hx] at e; cases e
    | some ds =>
      rw [hx] at e
      cases e
      cases r with
      | lst h1 hz h2 => exact .lst (SqL.of (hs _ _ h1)) (dpAll_of hs xs ds _ hx h2)
  | .frl _, d, v, e, r => by rw [dat] at e; cases e
  | .ref _, d, v, e, r => by rw [dat] at e; cases e
  | .op _, d, v, e, r => by rw [dat] at e; cases e
theorem dpAll_of {K : PySem.W.Frag} {c : Cf} {H : Hp} (hs : Same c.Hd H) : ∀ (xs : List Vl) (ds : List PyData) (vs : List V), dats xs = some ds → Reps K c vs xs → DpAll K H vs ds
  | [], ds, vs, e, r => by
    cases r
    rw [dats] at e
    cases e; exact .nil
  | x :: xs, ds, vs, e, r => by
    rw [dats] at e
    cases hx : dat x with
    | none => rw [hx] at e; cases e
    | some d =>
      cases hy : dats xs with
      | none => rw [hx, hy] at e; cases e
      | some es =>
        rw [hx, hy] at e
        cases e
        cases r with
        | cons h1 h2 => exact .cons (dp_of hs x d _ hx h1) (dpAll_of hs xs es _ hy h2)
end
theorem dpM_of {K : PySem.W.Frag} {c : Cf} {μ : Mu} {H : Hp} (R : RM K c μ H) {x : Vl} {d : PyData} {v : V} (e : datM μ x = some d) (r : Rep K c v x) : Dp K H v d := by
  cases x with
  | ref k =>
    have e : (match μ[k]? with
      | some (.lst xs) => (dats xs).map PyData.list
      | _ => none) = some d := e
    split at e
    · rename_i ys ek
      cases hx : dats ys with
      | none => rw [hx] at e; cases e
      | some ds =>
        rw [hx] at e
        cases e
        obtain ⟨a, e1, _, vs, e2, hz, e3⟩ := ref_at R r ek
        subst e1
        exact .lst (SqL.of e2) (dpAll_of R.sub ys ds _ hx e3)
    · cases e
  | _ => exact dp_of R.sub _ d v (by simpa [datM] using e) r
def datEq (neg : Bool) (x y : Vl) (μ : Mu) (Q : DK) : Prop := ∃ d e, datM μ x = some d ∧ datM μ y = some e ∧ SeqAt.shaped d = true ∧ SeqAt.shaped e = true ∧ Q (.bl (PyData.eqv d e != neg)) μ
def dEqN (neg : Bool) : D2 := fun x y μ Q => match x, y with
  | .int i, .int j => Q (.bl (decide (i = j) != neg)) μ
  | .bl i, .bl j => Q (.bl (decide (i = j) != neg)) μ
  | .str i, .str j => Q (.bl (decide (i = j) != neg)) μ
  | .non, .non => Q (.bl (true != neg)) μ
  | x, y => datEq neg x y μ Q
abbrev dEq : D2 := dEqN false
abbrev dNe : D2 := dEqN true
def rEqU (K : PySem.W.Frag) : R2 := fun x y H Q => rEq x y H Q ∨ rEqD K x y H Q
def rNeU (K : PySem.W.Frag) : R2 := fun x y H Q => rNe x y H Q ∨ rNeD K x y H Q
theorem sim_eq {K : PySem.W.Frag} : Sim2 K (rEqU K) dEq := by
  intro c μ H vx vy x y Q P R rx ry h k
  have go : ∀ (b : Bool), Q (.bl (b != false)) μ → P (.bl b) H := fun b q => by
    rw [Bool.bne_false] at q
    exact k c _ μ _ H (Ext.refl c) R (.bl _) q
  unfold dEq dEqN at h
  split at h
  · cases rx; cases ry
    rename_i i j
    refine .inl ⟨rfl, ?_⟩
    have e : decide (V.int i = V.int j) = decide (i = j) := by simp
    rw [e]; exact go _ h
  · cases rx; cases ry
    rename_i i j
    refine .inl ⟨rfl, ?_⟩
    have e : decide (V.bl i = V.bl j) = decide (i = j) := by simp
    rw [e]; exact go _ h
  · cases rx; cases ry
    rename_i i j
    refine .inl ⟨rfl, ?_⟩
    have e : decide (V.str i = V.str j) = decide (i = j) := by simp
    rw [e]; exact go _ h
  · cases rx; cases ry
    exact .inl ⟨rfl, go true h⟩
  · obtain ⟨d, e, h1, h2, s1, s2, q⟩ := h
    exact .inr ⟨d, e, dpM_of R h1 rx, dpM_of R h2 ry, s1, s2, go _ q⟩
theorem sim_ne {K : PySem.W.Frag} : Sim2 K (rNeU K) dNe := by
  intro c μ H vx vy x y Q P R rx ry h k
  have go : ∀ (b : Bool), Q (.bl (b != true)) μ → P (.bl (!b)) H := fun b q => by
    rw [Bool.bne_true] at q
    exact k c _ μ _ H (Ext.refl c) R (.bl _) q
  unfold dNe dEqN at h
  split at h
  · cases rx; cases ry
    rename_i i j
    refine .inl ⟨rfl, ?_⟩
    have e : decide (V.int i = V.int j) = decide (i = j) := by simp
    rw [e]; exact go _ h
  · cases rx; cases ry
    rename_i i j
    refine .inl ⟨rfl, ?_⟩
    have e : decide (V.bl i = V.bl j) = decide (i = j) := by simp
    rw [e]; exact go _ h
  · cases rx; cases ry
    rename_i i j
    refine .inl ⟨rfl, ?_⟩
    have e : decide (V.str i = V.str j) = decide (i = j) := by simp
    rw [e]; exact go _ h
  · cases rx; cases ry
    exact .inl ⟨rfl, go true h⟩
  · obtain ⟨d, e, h1, h2, s1, s2, q⟩ := h
    exact .inr ⟨d, e, dpM_of R h1 rx, dpM_of R h2 ry, s1, s2, go _ q⟩
theorem q_eq {k : Nat} (hr : Room k X.A) (ha : QE X a ta da) (hb : QE X b tb db) : QE X (.Compare a [.Eq] [b] pos) (tOp (rEqU X.K) ta tb) (dOp dEq da db) := q_cmp (opr_or op_eq (op_eqD hr.units)) sim_eq ha hb (nomark _)
theorem q_ne {k : Nat} (hr : Room k X.A) (ha : QE X a ta da) (hb : QE X b tb db) : QE X (.Compare a [.NotEq] [b] pos) (tOp (rNeU X.K) ta tb) (dOp dNe da db) := q_cmp (opr_or op_ne (op_neD hr.units)) sim_ne ha hb (nomark _)
/-- is None, is not None; is of bools by written True -/
def dIsN (neg : Bool) : D2 := fun x y μ Q => match y with
  | .non => match x with
    | .non => Q (.bl (!neg)) μ
    | .op _ => False
    | _ => Q (.bl neg) μ
  | _ => False
theorem nonIs {K : PySem.W.Frag} {c : Cf} {v : V} {x : Vl} (r : Rep K c v x) (h : ∀ u, x ≠ .op u) : v = .non ↔ x = .non := by
  cases r with
  | op u => exact absurd rfl (h _)
  | _ => simp
theorem sim_isN {K : PySem.W.Frag} : Sim2 K (fun x y H Q => y = .non ∧ Q (.bl (decide (x = .non))) H) (dIsN false) := by
  intro c μ H vx vy x y Q P R rx ry h k
  unfold dIsN at h
  split at h
  · cases ry
    refine ⟨rfl, ?_⟩
    split at h
    · cases rx
      exact k c _ μ _ H (Ext.refl c) R (.bl _) h
    · exact h.elim
    · rename_i h1 h2
      have e : ¬ vx = .non := fun z => h1 ((nonIs rx h2).mp z)
      rw [decide_eq_false e]
      exact k c _ μ _ H (Ext.refl c) R (.bl _) h
  · exact h.elim
theorem sim_notN {K : PySem.W.Frag} : Sim2 K (fun x y H Q => y = .non ∧ Q (.bl (!decide (x = .non))) H) (dIsN true) := by
  intro c μ H vx vy x y Q P R rx ry h k
  unfold dIsN at h
  split at h
  · cases ry
    refine ⟨rfl, ?_⟩
    split at h
    · cases rx
      exact k c _ μ _ H (Ext.refl c) R (.bl _) h
    · exact h.elim
    · rename_i h1 h2
      have e : ¬ vx = .non := fun z => h1 ((nonIs rx h2).mp z)
      rw [decide_eq_false e]
      exact k c _ μ _ H (Ext.refl c) R (.bl _) h
  · exact h.elim
theorem q_isN (ha : QE X a ta da) (hb : QE X b tb db) : QE X (.Compare a [.Is] [b] pos) (tOp (fun x y H Q => y = .non ∧ Q (.bl (decide (x = .non))) H) ta tb) (dOp (dIsN false) da db) := q_cmp op_isN sim_isN ha hb (nomark _)
theorem q_notN (ha : QE X a ta da) (hb : QE X b tb db) : QE X (.Compare a [.IsNot] [b] pos) (tOp (fun x y H Q => y = .non ∧ Q (.bl (!decide (x = .non))) H) ta tb) (dOp (dIsN true) da db) := q_cmp op_notN sim_notN ha hb (nomark _)
/-- a < b < c -/
def dChain (d d' : D2) (da db dc : DE) : DE := fun ρ μ Q => da ρ μ fun x μ1 => db ρ μ1 fun y μ2 => d x y μ2 fun z μ3 => match z with
  | .bl true => dc ρ μ3 fun w μ4 => d' y w μ4 Q
  | .bl false => Q (.bl false) μ3
  | _ => False
theorem q_chain {cc : Expr} {tc : TE} {dc : DE} {op op' : CmpOp} {r r' : R2} {d d' : D2} (ho : OpR X (compareOp op) r) (hs : Sim2 X.K r d) (ho' : OpR X (compareOp op') r') (hs' : Sim2 X.K r' d') (ha : QE X a ta da) (hb : QE X b tb db) (hc : QE X cc tc dc)
    (hm : lastMarks [op, op'] [b, cc] = false := by with_unfolding_all rfl) : QE X (.Compare a [op, op'] [b, cc] pos) (tChain r r' ta tb tc) (dChain d d' da db dc) := by
  refine ⟨pe_chain ho ho' ha.p hb.p hc.p hm, fun c ρ μ σ H Q P R S h k => ?_⟩
  refine ha.s c ρ μ σ H _ _ R S h fun c1 x μ1 v H1 E1 R1 r1 q1 => ?_
  refine hb.s c1 ρ μ1 σ H1 _ _ R1 (S.up E1.toExt0) q1 fun c2 y μ2 u H2 E2 R2 r2 q2 => ?_
  refine hs c2 μ2 H2 v u x y _ _ R2 (r1.up E2.toExt0) r2 q2 fun c3 z μ3 w H3 E3 R3 r3 q3 => ?_
  have E13 := (E1.trans E2).trans E3
  split at q3
  · cases r3
    refine ⟨true, rfl, ?_⟩
    rw [if_pos rfl]
    refine hc.s c3 ρ μ3 σ H3 _ _ R3 (S.up E13.toExt0) q3 fun c4 w4 μ4 v4 H4 E4 R4 r4 q4 => ?_
    exact hs' c4 μ4 H4 u v4 y w4 Q P R4 (r2.up (E3.trans E4).toExt0) r4 q4 fun c5 z5 μ5 v5 H5 E5 => k c5 z5 μ5 v5 H5 ((E13.trans E4).trans E5)
  · cases r3
    refine ⟨false, rfl, ?_⟩
    rw [if_neg Bool.false_ne_true]
    exact k c3 _ μ3 _ H3 E13 R3 (.bl _) q3
  · exact q3.elim

/-! ### tests -/
def dTest (da : DE) : DT := fun ρ μ Q => da ρ μ fun x μ1 => match x with
  | .bl b => Q b μ1
  | _ => False
theorem sim_test {K : PySem.W.Frag} (ha : SimE K ta da) : SimT K (tTest ta) (dTest da) := by
  intro c ρ μ σ H Q P R S h k
  refine ha c ρ μ σ H _ _ R S h fun c1 x μ1 v H1 E1 R1 r1 q1 => ?_
  split at q1
  · cases r1
    exact ⟨_, rfl, k c1 _ μ1 H1 E1 R1 q1⟩
  · exact q1.elim
theorem sim_testB {K : PySem.W.Frag} (ha : SimE K ta da) : SimT K (tB ta) (dTest da) := by
  intro c ρ μ σ H Q P R S h k
  refine ha c ρ μ σ H _ _ R S h fun c1 x μ1 v H1 E1 R1 r1 q1 => ?_
  split at q1
  · cases r1
    exact ⟨_, rfl, k c1 _ μ1 H1 E1 R1 q1⟩
  · exact q1.elim
theorem qt_cmp {op : CmpOp} {r : R2} {d : D2} (ho : OpR X (compareOp op) r) (hs : Sim2 X.K r d) (ha : QE X a ta da) (hb : QE X b tb db) (hm : behindInMarks op b = false) : QT X (.Compare a [op] [b] pos) (tTest (tOp r ta tb)) (dTest (dOp d da db)) := ⟨pt_cmpR ho ha.p hb.p hm, sim_test (sim_op hs ha.s hb.s)⟩
theorem qt_lt (ha : QE X a ta da) (hb : QE X b tb db) : QT X (.Compare a [.Lt] [b] pos) (tTest (tOp (rI0 fun i j => .bl (decide (i < j))) ta tb)) (dTest (dOp dLt da db)) := qt_cmp op_lt sim_lt ha hb (nomark _)
theorem qt_le (ha : QE X a ta da) (hb : QE X b tb db) : QT X (.Compare a [.LtE] [b] pos) (tTest (tOp (rI0 fun i j => .bl (decide (i ≤ j))) ta tb)) (dTest (dOp dLe da db)) := qt_cmp op_le sim_le ha hb (nomark _)
theorem qt_gt (ha : QE X a ta da) (hb : QE X b tb db) : QT X (.Compare a [.Gt] [b] pos) (tTest (tOp (rI0 fun i j => .bl (decide (j < i))) ta tb)) (dTest (dOp dGt da db)) := qt_cmp op_gt sim_gt ha hb (nomark _)
theorem qt_ge (ha : QE X a ta da) (hb : QE X b tb db) : QT X (.Compare a [.GtE] [b] pos) (tTest (tOp (rI0 fun i j => .bl (decide (j ≤ i))) ta tb)) (dTest (dOp dGe da db)) := qt_cmp op_ge sim_ge ha hb (nomark _)
theorem qt_eq {k : Nat} (hr : Room k X.A) (ha : QE X a ta da) (hb : QE X b tb db) : QT X (.Compare a [.Eq] [b] pos) (tTest (tOp (rEqU X.K) ta tb)) (dTest (dOp dEq da db)) := qt_cmp (opr_or op_eq (op_eqD hr.units)) sim_eq ha hb (nomark _)
theorem qt_ne {k : Nat} (hr : Room k X.A) (ha : QE X a ta da) (hb : QE X b tb db) : QT X (.Compare a [.NotEq] [b] pos) (tTest (tOp (rNeU X.K) ta tb)) (dTest (dOp dNe da db)) := qt_cmp (opr_or op_ne (op_neD hr.units)) sim_ne ha hb (nomark _)
theorem qt_isN (ha : QE X a ta da) (hb : QE X b tb db) : QT X (.Compare a [.Is] [b] pos) (tTest (tOp (fun x y H Q => y = .non ∧ Q (.bl (decide (x = .non))) H) ta tb)) (dTest (dOp (dIsN false) da db)) := qt_cmp op_isN sim_isN ha hb (nomark _)
theorem qt_notN (ha : QE X a ta da) (hb : QE X b tb db) : QT X (.Compare a [.IsNot] [b] pos) (tTest (tOp (fun x y H Q => y = .non ∧ Q (.bl (!decide (x = .non))) H) ta tb)) (dTest (dOp (dIsN true) da db)) := qt_cmp op_notN sim_notN ha hb (nomark _)
theorem qt_chain {cc : Expr} {tc : TE} {dc : DE} {op op' : CmpOp} {r r' : R2} {d d' : D2} (ho : OpR X (compareOp op) r) (hs : Sim2 X.K r d) (ho' : OpR X (compareOp op') r') (hs' : Sim2 X.K r' d') (ha : QE X a ta da) (hb : QE X b tb db) (hc : QE X cc tc dc)
    (hm : lastMarks [op, op'] [b, cc] = false := by with_unfolding_all rfl) : QT X (.Compare a [op, op'] [b, cc] pos) (tTest (tChain r r' ta tb tc)) (dTest (dChain d d' da db dc)) :=
  ⟨pt_chain ho ho' ha.p hb.p hc.p hm, sim_test (q_chain (pos := pos) ho hs ho' hs' ha hb hc hm).s⟩
/-- a value True or False as a test -/
theorem qt_val (ha : QE X a ta da) (he : ∀ whole, isTrue a X.env whole = (do let v ← whole; standAt a.pos; holding [v] (truthy v)) := by intro _; rfl) : QT X a (tB ta) (dTest da) := ⟨pt_val ha.p he, sim_testB ha.s⟩
variable {tt uu : TT} {dt du : DT} {rest : List Expr}
def dNotT (dt : DT) : DT := fun ρ μ Q => dt ρ μ fun b μ1 => Q (!b) μ1
theorem qt_not (ha : QT X a tt dt) : QT X (.UnaryOp .Not a pos) (tNot tt) (dNotT dt) := by
  refine ⟨pt_not ha.p, fun c ρ μ σ H Q P R S h k => ?_⟩
  exact ha.s c ρ μ σ H _ _ R S h fun c1 b μ1 H1 E1 R1 q1 => k c1 _ μ1 H1 E1 R1 q1
def dAndT (dt du : DT) : DT := fun ρ μ Q => dt ρ μ fun b μ1 => match b with
  | true => du ρ μ1 Q
  | false => Q false μ1
def dOrT (dt du : DT) : DT := fun ρ μ Q => dt ρ μ fun b μ1 => match b with
  | true => Q true μ1
  | false => du ρ μ1 Q
theorem sim_and {K : PySem.W.Frag} (h1 : SimT K tt dt) (h2 : SimT K uu du) : SimT K (tAnd tt uu) (dAndT dt du) := by
  intro c ρ μ σ H Q P R S h k
  refine h1 c ρ μ σ H _ _ R S h fun c1 b μ1 H1 E1 R1 q1 => ?_
  cases b with
  | true =>
    rw [if_pos rfl]
    exact h2 c1 ρ μ1 σ H1 Q P R1 (S.up E1.toExt0) q1 fun c2 b2 μ2 H2 E2 => k c2 b2 μ2 H2 (E1.trans E2)
  | false =>
    rw [if_neg Bool.false_ne_true]
    exact k c1 false μ1 H1 E1 R1 q1
theorem sim_or {K : PySem.W.Frag} (h1 : SimT K tt dt) (h2 : SimT K uu du) : SimT K (tOr tt uu) (dOrT dt du) := by
  intro c ρ μ σ H Q P R S h k
  refine h1 c ρ μ σ H _ _ R S h fun c1 b μ1 H1 E1 R1 q1 => ?_
  cases b with
  | true =>
    rw [if_pos rfl]
    exact k c1 true μ1 H1 E1 R1 q1
  | false =>
    rw [if_neg Bool.false_ne_true]
    exact h2 c1 ρ μ1 σ H1 Q P R1 (S.up E1.toExt0) q1 fun c2 b2 μ2 H2 E2 => k c2 b2 μ2 H2 (E1.trans E2)
theorem qw_and (ha : QT X a tt dt) (hb : QW X (.BoolOp .And (b :: rest) pos) uu du) : QW X (.BoolOp .And (a :: b :: rest) pos) (tAnd tt uu) (dAndT dt du) := ⟨pw_and ha.p hb.p, sim_and ha.s hb.s⟩
theorem qw_and1 (ha : QT X a tt dt) : QW X (.BoolOp .And [a] pos) tt dt := ⟨pw_and1 ha.p, ha.s⟩
theorem qw_or (ha : QT X a tt dt) (hb : QW X (.BoolOp .Or (b :: rest) pos) uu du) : QW X (.BoolOp .Or (a :: b :: rest) pos) (tOr tt uu) (dOrT dt du) := ⟨pw_or ha.p hb.p, sim_or ha.s hb.s⟩
theorem qw_or1 (ha : QT X a tt dt) : QW X (.BoolOp .Or [a] pos) tt dt := ⟨pw_or1 ha.p, ha.s⟩
theorem QW.t {e : Expr} (h : QW X e tt dt) : QT X e tt dt := ⟨h.p.pt, h.s⟩
/-- as values: all but the last True or False -/
def dAndV (da db : DE) : DE := fun ρ μ Q => da ρ μ fun x μ1 => match x with
  | .bl true => db ρ μ1 Q
  | .bl false => Q (.bl false) μ1
  | _ => False
def dOrV (da db : DE) : DE := fun ρ μ Q => da ρ μ fun x μ1 => match x with
  | .bl true => Q (.bl true) μ1
  | .bl false => db ρ μ1 Q
  | _ => False
theorem q_and (ha : QE X a ta da) (hb : QE X (.BoolOp .And (b :: rest) pos) tb db) : QE X (.BoolOp .And (a :: b :: rest) pos) (tAndV ta tb) (dAndV da db) := by
  refine ⟨pe_and ha.p hb.p, fun c ρ μ σ H Q P R S h k => ?_⟩
  refine ha.s c ρ μ σ H _ _ R S h fun c1 x μ1 v H1 E1 R1 r1 q1 => ?_
  split at q1
  · cases r1
    refine ⟨true, rfl, ?_⟩
    rw [if_pos rfl]
    exact hb.s c1 ρ μ1 σ H1 Q P R1 (S.up E1.toExt0) q1 fun c2 z μ2 v2 H2 E2 => k c2 z μ2 v2 H2 (E1.trans E2)
  · cases r1
    refine ⟨false, rfl, ?_⟩
    rw [if_neg Bool.false_ne_true]
    exact k c1 _ μ1 _ H1 E1 R1 (.bl _) q1
  · exact q1.elim
theorem q_or (ha : QE X a ta da) (hb : QE X (.BoolOp .Or (b :: rest) pos) tb db) : QE X (.BoolOp .Or (a :: b :: rest) pos) (tOrV ta tb) (dOrV da db) := by
  refine ⟨pe_or ha.p hb.p, fun c ρ μ σ H Q P R S h k => ?_⟩
  refine ha.s c ρ μ σ H _ _ R S h fun c1 x μ1 v H1 E1 R1 r1 q1 => ?_
  split at q1
  · cases r1
    refine ⟨true, rfl, ?_⟩
    rw [if_pos rfl]
    exact k c1 _ μ1 _ H1 E1 R1 (.bl _) q1
  · cases r1
    refine ⟨false, rfl, ?_⟩
    rw [if_neg Bool.false_ne_true]
    exact hb.s c1 ρ μ1 σ H1 Q P R1 (S.up E1.toExt0) q1 fun c2 z μ2 v2 H2 E2 => k c2 z μ2 v2 H2 (E1.trans E2)
  · exact q1.elim
theorem q_one {op} (h : QE X a ta da) : QE X (.BoolOp op [a] pos) ta da := ⟨pe_one h.p, h.s⟩
def dIfE (dt : DT) (da db : DE) : DE := fun ρ μ Q => dt ρ μ fun b μ1 => match b with
  | true => da ρ μ1 Q
  | false => db ρ μ1 Q
theorem q_ifE {cc : Expr} (hc : QT X cc tt dt) (ha : QE X a ta da) (hb : QE X b tb db) : QE X (.IfExp cc a b pos) (tIf tt ta tb) (dIfE dt da db) := by
  refine ⟨pe_ifExp hc.p ha.p hb.p, fun c ρ μ σ H Q P R S h k => ?_⟩
  refine hc.s c ρ μ σ H _ _ R S h fun c1 z μ1 H1 E1 R1 q1 => ?_
  cases z with
  | true =>
    rw [if_pos rfl]
    exact ha.s c1 ρ μ1 σ H1 Q P R1 (S.up E1.toExt0) q1 fun c2 z μ2 v2 H2 E2 => k c2 z μ2 v2 H2 (E1.trans E2)
  | false =>
    rw [if_neg Bool.false_ne_true]
    exact hb.s c1 ρ μ1 σ H1 Q P R1 (S.up E1.toExt0) q1 fun c2 z μ2 v2 H2 E2 => k c2 z μ2 v2 H2 (E1.trans E2)

/-! ### displays -/
variable {t : TA} {d : DA}
def dNil : DA := fun _ μ Q => Q [] μ
def dCons (de : DE) (d : DA) : DA := fun ρ μ Q => de ρ μ fun x μ1 => d ρ μ1 fun xs μ2 => Q (x :: xs) μ2
def dStar (de : DE) (d : DA) : DA := fun ρ μ Q => de ρ μ fun x μ1 => ∃ xs, sview μ1 x = some xs ∧ d ρ μ1 fun ys μ2 => Q (xs ++ ys) μ2
theorem qa_nil : QA X [] tNil dNil := ⟨pa_nil, fun c ρ μ σ H Q P R S h k => k c [] μ [] H (Ext.refl c) R .nil h⟩
theorem qa_cons (ha : QE X e te de) (hr : QA X es t d) (hs : starEach (e :: es) X.env = (false, eval e X.env) :: starEach es X.env := by rfl) : QA X (e :: es) (tCons te t) (dCons de d) := by
  refine ⟨pa_cons ha.p hr.p hs, fun c ρ μ σ H Q P R S h k => ?_⟩
  refine ha.s c ρ μ σ H _ _ R S h fun c1 x μ1 v H1 E1 R1 r1 q1 => ?_
  exact hr.s c1 ρ μ1 σ H1 _ _ R1 (S.up E1.toExt0) q1 fun c2 xs μ2 vs H2 E2 R2 r2 q2 => k c2 (x :: xs) μ2 (v :: vs) H2 (E1.trans E2) R2 (.cons (r1.up E2.toExt0) r2) q2
theorem qa_star {p : Pos} (he : QE X e te de) (hr : QA X es t d) (hs : starEach (.Starred e p :: es) X.env = (true, eval e X.env) :: starEach es X.env := by rfl) : QA X (.Starred e p :: es) (tStar X.K te t) (dStar de d) := by
  refine ⟨pa_star he.p hr.p hs, fun c ρ μ σ H Q P R S h k => ?_⟩
  refine he.s c ρ μ σ H _ _ R S h fun c1 x μ1 v H1 E1 R1 r1 q1 => ?_
  obtain ⟨xs, hx, q1⟩ := q1
  obtain ⟨a, vs, e1, hq, hz, r⟩ := sview_at R1 r1 hx
  refine ⟨a, vs, e1, hq.symm, ?_⟩
  exact hr.s c1 ρ μ1 σ H1 _ _ R1 (S.up E1.toExt0) q1 fun c2 ys μ2 ws H2 E2 R2 r2 q2 => k c2 (xs ++ ys) μ2 (vs ++ ws) H2 (E1.trans E2) R2 ((r.up E2.toExt0).append r2) q2
def dTup (d : DA) : DE := fun ρ μ Q => d ρ μ fun xs μ1 => xs.length ≤ sizeLine ∧ Q (.tup xs) μ1
def dLst (d : DA) : DE := fun ρ μ Q => d ρ μ fun xs μ1 => xs.length ≤ sizeLine ∧ newL xs μ1 Q
theorem q_tup {x1} (h : QA X es t d) : QE X (.Tuple es x1 pos) (tTup t) (dTup d) := by
  refine ⟨pe_tup h.p, fun c ρ μ σ H Q P R S hw k => ?_⟩
  refine h.s c ρ μ σ H _ _ R S hw fun c1 xs μ1 vs H1 E1 R1 r1 q1 => ?_
  exact ⟨by rw [r1.length]; exact q1.1, sim_newT R1 r1 q1.1 q1.2 fun c2 z μ2 v2 H2 E2 => k c2 z μ2 v2 H2 (E1.trans E2)⟩
theorem q_lst (h : QA X es t d) : QE X (.List es pos) (tLst t) (dLst d) := by
  refine ⟨pe_lst h.p, fun c ρ μ σ H Q P R S hw k => ?_⟩
  refine h.s c ρ μ σ H _ _ R S hw fun c1 xs μ1 vs H1 E1 R1 r1 q1 => ?_
  exact ⟨by rw [r1.length]; exact q1.1, sim_newL R1 r1 q1.1 q1.2 fun c2 z μ2 v2 H2 E2 => k c2 z μ2 v2 H2 (E1.trans E2)⟩

/-! ### subscripts, slices -/
theorem Reps.atI {K : PySem.W.Frag} {c : Cf} {vs : List V} {xs : List Vl} {i : Int} {x : Vl} (r : Reps K c vs xs) (h : atI xs i = some x) : ∃ v, L2.atI vs i = some v ∧ Rep K c v x := by
  unfold L2.atI at h ⊢
  rw [r.length]
  cases hx : ixN xs.length i with
  | none => rw [hx] at h; cases h
  | some j =>
    rw [hx] at h
    obtain ⟨v, e1, e2⟩ := r.get (i := j) (x := x) h
    exact ⟨v, e1, e2⟩
def dIx : D2 := fun x y μ Q => match y with
  | .int i => ∃ xs z, sview μ x = some xs ∧ atI xs i = some z ∧ Q z μ
  | _ => False
theorem sim_ix {K : PySem.W.Frag} : Sim2 K (rIx K) dIx := by
  intro c μ H vx vy x y Q P R rx ry h k
  unfold dIx at h
  split at h
  · obtain ⟨xs, z, h1, h2, q⟩ := h
    cases ry
    obtain ⟨a, vs, e1, hq, hz, r⟩ := sview_at R rx h1
    obtain ⟨v, e2, rv⟩ := r.atI h2
    rcases hq with hq | hq
    · exact .inl ⟨a, vs, _, v, e1, rfl, hq, e2, k c z μ v H (Ext.refl c) R rv q⟩
    · exact .inr (.inl ⟨a, vs, _, v, e1, rfl, hq, e2, k c z μ v H (Ext.refl c) R rv q⟩)
  · exact h.elim
theorem q_ix (ha : QE X a ta da) (hb : QE X b tb db) (hs : PlainIx b := by intro _ _; rfl) : QE X (.Subscript a b pos) (tOp (rIx X.K) ta tb) (dOp dIx da db) := ⟨pe_ix ix_seq ha.p hb.p hs, sim_op sim_ix ha.s hb.s⟩
def cutD (xs : List Vl) (lo hi : Option Int) : List Vl := (xs.drop (HT.sIx xs.length 0 lo)).take (HT.sIx xs.length xs.length hi - HT.sIx xs.length 0 lo)
theorem Reps.cut {K : PySem.W.Frag} {c : Cf} {vs : List V} {xs : List Vl} (r : Reps K c vs xs) (lo hi : Option Int) : Reps K c (cutV vs lo hi) (cutD xs lo hi) := by
  unfold cutV cutD
  rw [r.length]
  exact (r.drop _).take _
theorem cutD_length (xs : List Vl) (lo hi : Option Int) : (cutD xs lo hi).length ≤ xs.length := by
  unfold cutD
  rw [List.length_take, List.length_drop]
  omega
def dNoPart : DO := fun _ μ Q => Q none μ
def dPart (de : DE) : DO := fun ρ μ Q => de ρ μ fun x μ1 => match x with
  | .int i => Q (some i) μ1
  | _ => False
theorem qo_none : QO X none tNoPart dNoPart := ⟨po_none, fun c ρ μ σ H Q P R S h k => k c none μ H (Ext.refl c) R h⟩
theorem qo_some (he : QE X e te de) : QO X (some e) (tPart te) (dPart de) := by
  refine ⟨po_some he.p, fun c ρ μ σ H Q P R S h k => ?_⟩
  refine he.s c ρ μ σ H _ _ R S h fun c1 x μ1 v H1 E1 R1 r1 q1 => ?_
  split at q1
  · cases r1
    exact ⟨_, rfl, k c1 _ μ1 H1 E1 R1 q1⟩
  · exact q1.elim
def dCut (x : Vl) (lo hi : Option Int) (μ : Mu) (Q : DK) : Prop := match x with
  | .tup xs => ¬ (HT.sIx xs.length 0 lo = 0 ∧ HT.sIx xs.length xs.length hi = xs.length) ∧ Q (.tup (cutD xs lo hi)) μ
  | x => ∃ xs, lview μ x = some xs ∧ newL (cutD xs lo hi) μ Q
def dSl (de : DE) (dl dh : DO) : DE := fun ρ μ Q => de ρ μ fun x μ1 => dl ρ μ1 fun l μ2 => dh ρ μ2 fun u μ3 => dCut x l u μ3 Q
def rSlD (K : PySem.W.Frag) : V → Option Int → Option Int → Hp → VK → Prop := fun x lo hi H Q => rSlL K x lo hi H Q ∨ rSlT K x lo hi H Q
theorem q_sl {lo hi : Option Expr} {tl th : TO} {dl dh : DO} {p2 : Pos} (he : QE X e te de) (hl : QO X lo tl dl) (hh : QO X hi th dh) : QE X (.Subscript e (.Slice lo hi none p2) pos) (tSl (rSlD X.K) te tl th) (dSl de dl dh) := by
  refine ⟨pe_slice (sl_list.or sl_tup) he.p hl.p hh.p, fun c ρ μ σ H Q P R S h k => ?_⟩
  refine he.s c ρ μ σ H _ _ R S h fun c1 x μ1 v H1 E1 R1 r1 q1 => ?_
  refine hl.s c1 ρ μ1 σ H1 _ _ R1 (S.up E1.toExt0) q1 fun c2 l μ2 H2 E2 R2 q2 => ?_
  refine hh.s c2 ρ μ2 σ H2 _ _ R2 (S.up (E1.trans E2).toExt0) q2 fun c3 u μ3 H3 E3 R3 q3 => ?_
  have r3 := r1.up (E2.trans E3).toExt0
  have k3 := fun c4 z μ4 v4 H4 (E4 : Ext c3 c4) => k c4 z μ4 v4 H4 (((E1.trans E2).trans E3).trans E4)
  unfold dCut at q3
  split at q3
  · rename_i xs
    obtain ⟨a, vs, e1, t1, z1, r⟩ := tup_at R3 r3
    refine .inr ⟨a, vs, e1, t1, ?_, sim_newT R3 (r.cut l u) (Nat.le_trans (cutD_length _ _ _) z1) q3.2 k3⟩
    rw [r.length]; exact q3.1
  · obtain ⟨xs, hx, q⟩ := q3
    obtain ⟨a, vs, e1, t1, z1, r⟩ := lview_at R3 r3 hx
    exact .inl ⟨a, vs, e1, t1, sim_newL R3 (r.cut l u) (Nat.le_trans (cutD_length _ _ _) z1) q k3⟩

/-! ### calls of what is built in -/
abbrev DC := List Vl → Mu → DK → Prop
def SimC (K : PySem.W.Frag) (r : List V → Hp → VK → Prop) (d : DC) : Prop := ∀ (c : Cf) (μ : Mu) (H : Hp) (vs : List V) (xs : List Vl) (Q : DK) (P : VK), RM K c μ H → Reps K c vs xs → d xs μ Q →
  (∀ c' z μ' v H', Ext c c' → RM K c' μ' H' → Rep K c' v z → Q z μ' → P v H') → r vs H P
def dCB (f : DC) (d : DA) : DE := fun ρ μ Q => d ρ μ fun xs μ1 => f xs μ1 Q
variable {x : Str} {id T : String} {p : Pos} {r : List V → Hp → VK → Prop} {f : DC}
theorem sim_cb {K : PySem.W.Frag} (hs : SimC K r f) (ha : SimA K t d) : SimE K (tCB r t) (dCB f d) := by
  intro c ρ μ σ H Q P R S h k
  refine ha c ρ μ σ H _ _ R S h fun c1 xs μ1 vs H1 E1 R1 r1 q1 => ?_
  exact hs c1 μ1 H1 vs xs Q P R1 r1 q1 fun c2 z μ2 v2 H2 E2 => k c2 z μ2 v2 H2 (E1.trans E2)
theorem q_callB (hc : CallR X (.builtin id) r) (hs : SimC X.K r f) (hm : X.mg x = none) (hv : bootBuiltins x = some (.builtin id)) (ha : QA X (e :: es) t d) (hg : Gl X x := by rfl) (hn : x ≠ "__name__" := by decide) (hdb : (x == ("__debug__" : Str)) = false := by decide)
    (he : starEach (e :: es) X.env = (false, eval e X.env) :: starEach es X.env := by rfl) (hpl : (backTo pos (starEach es X.env)).any (·.1) = false := by rfl) : QE X (.Call (.Name x p) (e :: es) [] pos) (tCB r t) (dCB f d) :=
  ⟨pe_callB hc hg hm hv ha.p hn hdb he hpl, sim_cb hs ha.s⟩
theorem q_callTy (hc : CallR X (.type T) r) (hs : SimC X.K r f) (hm : X.mg x = none) (hv : bootBuiltins x = some (.type T)) (ha : QA X (e :: es) t d) (hg : Gl X x := by rfl) (hn : x ≠ "__name__" := by decide) (hdb : (x == ("__debug__" : Str)) = false := by decide)
    (he : starEach (e :: es) X.env = (false, eval e X.env) :: starEach es X.env := by rfl) (hpl : (backTo pos (starEach es X.env)).any (·.1) = false := by rfl) : QE X (.Call (.Name x p) (e :: es) [] pos) (tCB r t) (dCB f d) :=
  ⟨pe_callTy hc hg hm hv ha.p hn hdb he hpl, sim_cb hs ha.s⟩
theorem reps1 {K : PySem.W.Frag} {c : Cf} {vs : List V} {x : Vl} (h : Reps K c vs [x]) : ∃ v, vs = [v] ∧ Rep K c v x := by
  cases h with
  | cons h1 h2 => cases h2; exact ⟨_, rfl, h1⟩
/-- len of a list, a tuple -/
def fLen : DC := fun xs μ Q => ∃ x ys, xs = [x] ∧ sview μ x = some ys ∧ Q (.int (ys.length : Int)) μ
theorem sim_len {K : PySem.W.Frag} : SimC K (fun xs H Q => ∃ p ys, xs = [.ref p] ∧ (SqL K H p ys ∨ SqT K H p ys) ∧ Q (.int ys.length) H) fLen := by
  intro c μ H vs xs Q P R r h k
  obtain ⟨x, ys, e, hx, q⟩ := h
  subst e
  obtain ⟨v, e, r1⟩ := reps1 r
  subst e
  obtain ⟨a, ws, e1, hq, hz, r2⟩ := sview_at R r1 hx
  subst e1
  exact ⟨a, ws, rfl, hq, k c _ μ _ H (Ext.refl c) R (by rw [r2.length]; exact .int _) q⟩
/-- tuple(..), list(..) -/
def fTuple : DC := fun xs μ Q => ∃ x ys, xs = [x] ∧ sview μ x = some ys ∧ Q (.tup ys) μ
def fList : DC := fun xs μ Q => ∃ x ys, xs = [x] ∧ sview μ x = some ys ∧ newL ys μ Q
theorem sim_tuple {K : PySem.W.Frag} : SimC K (fun xs H Q => ∃ p ys, xs = [.ref p] ∧ ((SqL K H p ys ∧ ∀ l, H l = none → Q (.ref l) (upd H l (.tup ys))) ∨ (SqT K H p ys ∧ Q (.ref p) H))) fTuple := by
  intro c μ H vs xs Q P R r h k
  obtain ⟨x, ys, e, hx, q⟩ := h
  subst e
  obtain ⟨v, e, r1⟩ := reps1 r
  subst e
  cases x with
  | tup zs =>
    have e : zs = ys := by simpa [sview] using hx
    subst e
    obtain ⟨a, ws, e1, hq, hz, r2⟩ := tup_at R r1
    subst e1
    exact ⟨a, ws, rfl, .inr ⟨hq, k c _ μ _ H (Ext.refl c) R r1 q⟩⟩
  | _ =>
    obtain ⟨a, ws, e1, hq, hz, r2⟩ := lview_at (xs := ys) R r1 (by simpa [sview] using hx)
    subst e1
    exact ⟨a, ws, rfl, .inl ⟨hq, sim_newT R r2 hz q k⟩⟩
theorem sim_list {K : PySem.W.Frag} : SimC K (fun xs H Q => ∃ p ys, xs = [.ref p] ∧ (SqL K H p ys ∨ SqT K H p ys) ∧ ∀ l, H l = none → Q (.ref l) (upd H l (.lst ys))) fList := by
  intro c μ H vs xs Q P R r h k
  obtain ⟨x, ys, e, hx, q⟩ := h
  subst e
  obtain ⟨v, e, r1⟩ := reps1 r
  subst e
  obtain ⟨a, ws, e1, hq, hz, r2⟩ := sview_at R r1 hx
  subst e1
  exact ⟨a, ws, rfl, hq, sim_newL R r2 hz q k⟩
def fAbs : DC := fun xs μ Q => match xs with
  | [.int i] => Q (.int (if i < 0 then -i else i)) μ
  | _ => False
theorem sim_abs {K : PySem.W.Frag} : SimC K (fun xs H Q => ∃ i, xs = [.int i] ∧ Q (.int (if i < 0 then -i else i)) H) fAbs := by
  intro c μ H vs xs Q P R r h k
  unfold fAbs at h
  split at h
  · obtain ⟨v, e, r1⟩ := reps1 r
    subst e
    cases r1
    exact ⟨_, rfl, k c _ μ _ H (Ext.refl c) R (.int _) h⟩
  · exact h.elim
def fInt : DC := fun xs μ Q => match xs with
  | [.int i] => Q (.int i) μ
  | [.bl b] => Q (.int (if b then 1 else 0)) μ
  | _ => False
theorem sim_int {K : PySem.W.Frag} : SimC K (fun xs H Q => (∃ i, xs = [.int i] ∧ Q (.int i) H) ∨ ∃ k, xs = [.bl k] ∧ Q (.int (if k then 1 else 0)) H) fInt := by
  intro c μ H vs xs Q P R r h k
  unfold fInt at h
  split at h
  · obtain ⟨v, e, r1⟩ := reps1 r
    subst e
    cases r1
    exact .inl ⟨_, rfl, k c _ μ _ H (Ext.refl c) R (.int _) h⟩
  · obtain ⟨v, e, r1⟩ := reps1 r
    subst e
    cases r1
    exact .inr ⟨_, rfl, k c _ μ _ H (Ext.refl c) R (.int _) h⟩
  · exact h.elim
/-- sum, min, max of a list of ints -/
def fSum : DC := fun xs μ Q => ∃ (x : Vl) (ns : List Int), xs = [x] ∧ lview μ x = some (ns.map Vl.int) ∧ Q (.int ns.sum) μ
def fMin : DC := fun xs μ Q => ∃ (x : Vl) (ns : List Int), xs = [x] ∧ lview μ x = some (ns.map Vl.int) ∧ 0 < ns.length ∧ ∀ m, m ∈ ns → (∀ y, y ∈ ns → m ≤ y) → Q (.int m) μ
def fMax : DC := fun xs μ Q => ∃ (x : Vl) (ns : List Int), xs = [x] ∧ lview μ x = some (ns.map Vl.int) ∧ 0 < ns.length ∧ ∀ m, m ∈ ns → (∀ y, y ∈ ns → y ≤ m) → Q (.int m) μ
theorem sim_sum {K : PySem.W.Frag} : SimC K (rSum K) fSum := by
  intro c μ H vs xs Q P R r h k
  obtain ⟨x, ns, e, hx, q⟩ := h
  subst e
  obtain ⟨v, e, r1⟩ := reps1 r
  subst e
  obtain ⟨a, ws, e1, hq, hz, r2⟩ := lview_at R r1 hx
  subst e1
  rw [r2.ints_of] at hq
  exact ⟨a, ns, rfl, hq, k c _ μ _ H (Ext.refl c) R (.int _) q⟩
theorem sim_min {K : PySem.W.Frag} : SimC K (rMin K) fMin := by
  intro c μ H vs xs Q P R r h k
  obtain ⟨x, ns, e, hx, hn, q⟩ := h
  subst e
  obtain ⟨v, e, r1⟩ := reps1 r
  subst e
  obtain ⟨a, ws, e1, hq, hz, r2⟩ := lview_at R r1 hx
  subst e1
  rw [r2.ints_of] at hq
  exact ⟨a, ns, rfl, hq, hn, fun m h1 h2 => k c _ μ _ H (Ext.refl c) R (.int _) (q m h1 h2)⟩
theorem sim_max {K : PySem.W.Frag} : SimC K (rMax K) fMax := by
  intro c μ H vs xs Q P R r h k
  obtain ⟨x, ns, e, hx, hn, q⟩ := h
  subst e
  obtain ⟨v, e, r1⟩ := reps1 r
  subst e
  obtain ⟨a, ws, e1, hq, hz, r2⟩ := lview_at R r1 hx
  subst e1
  rw [r2.ints_of] at hq
  exact ⟨a, ns, rfl, hq, hn, fun m h1 h2 => k c _ μ _ H (Ext.refl c) R (.int _) (q m h1 h2)⟩
theorem q_len (hm : X.mg "len" = none) (ha : QA X [e] t d) (hg : Gl X "len" := by rfl) (he : starEach [e] X.env = (false, eval e X.env) :: starEach [] X.env := by rfl) : QE X (.Call (.Name "len" p) [e] [] pos) (tCB (fun xs H Q => ∃ p ys, xs = [.ref p] ∧ (SqL X.K H p ys ∨ SqT X.K H p ys) ∧ Q (.int ys.length) H) t) (dCB fLen d) :=
  q_callB call_len_seq sim_len hm PySem.boot_len ha hg (by decide) (by decide) he rfl
theorem q_tuple (hm : X.mg "tuple" = none) (ha : QA X [e] t d) (hg : Gl X "tuple" := by rfl) (he : starEach [e] X.env = (false, eval e X.env) :: starEach [] X.env := by rfl) : QE X (.Call (.Name "tuple" p) [e] [] pos) (tCB (fun xs H Q => ∃ p ys, xs = [.ref p] ∧ ((SqL X.K H p ys ∧ ∀ l, H l = none → Q (.ref l) (upd H l (.tup ys))) ∨ (SqT X.K H p ys ∧ Q (.ref p) H))) t) (dCB fTuple d) :=
  q_callTy call_tuple_of sim_tuple hm (by decide +kernel) ha hg (by decide) (by decide) he rfl
theorem q_list (hm : X.mg "list" = none) (ha : QA X [e] t d) (hg : Gl X "list" := by rfl) (he : starEach [e] X.env = (false, eval e X.env) :: starEach [] X.env := by rfl) : QE X (.Call (.Name "list" p) [e] [] pos) (tCB (fun xs H Q => ∃ p ys, xs = [.ref p] ∧ (SqL X.K H p ys ∨ SqT X.K H p ys) ∧ ∀ l, H l = none → Q (.ref l) (upd H l (.lst ys))) t) (dCB fList d) :=
  q_callTy call_list_of sim_list hm (by decide +kernel) ha hg (by decide) (by decide) he rfl
theorem q_abs (hm : X.mg "abs" = none) (ha : QA X [e] t d) (hg : Gl X "abs" := by rfl) (he : starEach [e] X.env = (false, eval e X.env) :: starEach [] X.env := by rfl) : QE X (.Call (.Name "abs" p) [e] [] pos) (tCB (fun xs H Q => ∃ i, xs = [.int i] ∧ Q (.int (if i < 0 then -i else i)) H) t) (dCB fAbs d) :=
  q_callB call_abs sim_abs hm (by decide +kernel) ha hg (by decide) (by decide) he rfl
theorem q_intC (hm : X.mg "int" = none) (ha : QA X [e] t d) (hg : Gl X "int" := by rfl) (he : starEach [e] X.env = (false, eval e X.env) :: starEach [] X.env := by rfl) : QE X (.Call (.Name "int" p) [e] [] pos) (tCB (fun xs H Q => (∃ i, xs = [.int i] ∧ Q (.int i) H) ∨ ∃ k, xs = [.bl k] ∧ Q (.int (if k then 1 else 0)) H) t) (dCB fInt d) :=
  q_callTy call_int1 sim_int hm (by decide +kernel) ha hg (by decide) (by decide) he rfl
theorem q_sum (hcm : X.calm = true) (hm : X.mg "sum" = none) (ha : QA X [e] t d) (hg : Gl X "sum" := by rfl) (he : starEach [e] X.env = (false, eval e X.env) :: starEach [] X.env := by rfl) : QE X (.Call (.Name "sum" p) [e] [] pos) (tCB (rSum X.K) t) (dCB fSum d) :=
  q_callB (cr_sum hcm) sim_sum hm (by decide +kernel) ha hg (by decide) (by decide) he rfl
theorem q_min (hcm : X.calm = true) (hm : X.mg "min" = none) (ha : QA X [e] t d) (hg : Gl X "min" := by rfl) (he : starEach [e] X.env = (false, eval e X.env) :: starEach [] X.env := by rfl) : QE X (.Call (.Name "min" p) [e] [] pos) (tCB (rMin X.K) t) (dCB fMin d) :=
  q_callB (cr_min hcm) sim_min hm (by decide +kernel) ha hg (by decide) (by decide) he rfl
theorem q_max (hcm : X.calm = true) (hm : X.mg "max" = none) (ha : QA X [e] t d) (hg : Gl X "max" := by rfl) (he : starEach [e] X.env = (false, eval e X.env) :: starEach [] X.env := by rfl) : QE X (.Call (.Name "max" p) [e] [] pos) (tCB (rMax X.K) t) (dCB fMax d) :=
  q_callB (cr_max hcm) sim_max hm (by decide +kernel) ha hg (by decide) (by decide) he rfl
end
end DL

/-! DLc: repr, methods of lists, what is walked, comprehensions. -/
namespace DL
open PySem L2 StX PyProof.Rows

section
variable {X : Cx} {e a b o : Expr} {es : List Expr} {te ta tb to : TE} {de da db do_ : DE} {pos : Pos} {t : TA} {d : DA} {p : Pos}

/-! ### repr -/
def rRepr (K : PySem.W.Frag) : List V → Hp → VK → Prop := fun xs H Q => ∃ x dd, xs = [x] ∧ Dp K H x dd ∧ SeqAt.shaped dd = true ∧ dd.showable = true ∧ dd.shown.length ≤ sizeLine ∧ Q (.str dd.shown) H
theorem call_reprD {k : Nat} (hg : X.A.guards = some []) (hr : Room k X.A) : CallR X (.builtin "repr") (rRepr X.K) := by
  intro pins s σ H xs us Q I r h
  obtain ⟨x, dd, e1, hd, hs, hw, hz, q⟩ := h
  subst e1
  obtain ⟨u, e2, r1⟩ : ∃ u, us = [u] ∧ RelV x u := by
    cases r with
    | cons r1 r2 =>
      cases r2
      exact ⟨_, rfl, r1⟩
  subst e2
  obtain ⟨as, rd⟩ := Dp.reads I dd x u hd r1
  have hu := hr.un
  have hdep := SeqAt.depth_of_shaped hs
  have hnd : dd.hasDict = false := PyData.hasDict_of_canLay dd (SeqAt.canLay_of_shaped hs)
  have big : ∀ (ad : Addr), u = .ref ad → wpAny (model X.prog X.w) X.A (call (.builtin "repr") [u]) (EP X pins σ Q) X.xe s := fun ad eu => by
    subst eu
    exact repr_of_reads' rd hw (PyData.noDict_hsm hnd) hg (by omega) (fun _ _ z => z) (fun h' t tk hk => ⟨.str dd.shown, H, I.kept hk, ⟨_, rfl⟩, q⟩) hz
  cases hd with
  | non =>
    cases r1
    exact PySem.P.repr_of_none ⟨.str _, H, I.tok _, ⟨_, rfl⟩, q⟩
  | bl b =>
    cases r1
    exact PySem.P.repr_of_bool ⟨.str _, H, I.tok _, ⟨_, rfl⟩, q⟩
  | int i =>
    obtain ⟨t, e3⟩ := r1
    subst e3
    exact PySem.P.repr_of_int (by simpa [PyData.showable] using hw) ⟨.str _, H, I.tok _, ⟨_, rfl⟩, q⟩
  | str x =>
    obtain ⟨t, e3⟩ := r1
    subst e3
    exact PySem.P.repr_of_str ⟨.str _, H, I.tok _, ⟨_, rfl⟩, q⟩ hz
  | lst h1 h2 => cases r1; exact big _ rfl
  | tup h1 h2 => cases r1; exact big _ rfl
def fRepr : DC := fun xs μ Q => ∃ (x : Vl) (dd : PyData), xs = [x] ∧ datM μ x = some dd ∧ SeqAt.shaped dd = true ∧ dd.showable = true ∧ dd.shown.length ≤ sizeLine ∧ Q (.str dd.shown) μ
theorem sim_repr {K : PySem.W.Frag} : SimC K (rRepr K) fRepr := by
  intro c μ H vs xs Q P R r h k
  obtain ⟨x, dd, e1, hx, h1, h2, h3, q⟩ := h
  subst e1
  obtain ⟨v, e2, r1⟩ := reps1 r
  subst e2
  exact ⟨v, dd, rfl, dpM_of R hx r1, h1, h2, h3, k c _ μ _ H (Ext.refl c) R (.str _) q⟩
theorem q_repr {k : Nat} (hgd : X.A.guards = some []) (hr : Room k X.A) (hm : X.mg "repr" = none) (ha : QA X [e] t d) (hg : Gl X "repr" := by rfl) (he : starEach [e] X.env = (false, eval e X.env) :: starEach [] X.env := by rfl) : QE X (.Call (.Name "repr" p) [e] [] pos) (tCB (rRepr X.K) t) (dCB fRepr d) :=
  q_callB (call_reprD hgd hr) sim_repr hm (by decide +kernel) ha hg (by decide) (by decide) he rfl

/-! ### methods of lists -/
abbrev DM := Vl → List Vl → Mu → DK → Prop
def SimM (K : PySem.W.Frag) (r : V → List V → Hp → VK → Prop) (f : DM) : Prop := ∀ (c : Cf) (μ : Mu) (H : Hp) (v : V) (x : Vl) (vs : List V) (xs : List Vl) (Q : DK) (P : VK), RM K c μ H → Rep K c v x → Reps K c vs xs → f x xs μ Q →
  (∀ c' z μ' v H', Ext c c' → RM K c' μ' H' → Rep K c' v z → Q z μ' → P v H') → r v vs H P
def dBM (f : DM) (do_ : DE) (d : DA) : DE := fun ρ μ Q => do_ ρ μ fun x μ1 => (lview μ1 x).isSome = true ∧ d ρ μ1 fun xs μ2 => f x xs μ2 Q
theorem sim_bm {K : PySem.W.Frag} {r : V → List V → Hp → VK → Prop} {f : DM} (hs : SimM K r f) (ho : SimE K to do_) (ha : SimA K t d) : SimE K (tBM K "list" r to t) (dBM f do_ d) := by
  intro c ρ μ σ H Q P R S h k
  refine ho c ρ μ σ H _ _ R S h fun c1 x μ1 v H1 E1 R1 r1 q1 => ?_
  obtain ⟨hl, q1⟩ := q1
  obtain ⟨ys, hy⟩ := Option.isSome_iff_exists.mp hl
  obtain ⟨a, ws, e1, hq, hz, r2⟩ := lview_at R1 r1 hy
  refine ⟨?_, ?_⟩
  · rw [e1]; exact .inl ⟨rfl, _, hq⟩
  refine ha c1 ρ μ1 σ H1 _ _ R1 (S.up E1.toExt0) q1 fun c2 xs μ2 vs H2 E2 R2 r2 q2 => ?_
  exact hs c2 μ2 H2 v x vs xs Q P R2 (r1.up E2.toExt0) r2 q2 fun c3 z μ3 v3 H3 E3 => k c3 z μ3 v3 H3 ((E1.trans E2).trans E3)
def mAppend : DM := fun x xs μ Q => ∃ (k : Nat) (ys : List Vl) (y : Vl), x = .ref k ∧ xs = [y] ∧ μ[k]? = some (.lst ys) ∧ ys.length < sizeLine ∧ Q .non (μ.set k (.lst (ys ++ [y])))
theorem sim_append {K : PySem.W.Frag} : SimM K rAppend mAppend := by
  intro c μ H v x vs xs Q P R rx rs h k
  obtain ⟨j, ys, y, e1, e2, hm, hz, q⟩ := h
  subst e1; subst e2
  obtain ⟨a, e3, hk, ws, e4, hz4, r4⟩ := ref_at R rx hm
  obtain ⟨u, e5, ry⟩ := reps1 rs
  subst e3; subst e5
  refine ⟨a, ws, u, rfl, rfl, e4, by rw [r4.length]; exact hz, ?_⟩
  refine k c _ _ _ _ (Ext.refl c) (R.write (m := .lst (ys ++ [y])) hk ⟨_, rfl, ?_, r4.append (.one ry)⟩) .non q
  rw [List.length_append]
  show ys.length + 1 ≤ sizeLine
  omega
theorem q_append {apos cpos : Pos} (ho : QE X o to do_) (ha : QA X [e] t d) (hbase : attributeBase o "append" X.env (eval o X.env) = eval o X.env := by rfl)
    (hfew : ((backTo cpos (starEach [e] X.env)).all (fun x => !x.1) && (backToKw cpos (keywordEach [] X.env)).all (fun x => x.1.isSome) && decide ([e].length + ([] : List Keyword).length + (if ([] : List Keyword).isEmpty then 0 else 1) < 30)) = true := by rfl)
    (hline : (apos.endLine == cpos.line) = true := by rfl) (hs : starEach [e] X.env = (false, eval e X.env) :: starEach [] X.env := by rfl) (hpl : (backTo cpos (starEach [] X.env)).any (·.1) = false := by rfl) : QE X (.Call (.Attribute o "append" apos) [e] [] cpos) (tBM X.K "list" rAppend to t) (dBM mAppend do_ d) :=
  ⟨pe_bm PySem.F.plainAttrs_list PySem.F.slot_list_append PySem.F.type_list_append mt_append ho.p ha.p hbase hfew hline hs hpl, sim_bm sim_append ho.s ha.s⟩
/-- xs.index(n) of ints -/
def mIndex : DM := fun x xs μ Q => ∃ (ns : List Int) (n : Int) (j : Nat), lview μ x = some (ns.map Vl.int) ∧ xs = [.int n] ∧ ns[j]? = some n ∧ (∀ m, m < j → ns[m]? ≠ some n) ∧ Q (.int (j : Int)) μ
theorem flat_ints : ∀ ns : List Int, (ns.map V.int).all flatV = true
  | [] => rfl
  | _ :: r => flat_ints r
theorem sim_index {K : PySem.W.Frag} : SimM K (rIndex K) mIndex := by
  intro c μ H v x vs xs Q P R rx rs h k
  obtain ⟨ns, n, j, hx, e2, hj, hno, q⟩ := h
  subst e2
  obtain ⟨u, e5, ry⟩ := reps1 rs
  subst e5
  cases ry
  obtain ⟨a, ws, e1, hq, hz, r2⟩ := lview_at R rx hx
  rw [r2.ints_of] at hq
  refine ⟨a, _, .int n, j, .int n, e1, rfl, hq, rfl, flat_ints ns, by rw [List.getElem?_map, hj]; rfl, by simp [eqV], fun m z' hm hz' => ?_, k c _ μ _ H (Ext.refl c) R (.int _) q⟩
  rw [List.getElem?_map] at hz'
  cases hn : ns[m]? with
  | none => rw [hn] at hz'; cases hz'
  | some i =>
    rw [hn] at hz'
    have e : V.int i = z' := by simpa using hz'
    subst e
    have ne : i ≠ n := fun z => hno m hm (by rw [hn, z])
    show (i == n) = false
    exact beq_eq_false_iff_ne.mpr ne
theorem q_index {apos cpos : Pos} (ho : QE X o to do_) (ha : QA X [e] t d) (hbase : attributeBase o "index" X.env (eval o X.env) = eval o X.env := by rfl)
    (hfew : ((backTo cpos (starEach [e] X.env)).all (fun x => !x.1) && (backToKw cpos (keywordEach [] X.env)).all (fun x => x.1.isSome) && decide ([e].length + ([] : List Keyword).length + (if ([] : List Keyword).isEmpty then 0 else 1) < 30)) = true := by rfl)
    (hline : (apos.endLine == cpos.line) = true := by rfl) (hs : starEach [e] X.env = (false, eval e X.env) :: starEach [] X.env := by rfl) (hpl : (backTo cpos (starEach [] X.env)).any (·.1) = false := by rfl) : QE X (.Call (.Attribute o "index" apos) [e] [] cpos) (tBM X.K "list" (rIndex X.K) to t) (dBM mIndex do_ d) :=
  ⟨pe_bm PySem.F.plainAttrs_list PySem.F.slot_list_index PySem.F.type_list_index mt_index ho.p ha.p hbase hfew hline hs hpl, sim_bm sim_index ho.s ha.s⟩
end

/-! ### what is walked -/
/-- from c on, as long as G holds: the walk gives xs, one after another -/
def WalkD (K : PySem.W.Frag) (c : Cf) (J : It) (xs : List Vl) (G : Mu → Prop) : Prop := ∃ (Gh : Hp → Prop) (Y : Nat → Hp → V → Hp → Prop), Walk J xs.length Gh Y ∧
  (∀ c2 μ2 H2, Ext0 c c2 → RM K c2 μ2 H2 → G μ2 → Gh H2) ∧
  ∀ i H2 v H3 c2 μ2, i < xs.length → Ext0 c c2 → RM K c2 μ2 H2 → G μ2 → Y i H2 v H3 → ∃ c3 x, Ext c2 c3 ∧ RM K c3 μ2 H3 ∧ xs[i]? = some x ∧ Rep K c3 v x
abbrev DI := Rho → Mu → (List Vl → (Mu → Prop) → Mu → Prop) → Prop
def SimI (K : PySem.W.Frag) (wi : TI) (di : DI) : Prop := ∀ (c : Cf) (ρ : Rho) (μ : Mu) (σ : L2.St) (H : Hp) (Q : List Vl → (Mu → Prop) → Mu → Prop) (P : It → Hp → Prop), RM K c μ H → RS K c ρ σ → di ρ μ Q →
  (∀ c' xs G μ' J H', Ext c c' → RM K c' μ' H' → xs.length ≤ sizeLine → WalkD K c' J xs G → Q xs G μ' → P J H') → wi σ H P
structure QI (X : Cx) (tg iter : Expr) (wi : TI) (di : DI) : Prop where
  p : PI X tg iter wi
  s : SimI X.K wi di
/-- as long as the thing is the same -/
def asLong (xs : List Vl) : Vl → Mu → Prop
  | .ref k, μ => μ[k]? = some (.lst xs)
  | _, _ => True
def dIter (de : DE) : DI := fun ρ μ Q => de ρ μ fun x μ1 => ∃ xs, sview μ1 x = some xs ∧ Q xs (asLong xs x) μ1
/-- list or tuple -/
inductive Kd where
  | L | T
def Sq (K : PySem.W.Frag) : Kd → Hp → Addr → List V → Prop
  | .L => SqL K
  | .T => SqT K
theorem stays_at {K : PySem.W.Frag} {c : Cf} {μ : Mu} {H : Hp} {v : V} {x : Vl} {xs : List Vl} (R : RM K c μ H) (r : Rep K c v x) (h : sview μ x = some xs) : ∃ a vs kd, v = .ref a ∧ xs.length ≤ sizeLine ∧ vs.length = xs.length ∧
    (∀ c2 μ2 H2, Ext0 c c2 → RM K c2 μ2 H2 → asLong xs x μ2 → ∃ vs2, Sq K kd H2 a vs2 ∧ Reps K c2 vs2 xs) ∧ Sq K kd H a vs := by
  cases x with
  | tup ys =>
    have e : ys = xs := by simpa [sview] using h
    subst e
    cases r with
    | tup h1 hz h2 => exact ⟨_, _, .T, rfl, hz, h2.length, fun c2 μ2 H2 E R2 _ => ⟨_, same_t R2.sub (same_t E.hd h1), h2.up E⟩, same_t R.sub h1⟩
  | lst ys =>
    have e : ys = xs := by simpa [sview, lview] using h
    subst e
    cases r with
    | lst h1 hz h2 => exact ⟨_, _, .L, rfl, hz, h2.length, fun c2 μ2 H2 E R2 _ => ⟨_, SqL.of (R2.sub _ _ (E.hd _ _ h1)), h2.up E⟩, SqL.of (R.sub _ _ h1)⟩
  | frl ys =>
    have e : ys = xs := by simpa [sview, lview] using h
    subst e
    cases r with
    | frl h1 hz h2 => exact ⟨_, _, .L, rfl, hz, h2.length, fun c2 μ2 H2 E R2 _ => ⟨_, same_l R2.sub (same_l E.hd h1), h2.up E⟩, same_l R.sub h1⟩
  | ref k =>
    have h' : μ[k]? = some (.lst xs) := mview_ref (by simpa [sview, lview, mview] using h)
    obtain ⟨a, e1, ha, vs, e2, hz, r2⟩ := ref_at R r h'
    refine ⟨a, vs, .L, e1, hz, r2.length, fun c2 μ2 H2 E R2 g => ?_, SqL.of e2⟩
    obtain ⟨_, ws, e3, _, r3⟩ := R2.obj k a _ (E.al _ _ ha) g
    exact ⟨ws, SqL.of e3, r3⟩
  | _ => simp [sview, lview] at h
/-- over a list or a tuple -/
def ItS (K : PySem.W.Frag) : Kd → Addr → It
  | .L, a => Itl K a
  | .T, a => Itt K a
theorem walk_S {K : PySem.W.Frag} {kd : Kd} {a : Addr} {n : Nat} : Walk (ItS K kd a) n (fun H => ∃ xs, Sq K kd H a xs ∧ xs.length = n) (fun i H x H' => H' = H ∧ ∀ xs, Sq K kd H a xs → xs[i]? = some x) := by
  cases kd with
  | L =>
    refine ⟨fun i H hi g => ?_, fun H g => ?_, fun i H x H' hi g y => y⟩
    · obtain ⟨xs, q, hn⟩ := g
      exact ⟨xs, xs[i]'(by omega), q, by simp [show i < xs.length by omega]⟩
    · obtain ⟨xs, q, hn⟩ := g
      exact ⟨xs, q, by omega⟩
  | T =>
    refine ⟨fun i H hi g => ?_, fun H g => ?_, fun i H x H' hi g y => y⟩
    · obtain ⟨xs, q, hn⟩ := g
      exact ⟨xs, xs[i]'(by omega), q, by simp [show i < xs.length by omega]⟩
    · obtain ⟨xs, q, hn⟩ := g
      exact ⟨xs, q, by omega⟩
theorem walkD_S {K : PySem.W.Frag} {c : Cf} {μ : Mu} {H : Hp} {v : V} {x : Vl} {xs : List Vl} (R : RM K c μ H) (r : Rep K c v x) (h : sview μ x = some xs) : ∃ a kd, v = .ref a ∧ xs.length ≤ sizeLine ∧ (∃ vs, Sq K kd H a vs) ∧ WalkD K c (ItS K kd a) xs (asLong xs x) := by
  obtain ⟨a, vs, kd, e1, hz, hl, st, hq⟩ := stays_at R r h
  refine ⟨a, kd, e1, hz, ⟨vs, hq⟩, _, _, walk_S, fun c2 μ2 H2 E R2 g => ?_, fun i H2 v H3 c2 μ2 hi E R2 g y => ?_⟩
  · obtain ⟨vs2, q, r2⟩ := st c2 μ2 H2 E R2 g
    exact ⟨vs2, q, r2.length⟩
  · obtain ⟨e, y⟩ := y
    subst e
    obtain ⟨vs2, q, r2⟩ := st c2 μ2 H3 E R2 g
    obtain ⟨x, e2, rx⟩ := r2.getV (y vs2 q)
    exact ⟨c2, x, Ext.refl c2, R2, e2, rx⟩
theorem pi_S {X : Cx} {tg l : Expr} {tl : TE} (hl : PE X l tl) : PI X tg l (fun σ H R => tl σ H fun x H1 => ∃ (a : Addr) (kd : Kd), x = .ref a ∧ (∃ xs, Sq X.K kd H1 a xs) ∧ R (ItS X.K kd a) H1) := by
  refine ⟨fun pins s σ H R I h => ?_⟩
  refine thn (hl.run pins s σ H _ I h) fun v s1 ⟨x, H1, I1, r1, q1⟩ => ?_
  obtain ⟨a, kd, e, hq, q⟩ := q1
  subst e
  -- the rules for lists and tuples, at the value that is there
  have fr : ∀ b ∈ [s1.heap.objs.size], FpOk X pins H1 b := fun b hb => by
    rw [List.mem_singleton.mp hb]
    exact I1.fpOk (Nat.le_refl _) (I1.hok.fresh (Nat.le_refl _))
  cases r1
  cases kd with
  | L =>
    obtain ⟨xs, hq⟩ := hq
    obtain ⟨its, rv, pl, hz⟩ := I1.list hq
    exact wpAny_pyIter_list pl.isList ⟨s1.heap.objs.size, [s1.heap.objs.size], _, _, H1, rfl, I1.kept (t' := s1.toks) fun b o z => Heap.get?_push_of_some _ z, turn_list a _, ⟨_, Heap.get?_push_size _ rfl, rfl, rfl⟩, fr, q⟩
  | T =>
    obtain ⟨xs, hq⟩ := hq
    obtain ⟨its, rv, pl, hz⟩ := I1.tuple hq
    exact wpAny_pyIter_tuple (show s1.heap.IsTuple a its.toArray from pl) ⟨s1.heap.objs.size, [s1.heap.objs.size], _, _, H1, rfl, I1.kept (t' := s1.toks) fun b o z => Heap.get?_push_of_some _ z, turn_tuple a _, ⟨_, Heap.get?_push_size _ rfl, rfl, rfl⟩, fr, q⟩
def iS (K : PySem.W.Frag) (tl : TE) : TI := fun σ H R => tl σ H fun x H1 => ∃ (a : Addr) (kd : Kd), x = .ref a ∧ (∃ xs, Sq K kd H1 a xs) ∧ R (ItS K kd a) H1
theorem qi_seq {X : Cx} {tg l : Expr} {tl : TE} {dl : DE} (hl : QE X l tl dl) : QI X tg l (iS X.K tl) (dIter dl) := by
  refine ⟨pi_S hl.p, fun c ρ μ σ H Q P R S h k => ?_⟩
  refine hl.s c ρ μ σ H _ _ R S h fun c1 x μ1 v H1 E1 R1 r1 q1 => ?_
  obtain ⟨xs, hx, q⟩ := q1
  obtain ⟨a, kd, e1, hz, hq, wd⟩ := walkD_S R1 r1 hx
  exact ⟨a, kd, e1, hq, k c1 xs _ μ1 _ H1 E1 R1 hz wd q⟩

/-! ### range -/
def rngD (lo : Int) (n : Nat) : List Vl := (List.range n).map fun (i : Nat) => Vl.int (lo + (i : Int))
theorem rngD_len {lo : Int} {n : Nat} : (rngD lo n).length = n := by simp [rngD]
theorem rngD_get {lo : Int} {n i : Nat} (h : i < n) : (rngD lo n)[i]? = some (.int (lo + (i : Int))) := by simp [rngD, h]
theorem walkD_range {K : PySem.W.Frag} {c : Cf} {lo : Int} {n : Nat} : WalkD K c (Itr lo n) (rngD lo n) fun _ => True := by
  refine ⟨fun _ => True, YFn fun i => .int (lo + i), ?_, fun _ _ _ _ _ _ => trivial, fun i H2 v H3 c2 μ2 hi E R2 _ y => ?_⟩
  · rw [rngD_len]; exact walk_range
  · rw [rngD_len] at hi
    obtain ⟨e, y⟩ := y
    subst e; subst y
    exact ⟨c2, _, Ext.refl c2, R2, rngD_get hi, .int _⟩
def dRange1 (d : DA) : DI := fun ρ μ Q => d ρ μ fun xs μ1 => ∃ j : Int, xs = [.int j] ∧ j ≤ 16777216 ∧ -(2 ^ 62) ≤ j ∧ Q (rngD 0 j.toNat) (fun _ => True) μ1
def dRange2 (d : DA) : DI := fun ρ μ Q => d ρ μ fun xs μ1 => ∃ i j : Int, xs = [.int i, .int j] ∧ (-(2 ^ 62) ≤ i ∧ i < 2 ^ 62 ∧ -(2 ^ 62) ≤ j ∧ j < 2 ^ 62) ∧ j - i ≤ 16777216 ∧ Q (rngD i (j - i).toNat) (fun _ => True) μ1
section
variable {X : Cx} {tg a b e : Expr} {ta : TA} {da : DA} {p pos : Pos}
theorem qi_range1 (hm : X.mg "range" = none) (ha : QA X [a] ta da) (hg : Gl X "range" := by rfl) (hs : starEach [a] X.env = [(false, eval a X.env)] := by rfl) : QI X tg (.Call (.Name "range" p) [a] [] pos) (iRng1 ta) (dRange1 da) := by
  refine ⟨pi_range1 hg hm ha.p hs, fun c ρ μ σ H Q P R S h k => ?_⟩
  refine ha.s c ρ μ σ H _ _ R S h fun c1 xs μ1 vs H1 E1 R1 r1 q1 => ?_
  obtain ⟨j, e, h1, h2, q⟩ := q1
  subst e
  obtain ⟨v, e, rv⟩ := reps1 r1
  subst e
  cases rv
  exact ⟨j, rfl, h2, by omega, k c1 _ _ μ1 _ H1 E1 R1 (by rw [rngD_len, sizeLine_eq]; omega) walkD_range q⟩
theorem qi_range2 (hm : X.mg "range" = none) (ha : QA X [a, b] ta da) (hg : Gl X "range" := by rfl) (hs : starEach [a, b] X.env = [(false, eval a X.env), (false, eval b X.env)] := by rfl) (hs2 : starEach [b] X.env = [(false, eval b X.env)] := by rfl) :
    QI X tg (.Call (.Name "range" p) [a, b] [] pos) (iRng2 ta) (dRange2 da) := by
  refine ⟨pi_range2 hg hm ha.p hs hs2, fun c ρ μ σ H Q P R S h k => ?_⟩
  refine ha.s c ρ μ σ H _ _ R S h fun c1 xs μ1 vs H1 E1 R1 r1 q1 => ?_
  obtain ⟨i, j, e, hb, h2, q⟩ := q1
  subst e
  cases r1 with
  | cons r1 r2 =>
    obtain ⟨v, e, rv⟩ := reps1 r2
    subst e
    cases rv
    cases r1
    exact ⟨i, j, rfl, hb, k c1 _ _ μ1 _ H1 E1 R1 (by rw [rngD_len, sizeLine_eq]; omega) walkD_range q⟩
end

/-! ### enumerate, zip -/
def itS (kd : Kd) (h : Heap) (it a : Addr) (i : Nat) : Prop := match kd with
  | .L => h.IsListIter it a i
  | .T => h.IsTupleIter it a i
def hpS (kd : Kd) (h : Heap) (a : Addr) (items : Array Value) : Prop := match kd with
  | .L => h.IsList a items
  | .T => h.IsTuple a items
def obS (kd : Kd) (a : Addr) : Obj := match kd with
  | .L => { cls := .type "list_iterator", data := .fields #[.ref a, .int 0 0] }
  | .T => { cls := .type "tuple_iterator", data := .fields #[.ref a, .int 0 0] }
theorem obS_it {kd : Kd} {h : Heap} {it a : Addr} (e : h.get? it = some (obS kd a)) : itS kd h it a 0 := by
  cases kd with
  | L => exact ⟨_, e, rfl, rfl⟩
  | T => exact ⟨_, e, rfl, rfl⟩
theorem itS.look {kd : Kd} {h : Heap} {it a : Addr} {i : Nat} (x : itS kd h it a i) : ∃ o, h.get? it = some o ∧ ∀ v, o.data ≠ .cell v := by
  cases kd with
  | L =>
    obtain ⟨o, e, _, d⟩ := x
    exact ⟨o, e, fun v z => by rw [d] at z; cases z⟩
  | T =>
    obtain ⟨o, e, _, d⟩ := x
    exact ⟨o, e, fun v z => by rw [d] at z; cases z⟩
theorem itS.keep {kd : Kd} {h h' : Heap} {it a : Addr} {i : Nat} (x : itS kd h it a i) (k : ∀ o, h.get? it = some o → h'.get? it = some o) : itS kd h' it a i := by
  cases kd with
  | L => exact Heap.IsListIter.at x k
  | T => exact Heap.IsTupleIter.at x k
theorem draws_S {prog : Program} {w : World} {A : Around} (hh : A.handled = none) (kd : Kd) (it l : Addr) (hne : l ≠ it) (items : Array Value) :
    Draws prog w A it [it, l] items.size (fun i v => items[i]? = some v) (fun i h => itS kd h it l i ∧ hpS kd h l items) := by
  cases kd with
  | L => exact Draws.list hh it l hne items
  | T => exact Draws.tuple hh it l hne items
theorem begins_S (kd : Kd) (a : Addr) (items : Array Value) : Begins (.ref a) (obS kd a) (fun h => hpS kd h a items) := by
  cases kd with
  | L => exact begins_list a items
  | T => exact begins_tuple a items
theorem inv_S {X : Cx} {pins : List (Addr × Obj)} {σ : L2.St} {H : Hp} {s : Shared} {kd : Kd} {a : Addr} {xs : List V} (I : L2.Inv X pins σ H s) (h : Sq X.K kd H a xs) : ∃ its : List Value, Vals xs its ∧ hpS kd s.heap a its.toArray ∧ xs.length ≤ sizeLine := by
  cases kd with
  | L =>
    obtain ⟨its, r, p, z⟩ := I.list h
    exact ⟨its, r, p.isList, z⟩
  | T =>
    obtain ⟨its, r, p, z⟩ := I.tuple h
    exact ⟨its, r, p, z⟩
theorem inj_S {X : Cx} {pins : List (Addr × Obj)} {σ : L2.St} {H : Hp} {s : Shared} {kd : Kd} {a : Addr} {xs ys : List V} (I : L2.Inv X pins σ H s) (h : Sq X.K kd H a xs) (h' : Sq X.K kd H a ys) : xs = ys := by
  cases kd with
  | L => exact I.list_inj h h'
  | T => exact I.tuple_inj h h'
theorem hpS.lt {kd : Kd} {h : Heap} {a : Addr} {its : Array Value} (x : hpS kd h a its) : a < h.objs.size := by
  cases kd with
  | L =>
    obtain ⟨o, e, _⟩ := x
    exact Heap.lt_size e
  | T =>
    obtain ⟨o, e, _⟩ := x
    exact Heap.lt_size e

namespace DL2
theorem enum_new {v : Value} {o : Obj} {G : Heap → Prop} (B : Begins v o G) :
    Meets (Builtin.«enumerate.__new__» ⟨[.type "enumerate", v], []⟩) (fun _ R s => G s.heap ∧
      R (.ok (.ret (.ref (s.heap.push o).objs.size))) { s with heap := (s.heap.push o).push { cls := .type "enumerate", data := .fields #[.none, .bool false, .ref s.heap.objs.size, rawInt 0, .none, .none] } }) :=
  .of_wp fun prog w A R s h => by
    obtain ⟨hp, g, d, tk, os⟩ := s
    obtain ⟨h1, h⟩ := h
    have hsub := sub_enumerate
    have it : ∀ {A' : Around} {E : Value → Shared → Prop} {Q : Value → Shared → Prop}, Q (.ref hp.objs.size) ⟨hp.push o, g, d, tk, os⟩ → wpAny (model prog w) A' (pyIter v) Q E ⟨hp, g, d, tk, os⟩ :=
      fun q => B.iter prog w _ _ ⟨hp, g, d, tk, os⟩ _ h1 q
    wp_walk using it
    refine wpAny_stack_any fun st => wpAny_pure ?_
    split
    · rename_i c _ _ _ _ _
      cases (c == Value.type "enumerate")
      · wp_walk using it
        exact ⟨_, rfl, h⟩
      · wp_walk using it
        exact ⟨_, rfl, h⟩
    · wp_walk using it
      exact ⟨_, rfl, h⟩
theorem call_enum {prog : Program} {w : World} {A : Around} {E : Value → Shared → Prop} {s : Shared} {v : Value} {o : Obj} {G : Heap → Prop} {Q : Value → Shared → Prop} (B : Begins v o G) (h1 : G s.heap)
    (h : ∀ h', IsEnum h' (s.heap.objs.size + 1) s.heap.objs.size 0 .none → h'.get? s.heap.objs.size = some o → (∀ b o, s.heap.get? b = some o → h'.get? b = some o) → Q (.ref (s.heap.objs.size + 1)) { s with heap := h' }) :
    wpAny (model prog w) A (call (.type "enumerate") [v]) Q E s := by
  have hz : (s.heap.push o).objs.size = s.heap.objs.size + 1 := Heap.size_push ..
  refine callType_new F.called_enumerate (by decide) (F.typeCall_enumerate_1 _) (F.newCall_enumerate_1 _) (fun obj => F.args_object_init_2 obj _) F.entry_enumerate_new (enum_new B) ⟨h1, ?_⟩
  show _ ∧ _
  rw [hz]
  have he : IsEnum ((s.heap.push o).push { cls := .type "enumerate", data := .fields #[.none, .bool false, .ref s.heap.objs.size, rawInt 0, .none, .none] }) (s.heap.objs.size + 1) s.heap.objs.size 0 .none := by
    have z := Heap.get?_push_size (s.heap.push o) (o := { cls := .type "enumerate", data := .fields #[.none, .bool false, .ref s.heap.objs.size, rawInt 0, .none, .none] }) rfl
    rw [hz] at z; exact z
  exact ⟨⟨_, he, rfl⟩, h _ he (Heap.get?_push_of_some _ (Heap.get?_push_size _ B.free)) fun b o x => Heap.get?_push_of_some _ (Heap.get?_push_of_some _ x)⟩
end DL2

/-- each item with its number, in a new pair -/
def ItE (K : PySem.W.Frag) (kd : Kd) (a : Addr) : It :=
  ⟨fun i H => ∃ xs x, Sq K kd H a xs ∧ xs[i]? = some x, fun i H v H' => ∃ T x, v = .ref T ∧ H T = none ∧ H' = upd H T (.tup [.int (i : Nat), x]) ∧ ∀ xs, Sq K kd H a xs → xs[i]? = some x, fun i H => ∃ xs, Sq K kd H a xs ∧ xs.length = i⟩
theorem turn_E {P : Program} {w : World} {K : PySem.W.Frag} {elts : List Expr} {kk : Nat} {tpos : Pos} (kd : Kd) (a e it : Addr) (hai : a ≠ it) (hae : e ≠ a) :
    Turn P w K (.Tuple elts kk tpos) (ItE K kd a) [e, it] e (fun i h => (∃ old, IsEnum h e it ((i : Nat) : Int) old) ∧ itS kd h it a i ∧ e ≠ it) where
  mem := by simp
  obj := fun i h st b hb => by
    obtain ⟨⟨old, he⟩, hi, _⟩ := st
    have e' : b = e ∨ b = it := by simpa using hb
    rcases e' with z | z
    · rw [z]; exact ⟨_, he, fun v q => nomatch q⟩
    · rw [z]; exact hi.look
  keep := fun i h h' st k => by
    obtain ⟨⟨old, he⟩, hi, hne⟩ := st
    exact ⟨⟨old, k e (by simp) _ he⟩, hi.keep fun o q => k it (by simp) o q, hne⟩
  item := by
    intro X hP hw hK hc i pins s σ H E I hf st hg
    subst hP hw hK
    obtain ⟨⟨old, he⟩, hit, hne⟩ := st
    obtain ⟨xs, x, hq, hx⟩ := hg
    obtain ⟨its, rv, pl, hz⟩ := inv_S I hq
    obtain ⟨u, hu, ru⟩ := rv.get hx
    have hel : e < s.heap.objs.size := Heap.lt_size he
    have hil : it < s.heap.objs.size := by obtain ⟨o, q, _⟩ := hit.look; exact Heap.lt_size q
    have hin : i < its.toArray.size := by
      rw [List.size_toArray]
      exact (List.getElem?_eq_some_iff.mp hu).1
    have D := draws_S (prog := X.prog) (w := X.w) (A := X.A.in1) (I.ok.hd hc) kd it a hai its.toArray
    refine wpAny_pyNext_enum_itemC D he ⟨hit, pl⟩ hin hne (by simp [hne, hae]) fun y h' tk hy ho st' hT hsz hk => ?_
    have ey : y = u := by
      have hy' : its.toArray[i]? = some y := hy
      rw [List.getElem?_toArray, hu] at hy'
      exact (Option.some.inj hy').symm
    subst ey
    refine ⟨_, rfl, wpAny_letOwnedTupleGo_enum (s := { s with heap := h', toks := tk + 1 }) ho fun h'' he' sb => ?_⟩
    have hT2 : h''.get? s.heap.objs.size = some { cls := .type "tuple", data := .seq #[.int i tk, y] } := (sb.2 _ (Nat.ne_of_gt hel)).trans hT
    have new : ObjOk X.prog X.w (upd H s.heap.objs.size (.tup [.int (i : Nat), x])) h'' s.heap.objs.size (.tup [.int (i : Nat), x]) :=
      ⟨by show 2 ≤ sizeLine; decide, [.int i tk, y], .cons ⟨_, rfl⟩ (.cons ru .nil), ⟨_, hT2, rfl, _, rfl⟩⟩
    have I1 : L2.Inv X pins σ (upd H s.heap.objs.size (.tup [.int (i : Nat), x])) { s with heap := h'', toks := tk + 1 } :=
      I.turnedNew (ch := [e, it]) (fun b ob hb q => (sb.2 b (fun z => hb (by simp [z]))).trans (hk b ob (fun z => hb (by simp [z])) (fun z => hb (by simp [z])) q)) hf (Nat.le_refl _) new
    refine ⟨.ref s.heap.objs.size, _, I1, rfl, ⟨_, x, rfl, I.hok.fresh (Nat.le_refl _), rfl, fun ys hy => by rw [inj_S I hy hq]; exact hx⟩, ⟨⟨y, ?_⟩, st'.1.keep fun o q => (sb.2 it (Ne.symm hne)).trans q, hne⟩, fun b hb => ?_⟩
    · have e1 : ((i + 1 : Nat) : Int) = (i : Int) + 1 := by omega
      rw [e1]; exact he'
    · have hb' : b < s.heap.objs.size := by
        have e' : b = e ∨ b = it := by simpa using hb
        rcases e' with z | z
        · rw [z]; exact hel
        · rw [z]; exact hil
      rw [upd_ne (Nat.ne_of_lt hb')]
      exact (hf b hb).1
  done := by
    intro X hP hw hK hc i pins s σ H E I hf st hg
    subst hP hw hK
    obtain ⟨⟨old, he⟩, hit, hne⟩ := st
    obtain ⟨xs, hq, hx⟩ := hg
    obtain ⟨its, rv, pl, hz⟩ := inv_S I hq
    obtain ⟨f0, f1, f2, f3, f4, f5⟩ := hf it (by simp)
    have hn : its.toArray.size = i := by rw [List.size_toArray, ← rv.length]; exact hx
    have D := draws_S (prog := X.prog) (w := X.w) (A := X.A.in1) (I.ok.hd hc) kd it a hai its.toArray
    exact wpAny_pyNext_enum_endD D he (by rw [hn]; exact ⟨hit, pl⟩) fun h' eb => ⟨rfl, I.turned (t' := s.toks) (fun b o hb q => eb b o hb q) f0 f1 f3 f4 f5⟩
  self := fun A i s Q E st h => let ⟨⟨_, he⟩, _⟩ := st; wpAny_pyIter_enum he h
def iEnumS (K : PySem.W.Frag) (ta : TA) : TI := fun σ H R => ta σ H fun vs H1 => ∃ (a : Addr) (kd : Kd), vs = [.ref a] ∧ (∃ xs, Sq K kd H1 a xs) ∧ R (ItE K kd a) H1
theorem pi_enumS {X : Cx} {e : Expr} {ta : TA} {p pos tpos : Pos} {elts : List Expr} {kk : Nat} (hg : Gl X "enumerate") (hm : X.mg "enumerate" = none) (ha : PA X [e] ta) (hs : starEach [e] X.env = [(false, eval e X.env)] := by rfl) :
    PI X (.Tuple elts kk tpos) (.Call (.Name "enumerate" p) [e] [] pos) (iEnumS X.K ta) := by
  refine ⟨fun pins s σ H R I h => ?_⟩
  refine Call_ (ld_blt I hg hm boot_enumerate (PyProof.Rows.callWith_type1 (thn (ha.run pos pins s σ H _ I h) fun us s1 ⟨vs, H1, I1, r1, q1⟩ => ?_) hs rfl))
  obtain ⟨a, kd, ex, ⟨xs, hq⟩, q⟩ := q1
  subst ex
  cases r1 with
  | cons r rr =>
    cases rr
    cases r
    obtain ⟨its, rv, pl, hz⟩ := inv_S I1 hq
    have ha := pl.lt
    refine DL2.call_enum (begins_S kd a its.toArray) pl fun h' he hit hk => wpAny_pyIter_enum he ?_
    have I2 : L2.Inv X pins σ H1 { s1 with heap := h' } := I1.kept (t' := s1.toks) hk
    refine ⟨s1.heap.objs.size + 1, [s1.heap.objs.size + 1, s1.heap.objs.size], _, _, H1, rfl, I2, turn_E kd a (s1.heap.objs.size + 1) s1.heap.objs.size (Nat.ne_of_lt ha) (Nat.ne_of_gt (Nat.lt_succ_of_lt ha)), ⟨⟨.none, he⟩, obS_it hit, Nat.succ_ne_self _⟩, fun b hb => ?_, q⟩
    have e' : b = s1.heap.objs.size + 1 ∨ b = s1.heap.objs.size := by simpa using hb
    have hle : s1.heap.objs.size ≤ b := by
      rcases e' with z | z
      · rw [z]; exact Nat.le_add_right _ _
      · rw [z]; exact Nat.le_refl _
    exact I1.fpOk hle (I1.hok.fresh hle)
/-- pairs of the number and the item -/
def numbered (xs : List Vl) : List Vl := xs.mapIdx fun i x => Vl.tup [.int (i : Int), x]
theorem numbered_len {xs : List Vl} : (numbered xs).length = xs.length := by simp [numbered]
theorem numbered_get {xs : List Vl} {i : Nat} {x : Vl} (h : xs[i]? = some x) : (numbered xs)[i]? = some (.tup [.int (i : Int), x]) := by simp [numbered, h]
theorem pair_still {K : PySem.W.Frag} {c : Cf} {μ : Mu} {H : Hp} {T : Addr} {v u : V} {x y : Vl} (R : RM K c μ H) (hT : H T = none) (r1 : Rep K c v x) (r2 : Rep K c u y) : ∃ c3, Ext c c3 ∧ RM K c3 μ (upd H T (.tup [v, u])) ∧ Rep K c3 (.ref T) (.tup [x, y]) := by
  obtain ⟨R1, E1⟩ := R.still (o := .tup [v, u]) hT
  refine ⟨_, E1, R1, .tup (vs := [v, u]) (.inl (.inl ?_)) (by show 2 ≤ sizeLine; decide) (.cons (r1.up E1.toExt0) (.cons (r2.up E1.toExt0) .nil))⟩
  show upd c.Hd T _ T = _
  exact upd_same
theorem walkD_E {K : PySem.W.Frag} {c : Cf} {μ : Mu} {H : Hp} {v : V} {x : Vl} {xs : List Vl} (R : RM K c μ H) (r : Rep K c v x) (h : sview μ x = some xs) : ∃ a kd, v = .ref a ∧ xs.length ≤ sizeLine ∧ (∃ vs, Sq K kd H a vs) ∧ WalkD K c (ItE K kd a) (numbered xs) (asLong xs x) := by
  obtain ⟨a, vs, kd, e1, hz, hl, st, hq⟩ := stays_at R r h
  have wk : Walk (ItE K kd a) xs.length (fun H => ∃ vs, Sq K kd H a vs ∧ vs.length = xs.length) (fun i H v H' => ∃ T x, v = .ref T ∧ H T = none ∧ H' = upd H T (.tup [.int (i : Nat), x]) ∧ ∀ xs, Sq K kd H a xs → xs[i]? = some x) := by
    refine ⟨fun i H hi g => ?_, fun H g => ?_, fun i H x H' hi g y => y⟩
    · obtain ⟨xs, q, hn⟩ := g
      exact ⟨xs, xs[i]'(by omega), q, by simp [show i < xs.length by omega]⟩
    · obtain ⟨xs, q, hn⟩ := g
      exact ⟨xs, q, hn⟩
  refine ⟨a, kd, e1, hz, ⟨vs, hq⟩, _, _, by rw [numbered_len]; exact wk, fun c2 μ2 H2 E R2 g => ?_, fun i H2 v H3 c2 μ2 hi E R2 g y => ?_⟩
  · obtain ⟨vs2, q, r2⟩ := st c2 μ2 H2 E R2 g
    exact ⟨vs2, q, r2.length⟩
  · obtain ⟨T, u, e2, hT, e3, y⟩ := y
    subst e2; subst e3
    obtain ⟨vs2, q, r2⟩ := st c2 μ2 H2 E R2 g
    obtain ⟨z, e4, rz⟩ := r2.getV (y vs2 q)
    obtain ⟨c3, E3, R3, r3⟩ := pair_still R2 hT (.int (i : Nat)) rz
    exact ⟨c3, _, E3, R3, numbered_get e4, r3⟩
def dEnum (d : DA) : DI := fun ρ μ Q => d ρ μ fun xs μ1 => ∃ x ys, xs = [x] ∧ sview μ1 x = some ys ∧ Q (numbered ys) (asLong ys x) μ1
theorem qi_enum {X : Cx} {e : Expr} {ta : TA} {da : DA} {p pos tpos : Pos} {elts : List Expr} {kk : Nat} (hm : X.mg "enumerate" = none) (ha : QA X [e] ta da) (hg : Gl X "enumerate" := by rfl) (hs : starEach [e] X.env = [(false, eval e X.env)] := by rfl) :
    QI X (.Tuple elts kk tpos) (.Call (.Name "enumerate" p) [e] [] pos) (iEnumS X.K ta) (dEnum da) := by
  refine ⟨pi_enumS hg hm ha.p hs, fun c ρ μ σ H Q P R S h k => ?_⟩
  refine ha.s c ρ μ σ H _ _ R S h fun c1 xs μ1 vs H1 E1 R1 r1 q1 => ?_
  obtain ⟨x, ys, e, hx, q⟩ := q1
  subst e
  obtain ⟨v, e, rv⟩ := reps1 r1
  subst e
  obtain ⟨a, kd, e1, hz, hq, wd⟩ := walkD_E R1 rv hx
  subst e1
  exact ⟨a, kd, rfl, hq, k c1 _ _ μ1 _ H1 E1 R1 (by rw [numbered_len]; exact hz) wd q⟩

/-! ### zip of two -/
def ItZ (K : PySem.W.Frag) (k1 k2 : Kd) (a b : Addr) : It :=
  ⟨fun i H => ∃ xs ys x y, Sq K k1 H a xs ∧ Sq K k2 H b ys ∧ xs[i]? = some x ∧ ys[i]? = some y,
    fun i H v H' => ∃ T x y, v = .ref T ∧ H T = none ∧ H' = upd H T (.tup [x, y]) ∧ (∀ xs, Sq K k1 H a xs → xs[i]? = some x) ∧ ∀ ys, Sq K k2 H b ys → ys[i]? = some y,
    fun i H => ∃ xs ys, Sq K k1 H a xs ∧ Sq K k2 H b ys ∧ i ≤ xs.length ∧ i ≤ ys.length ∧ (i = xs.length ∨ i = ys.length)⟩
theorem turn_Z {P : Program} {w : World} {K : PySem.W.Frag} {elts : List Expr} {kk : Nat} {tpos : Pos} {k1 k2 : Kd} {a b z TI TO i1 i2 : Addr} (S : ZipSep2 z TI TO i1 i2 [i1, a] [i2, b]) (ha : a ≠ i1) (hb : b ≠ i2) :
    Turn P w K (.Tuple elts kk tpos) (ItZ K k1 k2 a b) [z, TI, TO, i1, i2] z (fun i h => IsZip h z TI TO .none ∧ IsTupOf2 h TI (.ref i1) (.ref i2) ∧ (∃ x y, IsTupOf2 h TO x y) ∧ itS k1 h i1 a i ∧ itS k2 h i2 b i) where
  mem := by simp
  obj := fun i h st c hc => by
    obtain ⟨hz, hTI, ⟨x, y, hTO⟩, h1, h2⟩ := st
    have e' : c = z ∨ c = TI ∨ c = TO ∨ c = i1 ∨ c = i2 := by simpa using hc
    rcases e' with q | q | q | q | q
    · rw [q]; exact ⟨_, hz, fun v q => nomatch q⟩
    · rw [q]; exact ⟨_, hTI, fun v q => nomatch q⟩
    · rw [q]; exact ⟨_, hTO, fun v q => nomatch q⟩
    · rw [q]; exact h1.look
    · rw [q]; exact h2.look
  keep := fun i h h' st k => by
    obtain ⟨hz, hTI, ⟨x, y, hTO⟩, h1, h2⟩ := st
    exact ⟨k z (by simp) _ hz, k TI (by simp) _ hTI, ⟨x, y, k TO (by simp) _ hTO⟩, h1.keep fun o q => k i1 (by simp) o q, h2.keep fun o q => k i2 (by simp) o q⟩
  item := by
    intro X hP hw hK hc i pins s σ H E I hf st hg
    subst hP hw hK
    obtain ⟨hz, hTI, ⟨x0, y0, hTO⟩, h1, h2⟩ := st
    obtain ⟨xs, ys, x, y, hqx, hqy, hx, hy⟩ := hg
    obtain ⟨its, rv, pl, _⟩ := inv_S I hqx
    obtain ⟨its2, rv2, pl2, _⟩ := inv_S I hqy
    obtain ⟨u, hu, ru⟩ := rv.get hx
    obtain ⟨u2, hu2, ru2⟩ := rv2.get hy
    have hzl : z < s.heap.objs.size := Heap.lt_size hz
    have n1 : i < its.toArray.size := by rw [List.size_toArray]; exact (List.getElem?_eq_some_iff.mp hu).1
    have n2 : i < its2.toArray.size := by rw [List.size_toArray]; exact (List.getElem?_eq_some_iff.mp hu2).1
    have hh : X.A.in1.handled = none := I.ok.hd hc
    refine wpAny_pyNext_zipD2_item S (draws_S (prog := X.prog) (w := X.w) hh k1 i1 a ha its.toArray) (draws_S (prog := X.prog) (w := X.w) hh k2 i2 b hb its2.toArray) hz hTI hTO ⟨h1, pl⟩ ⟨h2, pl2⟩ n1 n2 fun p1 p2 h' tk e1 e2 z' TO' s1' s2' hT hsz hk => ?_
    have q1 : its.toArray[i]? = some p1 := e1
    have q2 : its2.toArray[i]? = some p2 := e2
    rw [List.getElem?_toArray, hu] at q1
    rw [List.getElem?_toArray, hu2] at q2
    have q1 := Option.some.inj q1
    have q2 := Option.some.inj q2
    subst q1; subst q2
    refine ⟨_, rfl, wpAny_letOwnedTupleGo_zip (s := { s with heap := h', toks := tk }) z' fun h'' z'' sb => ?_⟩
    have hT2 : h''.get? s.heap.objs.size = some { cls := .type "tuple", data := .seq #[u, u2] } := (sb.2 _ (Nat.ne_of_gt hzl)).trans hT
    have new : ObjOk X.prog X.w (upd H s.heap.objs.size (.tup [x, y])) h'' s.heap.objs.size (.tup [x, y]) :=
      ⟨by show 2 ≤ sizeLine; decide, [u, u2], .cons ru (.cons ru2 .nil), ⟨_, hT2, rfl, _, rfl⟩⟩
    have I1 : L2.Inv X pins σ (upd H s.heap.objs.size (.tup [x, y])) { s with heap := h'', toks := tk } :=
      I.turnedNew (ch := [z, TI, TO, i1, i2]) (fun c o hb q => (sb.2 c (fun q' => hb (by simp [q']))).trans (hk c o (fun q' => hb (by simp [q'])) (fun q' => hb (by simp [q'])) (fun q' => hb (by simp [q'])) (fun q' => hb (by simp [q'])) q)) hf (Nat.le_refl _) new
    refine ⟨.ref s.heap.objs.size, _, I1, rfl, ⟨_, x, y, rfl, I.hok.fresh (Nat.le_refl _), rfl, fun l hl => by rw [inj_S I hl hqx]; exact hx, fun l hl => by rw [inj_S I hl hqy]; exact hy⟩, ⟨z'', ?_, ⟨u, u2, ?_⟩, ?_, ?_⟩, fun c hcm => ?_⟩
    · exact (sb.2 _ S.TIz).trans (hk _ _ S.TIz S.TITO S.TIi1 S.TIi2 hTI)
    · exact (sb.2 _ S.TOz).trans TO'
    · exact s1'.1.keep fun o q => (sb.2 _ fun e => S.zf1 (by simp [← e])).trans q
    · exact s2'.1.keep fun o q => (sb.2 _ fun e => S.zf2 (by simp [← e])).trans q
    · have hlt : c < s.heap.objs.size := by
        have e' : c = z ∨ c = TI ∨ c = TO ∨ c = i1 ∨ c = i2 := by simpa using hcm
        rcases e' with q | q | q | q | q
        · rw [q]; exact hzl
        · rw [q]; exact Heap.lt_size hTI
        · rw [q]; exact Heap.lt_size hTO
        · rw [q]; obtain ⟨_, e1, _⟩ := h1.look; exact Heap.lt_size e1
        · rw [q]; obtain ⟨_, e2, _⟩ := h2.look; exact Heap.lt_size e2
      rw [upd_ne (Nat.ne_of_lt hlt)]
      exact (hf c hcm).1
  done := by
    intro X hP hw hK hc i pins s σ H E I hf st hg
    subst hP hw hK
    obtain ⟨hz, hTI, ⟨x0, y0, hTO⟩, h1, h2⟩ := st
    obtain ⟨xs, ys, hqx, hqy, l1, l2, hend⟩ := hg
    obtain ⟨its, rv, pl, _⟩ := inv_S I hqx
    obtain ⟨its2, rv2, pl2, _⟩ := inv_S I hqy
    have hh : X.A.in1.handled = none := I.ok.hd hc
    have m1 := rv.length
    have m2 := rv2.length
    refine wpAny_pyNext_zipD2_end S (draws_S (prog := X.prog) (w := X.w) hh k1 i1 a ha its.toArray) (draws_S (prog := X.prog) (w := X.w) hh k2 i2 b hb its2.toArray) hz hTI hTO ⟨h1, pl⟩ ⟨h2, pl2⟩ (by rw [List.size_toArray]; omega) (by rw [List.size_toArray]; omega) (by rw [List.size_toArray, List.size_toArray]; omega) fun h' tk hk => ?_
    exact ⟨rfl, I.turnedL (t' := tk) (ch := [z, TI, TO, i1, i2]) (fun c o hb q => hk c o (fun q' => hb (by simp [q'])) (fun q' => hb (by simp [q'])) (fun q' => hb (by simp [q'])) (fun q' => hb (by simp [q'])) q) hf⟩
  self := fun A i s Q E st h => wpAny_pyIter_zip st.1 h
def iZipS (K : PySem.W.Frag) (ta : TA) : TI := fun σ H R => ta σ H fun vs H1 => ∃ (a b : Addr) (k1 k2 : Kd), vs = [.ref a, .ref b] ∧ (∃ xs, Sq K k1 H1 a xs) ∧ (∃ ys, Sq K k2 H1 b ys) ∧ R (ItZ K k1 k2 a b) H1
theorem pi_zipS {X : Cx} {e e2 : Expr} {ta : TA} {p pos tpos : Pos} {elts : List Expr} {kk : Nat} (hg : Gl X "zip") (hm : X.mg "zip" = none) (ha : PA X [e, e2] ta)
    (hs : starEach [e, e2] X.env = (false, eval e X.env) :: starEach [e2] X.env := by rfl) (hpl : (backTo pos (starEach [e2] X.env)).any (·.1) = false := by rfl) :
    PI X (.Tuple elts kk tpos) (.Call (.Name "zip" p) [e, e2] [] pos) (iZipS X.K ta) := by
  refine ⟨fun pins s σ H R I h => ?_⟩
  refine Call_ (ld_blt I hg hm PyProof.Rows.boot_zip (PyProof.Rows.callWith_type1 (thn (ha.run pos pins s σ H _ I h) fun us s1 ⟨vs, H1, I1, r1, q1⟩ => ?_) hs hpl))
  obtain ⟨a, b, k1, k2, ex, ⟨xs, hqx⟩, ⟨ys, hqy⟩, q⟩ := q1
  subst ex
  cases r1 with
  | cons r rr =>
    cases rr with
    | cons r' rr =>
      cases rr
      cases r
      cases r'
      obtain ⟨its, rv, pl, _⟩ := inv_S I1 hqx
      obtain ⟨its2, rv2, pl2, _⟩ := inv_S I1 hqy
      have la := pl.lt
      have lb := pl2.lt
      refine zip_begins2 (begins_S k1 a its.toArray) (begins_S k2 b its2.toArray) pl pl2 fun h' hz hTI hTO h1 h2 hsz hk => wpAny_pyIter_zip hz ?_
      have I2 : L2.Inv X pins σ H1 { s1 with heap := h' } := I1.kept (t' := s1.toks) hk
      have S := zip_sep2 (N := s1.heap.objs.size) (fp1 := [a]) (fp2 := [b]) (fun c hc => by rw [List.mem_singleton.mp hc]; exact la) (fun c hc => by rw [List.mem_singleton.mp hc]; exact lb)
      refine ⟨s1.heap.objs.size + 4, [s1.heap.objs.size + 4, s1.heap.objs.size + 2, s1.heap.objs.size + 3, s1.heap.objs.size, s1.heap.objs.size + 1], _, _, H1, rfl, I2, turn_Z S (Nat.ne_of_lt la) (Nat.ne_of_lt (Nat.lt_succ_of_lt lb)), ⟨hz, hTI, ⟨_, _, hTO⟩, obS_it h1, obS_it h2⟩, fun c hcm => ?_, q⟩
      have e' : c = s1.heap.objs.size + 4 ∨ c = s1.heap.objs.size + 2 ∨ c = s1.heap.objs.size + 3 ∨ c = s1.heap.objs.size ∨ c = s1.heap.objs.size + 1 := by simpa using hcm
      have hle : s1.heap.objs.size ≤ c := by
        rcases e' with z | z | z | z | z
        · rw [z]; exact Nat.le_add_right _ _
        · rw [z]; exact Nat.le_add_right _ _
        · rw [z]; exact Nat.le_add_right _ _
        · rw [z]; exact Nat.le_refl _
        · rw [z]; exact Nat.le_add_right _ _
      exact I1.fpOk hle (I1.hok.fresh hle)
def pairD (p : Vl × Vl) : Vl := .tup [p.1, p.2]
def zipD (xs ys : List Vl) : List Vl := (xs.zip ys).map pairD
theorem zipD_len {xs ys : List Vl} : (zipD xs ys).length = min xs.length ys.length := by simp [zipD]
theorem zipD_get {xs ys : List Vl} {i : Nat} {x y : Vl} (h1 : xs[i]? = some x) (h2 : ys[i]? = some y) : (zipD xs ys)[i]? = some (.tup [x, y]) := by
  unfold zipD
  have e : (xs.zip ys)[i]? = some (x, y) := List.getElem?_zip_eq_some.mpr ⟨h1, h2⟩
  rw [List.getElem?_map, e]
  rfl
theorem walkD_Z {K : PySem.W.Frag} {c : Cf} {μ : Mu} {H : Hp} {v v' : V} {x x' : Vl} {xs ys : List Vl} (R : RM K c μ H) (r : Rep K c v x) (h : sview μ x = some xs) (r' : Rep K c v' x') (h' : sview μ x' = some ys) :
    ∃ a b k1 k2, v = .ref a ∧ v' = .ref b ∧ xs.length ≤ sizeLine ∧ (∃ vs, Sq K k1 H a vs) ∧ (∃ vs, Sq K k2 H b vs) ∧ WalkD K c (ItZ K k1 k2 a b) (zipD xs ys) (fun μ => asLong xs x μ ∧ asLong ys x' μ) := by
  obtain ⟨a, vs, k1, e1, hz, hl, st, hq⟩ := stays_at R r h
  obtain ⟨b, ws, k2, e2, hz', hl', st', hq'⟩ := stays_at R r' h'
  have wk : Walk (ItZ K k1 k2 a b) (min xs.length ys.length) (fun H => ∃ vs ws, Sq K k1 H a vs ∧ Sq K k2 H b ws ∧ vs.length = xs.length ∧ ws.length = ys.length)
      (fun i H v H' => ∃ T x y, v = .ref T ∧ H T = none ∧ H' = upd H T (.tup [x, y]) ∧ (∀ xs, Sq K k1 H a xs → xs[i]? = some x) ∧ ∀ ys, Sq K k2 H b ys → ys[i]? = some y) := by
    refine ⟨fun i H hi g => ?_, fun H g => ?_, fun i H x H' hi g y => y⟩
    · obtain ⟨vs, ws, q1, q2, n1, n2⟩ := g
      exact ⟨vs, ws, vs[i]'(by omega), ws[i]'(by omega), q1, q2, by simp [show i < vs.length by omega], by simp [show i < ws.length by omega]⟩
    · obtain ⟨vs, ws, q1, q2, n1, n2⟩ := g
      exact ⟨vs, ws, q1, q2, by omega, by omega, by omega⟩
  refine ⟨a, b, k1, k2, e1, e2, hz, ⟨vs, hq⟩, ⟨ws, hq'⟩, _, _, by rw [zipD_len]; exact wk, fun c2 μ2 H2 E R2 g => ?_, fun i H2 v H3 c2 μ2 hi E R2 g y => ?_⟩
  · obtain ⟨vs2, q, r2⟩ := st c2 μ2 H2 E R2 g.1
    obtain ⟨ws2, q', r2'⟩ := st' c2 μ2 H2 E R2 g.2
    exact ⟨vs2, ws2, q, q', r2.length, r2'.length⟩
  · obtain ⟨T, u, u', e2, hT, e3, y, y'⟩ := y
    subst e2; subst e3
    obtain ⟨vs2, q, r2⟩ := st c2 μ2 H2 E R2 g.1
    obtain ⟨ws2, q', r2'⟩ := st' c2 μ2 H2 E R2 g.2
    obtain ⟨z, e4, rz⟩ := r2.getV (y vs2 q)
    obtain ⟨z', e4', rz'⟩ := r2'.getV (y' ws2 q')
    obtain ⟨c3, E3, R3, r3⟩ := pair_still R2 hT rz rz'
    exact ⟨c3, _, E3, R3, zipD_get e4 e4', r3⟩
def dZip (d : DA) : DI := fun ρ μ Q => d ρ μ fun xs μ1 => ∃ x x' ys zs, xs = [x, x'] ∧ sview μ1 x = some ys ∧ sview μ1 x' = some zs ∧ Q (zipD ys zs) (fun μ => asLong ys x μ ∧ asLong zs x' μ) μ1
theorem qi_zip {X : Cx} {e e2 : Expr} {ta : TA} {da : DA} {p pos tpos : Pos} {elts : List Expr} {kk : Nat} (hm : X.mg "zip" = none) (ha : QA X [e, e2] ta da) (hg : Gl X "zip" := by rfl)
    (hs : starEach [e, e2] X.env = (false, eval e X.env) :: starEach [e2] X.env := by rfl) (hpl : (backTo pos (starEach [e2] X.env)).any (·.1) = false := by rfl) :
    QI X (.Tuple elts kk tpos) (.Call (.Name "zip" p) [e, e2] [] pos) (iZipS X.K ta) (dZip da) := by
  refine ⟨pi_zipS hg hm ha.p hs hpl, fun c ρ μ σ H Q P R S h k => ?_⟩
  refine ha.s c ρ μ σ H _ _ R S h fun c1 xs μ1 vs H1 E1 R1 r1 q1 => ?_
  obtain ⟨x, x', ys, zs, e, hx, hx', q⟩ := q1
  subst e
  cases r1 with
  | cons r1 r2 =>
    obtain ⟨v, e, rv⟩ := reps1 r2
    subst e
    obtain ⟨a, b, k1, k2, e1, e2, hz, hq, hq', wd⟩ := walkD_Z R1 r1 hx rv hx'
    subst e1; subst e2
    exact ⟨a, b, k1, k2, rfl, hq, hq', k c1 _ _ μ1 _ H1 E1 R1 (by rw [zipD_len]; omega) wd q⟩
end DL

/-! DLd: comprehensions, statements, loops, defs. -/
namespace DL
open PySem L2 StX PyProof.Rows

section
variable {X : Cx} {e a b o : Expr} {es : List Expr} {te ta tb to : TE} {de da db do_ : DE} {pos : Pos} {t : TA} {d : DA} {p : Pos} {tt : TT} {dt : DT}

/-! ### targets -/
def dgName (i : Nat) : DG := fun x ρ μ Q => Q (ρ.set i (some x)) μ
def dgNil : DGs := fun xs ρ μ Q => xs = [] ∧ Q ρ μ
def dgCons (g : DG) (u : DGs) : DGs := fun xs ρ μ Q => match xs with
  | x :: r => g x ρ μ fun ρ' μ' => u r ρ' μ' Q
  | [] => False
def dgTup (n : Nat) (u : DGs) : DG := fun x ρ μ Q => match x with
  | .tup xs => xs.length = n ∧ u xs ρ μ Q
  | _ => False
theorem qg_name {i : Nat} {x : Str} (hN : X.N.Nodup) (hi : X.N[i]? = some x := by rfl) (hx : Loc X.env.scope x := by first | exact Or.inl rfl | exact Or.inr rfl) (hf : X.fn x = true ∨ X.env.scope.names.lookup x = some .local := by first | exact .inl rfl | exact .inr rfl) : QG X (.Name x pos) (gName i) (dgName i) :=
  ⟨pg_name hN hi hx hf, fun c ρ μ σ H v x Q P R S r h k => k c _ μ _ H (Ext.refl c) R (S.set i r) h⟩
theorem qgs_nil : QGs X [] gNil dgNil := by
  refine ⟨pgs_nil, fun c ρ μ σ H vs xs Q P R S r h k => ?_⟩
  obtain ⟨e, h⟩ := h
  subst e
  cases r
  exact ⟨rfl, k c ρ μ σ H (Ext.refl c) R S h⟩
theorem qgs_cons {tg : TG} {tgs : TGs} {dg : DG} {dgs : DGs} (h1 : QG X e tg dg) (h2 : QGs X es tgs dgs) (hs : (assignEach (e :: es) X.env).map (·.2) = assign e X.env :: (assignEach es X.env).map (·.2) := by rfl) : QGs X (e :: es) (gCons tg tgs) (dgCons dg dgs) := by
  refine ⟨pgs_cons h1.p h2.p hs, fun c ρ μ σ H vs xs Q P R S r h k => ?_⟩
  unfold dgCons at h
  split at h
  · cases r with
    | cons r1 r2 =>
      refine ⟨_, _, rfl, h1.s c ρ μ σ H _ _ _ _ R S r1 h fun c1 ρ1 μ1 σ1 H1 E1 R1 S1 q1 => ?_⟩
      exact h2.s c1 ρ1 μ1 σ1 H1 _ _ Q P R1 S1 (r2.up E1.toExt0) q1 fun c2 ρ2 μ2 σ2 H2 E2 => k c2 ρ2 μ2 σ2 H2 (E1.trans E2)
  · exact h.elim
theorem qg_tup {kk n : Nat} {tgs : TGs} {dgs : DGs} (hc : X.calm = true) (h : QGs X es tgs dgs) (hn : (assignEach es X.env).length = n := by rfl) (hst : (assignEach es X.env).findIdx? (·.1) = none := by rfl) : QG X (.Tuple es kk pos) (gTup X.K n tgs) (dgTup n dgs) := by
  refine ⟨pg_tup hc h.p hn hst, fun c ρ μ σ H v x Q P R S r hw k => ?_⟩
  unfold dgTup at hw
  split at hw
  · obtain ⟨a, vs, e1, t1, z1, r1⟩ := tup_at R r
    exact ⟨a, vs, e1, t1, by rw [r1.length]; exact hw.1, h.s c ρ μ σ H _ _ Q P R S r1 hw.2 k⟩
  · exact hw.elim
/-- o[i] = .. of a list that may change -/
def dgIx (do_ di : DE) : DG := fun x ρ μ Q => do_ ρ μ fun y μ1 => di ρ μ1 fun i μ2 => ∃ (k : Nat) (n : Int) (xs : List Vl) (j : Nat), y = .ref k ∧ i = .int n ∧ μ2[k]? = some (.lst xs) ∧ ixN xs.length n = some j ∧ Q ρ (μ2.set k (.lst (xs.set j x)))
theorem qg_ix {i : Expr} {ti : TE} {di : DE} (ho : QE X o to do_) (hi : QE X i ti di) (ha : ∀ v, assign (.Subscript o i pos) X.env v = (do
      let ov ← holding [v] (eval o X.env)
      let iv ← holding [v, ov] (eval i X.env)
      standAt pos
      holding [v, ov, iv] (setItem ov iv v)
      release [v, ov, iv] []) := by intro _; rfl) : QG X (.Subscript o i pos) (gSub to ti rSetL) (dgIx do_ di) := by
  refine ⟨pg_sub ho.p hi.p set_list ha, fun c ρ μ σ H v x Q P R S r h k => ?_⟩
  refine ho.s c ρ μ σ H _ _ R S h fun c1 y μ1 v1 H1 E1 R1 r1 q1 => ?_
  refine hi.s c1 ρ μ1 σ H1 _ _ R1 (S.up E1.toExt0) q1 fun c2 z μ2 v2 H2 E2 R2 r2 q2 => ?_
  obtain ⟨j, n, xs, m, e1, e2, hm, hj, q⟩ := q2
  subst e1; subst e2
  cases r2
  obtain ⟨ad, e3, hk, ws, e4, hz4, r4⟩ := ref_at R2 (r1.up E2.toExt0) hm
  subst e3
  have rx := r.up (E1.trans E2).toExt0
  refine ⟨ad, ws, n, m, rfl, rfl, e4, by rw [r4.length]; exact hj, ?_⟩
  exact k c2 ρ _ σ _ (E1.trans E2) (R2.write (m := .lst (xs.set m x)) hk ⟨_, rfl, by rw [List.length_set]; exact hz4, r4.set rx m⟩) (S.up (E1.trans E2).toExt0) q

/-! ### statements -/
variable {st : Stmt} {rest sts : List Stmt} {ts us : TS} {ds du : DS}
def dNext : DS := fun d ρ μ => d.nx ρ μ
def dSeq (x y : DS) : DS := fun d ρ μ => x { d with nx := fun ρ' μ' => y d ρ' μ' } ρ μ
theorem qss_nil : QSs X [] tNext dNext := ⟨pss_nil, fun c ρ μ σ H D d R S k h => k.nx c ρ μ σ H (Ext.refl c) R S h⟩
theorem qss_cons (h1 : QS X st ts ds) (h2 : QSs X rest us du) : QSs X (st :: rest) (tSeq ts us) (dSeq ds du) := by
  refine ⟨pss_cons h1.p h2.p, fun c ρ μ σ H D d R S k h => ?_⟩
  refine h1.s c ρ μ σ H _ _ R S ?_ h
  exact ⟨fun c' ρ' μ' σ' H' E R' S' q => h2.s c' ρ' μ' σ' H' D d R' S' (k.up E) q, k.rt, k.bk, k.ct⟩
theorem qss_one (h1 : QS X st ts ds) : QSs X [st] ts ds := ⟨pss_one h1.p, h1.s⟩
def dBreak : DS := fun d ρ μ => d.bk ρ μ
def dCont : DS := fun d ρ μ => d.ct ρ μ
theorem qs_pass : QS X (.Pass pos) tNext dNext := ⟨ps_pass, fun c ρ μ σ H D d R S k h => k.nx c ρ μ σ H (Ext.refl c) R S h⟩
theorem qs_break : QS X (.Break pos) tBreak dBreak := ⟨ps_break, fun c ρ μ σ H D d R S k h => k.bk c ρ μ σ H (Ext.refl c) R S h⟩
theorem qs_continue : QS X (.Continue pos) tCont dCont := ⟨ps_continue, fun c ρ μ σ H D d R S k h => k.ct c ρ μ σ H (Ext.refl c) R S h⟩
def dDrop (de : DE) : DS := fun d ρ μ => de ρ μ fun _ μ1 => d.nx ρ μ1
theorem qs_expr (he : QE X e te de) (hs : swapsWith e none pos.line X.env = pure false := by rfl) : QS X (.Expr e pos) (tDrop te) (dDrop de) := by
  refine ⟨ps_expr he.p hs, fun c ρ μ σ H D d R S k h => ?_⟩
  exact he.s c ρ μ σ H _ _ R S h fun c1 x μ1 v H1 E1 R1 r1 q1 => k.nx c1 ρ μ1 σ H1 E1 R1 (S.up E1.toExt0) q1
def dRet (de : DE) : DS := fun d ρ μ => de ρ μ d.rt
theorem qs_ret (he : QE X e te de) : QS X (.Return (some e) pos) (tRet te) (dRet de) := by
  refine ⟨ps_ret he.p, fun c ρ μ σ H D d R S k h => ?_⟩
  exact he.s c ρ μ σ H _ _ R S h fun c1 x μ1 v H1 E1 R1 r1 q1 => k.rt c1 x μ1 v H1 E1 R1 r1 q1
def dRetN : DS := fun d _ μ => d.rt .non μ
theorem qs_retN : QS X (.Return none pos) tRetN dRetN := ⟨ps_retN, fun c ρ μ σ H D d R S k h => k.rt c .non μ .non H (Ext.refl c) R .non h⟩
def dIf (dt : DT) (x y : DS) : DS := fun d ρ μ => dt ρ μ fun b μ1 => match b with
  | true => x d ρ μ1
  | false => y d ρ μ1
theorem qs_if {c : Expr} {x y : List Stmt} (hc : QT X c tt dt) (ha : QSs X x ts ds) (hb : QSs X y us du) : QS X (.If c x y pos) (tIfS tt ts us) (dIf dt ds du) := by
  refine ⟨ps_if hc.p ha.p hb.p, fun c ρ μ σ H D d R S k h => ?_⟩
  refine hc.s c ρ μ σ H _ _ R S h fun c1 z μ1 H1 E1 R1 q1 => ?_
  cases z with
  | true =>
    rw [if_pos rfl]
    exact ha.s c1 ρ μ1 σ H1 D d R1 (S.up E1.toExt0) (k.up E1) q1
  | false =>
    rw [if_neg Bool.false_ne_true]
    exact hb.s c1 ρ μ1 σ H1 D d R1 (S.up E1.toExt0) (k.up E1) q1
def dAsg (de : DE) (g : DG) : DS := fun d ρ μ => de ρ μ fun x μ1 => g x ρ μ1 d.nx
theorem sim_asg {K : PySem.W.Frag} {tg : TG} {dg : DG} (he : SimE K te de) (hg : SimG K tg dg) : SimS K (tAsg te tg) (dAsg de dg) := by
  intro c ρ μ σ H D d R S k h
  refine he c ρ μ σ H _ _ R S h fun c1 x μ1 v H1 E1 R1 r1 q1 => ?_
  exact hg c1 ρ μ1 σ H1 v x _ _ R1 (S.up E1.toExt0) r1 q1 fun c2 ρ2 μ2 σ2 H2 E2 R2 S2 q2 => k.nx c2 ρ2 μ2 σ2 H2 (E1.trans E2) R2 S2 q2
theorem qs_asg {tgt : Expr} {tg : TG} {dg : DG} (he : QE X e te de) (hg : QG X tgt tg dg) (hs : swapsWithSole [tgt] e pos.line X.env = pure false := by rfl) (hw : swappedStores [tgt] e X.env = pure none := by rfl) (h1 : (assignEach [tgt] X.env).map (·.2) = [assign tgt X.env] := by rfl) :
    QS X (.Assign [tgt] e pos) (tAsg te tg) (dAsg de dg) := ⟨ps_asg he.p hg.p hs hw h1, sim_asg he.s hg.s⟩
theorem qs_set (i : Nat) {x : Str} {pos' : Pos} (hN : X.N.Nodup) (he : QE X e te de) (hi : X.N[i]? = some x := by rfl) (hx : Loc X.env.scope x := by first | exact Or.inl rfl | exact Or.inr rfl) (hs : swapsWith e (some (.Name x pos')) pos.line X.env = pure false := by rfl)
    (hf : X.fn x = true ∨ X.env.scope.names.lookup x = some .local := by first | exact .inl rfl | exact .inr rfl) : QS X (.Assign [.Name x pos'] e pos) (tAsg te (gName i)) (dAsg de (dgName i)) :=
  ⟨ps_set hN hi hx he.p hs hf, sim_asg he.s (qg_name (X := X) (pos := pos) hN hi hx hf).s⟩
/-- a, b = x, y with plain local names -/
def dPar (i j : Nat) (d : DA) : DS := fun D ρ μ => d ρ μ fun xs μ1 => match xs with
  | [x, y] => D.nx ((ρ.set i (some x)).set j (some y)) μ1
  | _ => False
theorem qs_par (i j : Nat) {x y : Str} {px py pt : Pos} {kt k2 pt2} (hc : X.calm = true) (hN : X.N.Nodup) (ha : QA X [a, b] t d) (hi : X.N[i]? = some x := by rfl) (hj : X.N[j]? = some y := by rfl) (hij : i ≠ j := by decide)
    (hx : X.env.scope.names.lookup x = some .local := by rfl) (hy : X.env.scope.names.lookup y = some .local := by rfl) (hw : swappedStores [.Tuple [.Name x px, .Name y py] kt pt] (.Tuple [a, b] k2 pt2) X.env = pure (some [x, y]) := by rfl)
    (hs : swapsWithSole [.Tuple [.Name x px, .Name y py] kt pt] (.Tuple [a, b] k2 pt2) pos.line X.env = pure false := by rfl) : QS X (.Assign [.Tuple [.Name x px, .Name y py] kt pt] (.Tuple [a, b] k2 pt2) pos) (tPar i j t) (dPar i j d) := by
  refine ⟨ps_par hc hN hi hj hij hx hy ha.p hw hs, fun c ρ μ σ H D d R S k h => ?_⟩
  refine ha.s c ρ μ σ H _ _ R S h fun c1 xs μ1 vs H1 E1 R1 r1 q1 => ?_
  split at q1
  · cases r1 with
    | cons r1 r2 =>
      obtain ⟨v, e, r3⟩ := reps1 r2
      subst e
      exact ⟨_, _, rfl, k.nx c1 _ μ1 _ H1 E1 R1 (((S.up E1.toExt0).set i r1).set j r3) q1⟩
  · exact q1.elim

/-! ### loops -/
def forD (G : Mu → Prop) (g : DG) (body : DS) (d : DEnds) : List Vl → Rho → Mu → Prop
  | [], ρ, μ => G μ ∧ d.nx ρ μ
  | x :: r, ρ, μ => G μ ∧ g x ρ μ fun ρ2 μ2 => body { d with nx := forD G g body d r, ct := forD G g body d r, bk := d.nx } ρ2 μ2
def dFor (di : DI) (g : DG) (body : DS) : DS := fun d ρ μ => di ρ μ fun xs G μ1 => forD G g body d xs ρ μ1
theorem qs_for {tgt iter : Expr} {wi : TI} {di : DI} {tg : TG} {dg : DG} (hp : PassesOwn (model X.prog X.w) X.A X.env X.xe) (hc : X.calm = true) (hi : QI X tgt iter wi di) (hg : QG X tgt tg dg) (hb : QSs X sts ts ds)
    (hs : ∀ x, foldedSetIterable iter X.env x = pure x := by intro _; rfl) : QS X (.For tgt iter sts [] pos) (tFor wi tg ts) (dFor di dg ds) := by
  refine ⟨ps_for hp hc hi.p hg.p hb.p hs, fun c ρ μ σ H D d R S k h => ?_⟩
  refine hi.s c ρ μ σ H _ _ R S h fun c1 xs G μ1 J H1 E1 R1 hz wd q1 => ?_
  obtain ⟨Gh, Y, wk, hG, hY⟩ := wd
  have here : ∀ (i : Nat), (fun (σ : L2.St) (H : Hp) => ∃ c2 ρ2 μ2, Ext c1 c2 ∧ RM X.K c2 μ2 H ∧ RS X.K c2 ρ2 σ ∧ forD G dg ds d (xs.drop i) ρ2 μ2) = fun (σ : L2.St) (H : Hp) => ∃ c2 ρ2 μ2, Ext c1 c2 ∧ RM X.K c2 μ2 H ∧ RS X.K c2 ρ2 σ ∧ forD G dg ds d (xs.drop i) ρ2 μ2 := fun _ => rfl
  refine for_it wk (fun i σ H => ∃ c2 ρ2 μ2, Ext c1 c2 ∧ RM X.K c2 μ2 H ∧ RS X.K c2 ρ2 σ ∧ forD G dg ds d (xs.drop i) ρ2 μ2) ⟨c1, ρ, μ1, Ext.refl c1, R1, S.up E1.toExt0, q1⟩ (fun i σ H hi pv => ?_) (fun i v σ H H' hi pv y => ?_) fun σ H pv => ?_
  · obtain ⟨c2, ρ2, μ2, E2, R2, S2, q2⟩ := pv
    refine hG c2 μ2 H E2.toExt0 R2 ?_
    cases hx : xs.drop i with
    | nil => rw [hx] at q2; exact q2.1
    | cons z r => rw [hx] at q2; exact q2.1
  · obtain ⟨c2, ρ2, μ2, E2, R2, S2, q2⟩ := pv
    rw [List.drop_eq_getElem_cons hi] at q2
    obtain ⟨g, q2⟩ := q2
    obtain ⟨c3, x, E3, R3, e3, r3⟩ := hY i H v H' c2 μ2 hi E2.toExt0 R2 g y
    rw [List.getElem?_eq_getElem hi] at e3
    have e3 := Option.some.inj e3
    subst e3
    refine hg.s c3 ρ2 μ2 σ H' v _ _ _ R3 (S2.up E3.toExt0) r3 q2 fun c4 ρ4 μ4 σ4 H4 E4 R4 S4 q4 => ?_
    have E14 := (E2.trans E3).trans E4
    refine hb.s c4 ρ4 μ4 σ4 H4 _ _ R4 S4 ?_ q4
    refine ⟨fun c5 ρ5 μ5 σ5 H5 E5 R5 S5 q5 => ⟨c5, ρ5, μ5, E14.trans E5, R5, S5, q5⟩, fun c5 x5 μ5 v5 H5 E5 R5 r5 q5 => k.rt c5 x5 μ5 v5 H5 ((E1.trans E14).trans E5) R5 r5 q5, fun c5 ρ5 μ5 σ5 H5 E5 R5 S5 q5 => k.nx c5 ρ5 μ5 σ5 H5 ((E1.trans E14).trans E5) R5 S5 q5, fun c5 ρ5 μ5 σ5 H5 E5 R5 S5 q5 => ⟨c5, ρ5, μ5, E14.trans E5, R5, S5, q5⟩⟩
  · obtain ⟨c2, ρ2, μ2, E2, R2, S2, q2⟩ := pv
    rw [List.drop_length] at q2
    exact k.nx c2 ρ2 μ2 σ H (E1.trans E2) R2 S2 q2.2
def dWhile (dt : DT) (body : DS) : DS := fun d ρ μ => ∃ W : Nat → Rho → Mu → Prop, (∃ m, W m ρ μ) ∧ ∀ m ρ μ, W m ρ μ → dt ρ μ fun b μ1 => match b with
  | true => body { d with nx := fun ρ' μ' => ∃ m', m' < m ∧ W m' ρ' μ', ct := fun ρ' μ' => ∃ m', m' < m ∧ W m' ρ' μ', bk := d.nx } ρ μ1
  | false => d.nx ρ μ1
theorem qs_while {c : Expr} (hp : PassesOwn (model X.prog X.w) X.A X.env X.xe) (hc : QT X c tt dt) (hb : QSs X sts ts ds) : QS X (.While c sts [] pos) (tWhile tt ts) (dWhile dt ds) := by
  refine ⟨ps_while hp hc.p hb.p, fun c ρ μ σ H D d R S k h => ?_⟩
  obtain ⟨W, ⟨m0, w0⟩, turn⟩ := h
  refine ⟨fun m σ H => ∃ c2 ρ2 μ2, Ext c c2 ∧ RM X.K c2 μ2 H ∧ RS X.K c2 ρ2 σ ∧ W m ρ2 μ2, ⟨m0, c, ρ, μ, Ext.refl c, R, S, w0⟩, fun m σ1 H1 pv => ?_⟩
  obtain ⟨c2, ρ2, μ2, E2, R2, S2, w2⟩ := pv
  refine hc.s c2 ρ2 μ2 σ1 H1 _ _ R2 S2 (turn m ρ2 μ2 w2) fun c3 z μ3 H3 E3 R3 q3 => ?_
  have E13 := E2.trans E3
  cases z with
  | true =>
    rw [if_pos rfl]
    refine ⟨fun σ H => ∃ m', m' < m ∧ ∃ c2 ρ2 μ2, Ext c c2 ∧ RM X.K c2 μ2 H ∧ RS X.K c2 ρ2 σ ∧ W m' ρ2 μ2, fun σ' H' n => n, ?_⟩
    refine hb.s c3 ρ2 μ3 σ1 H3 _ _ R3 (S2.up E3.toExt0) ?_ q3
    exact ⟨fun c5 ρ5 μ5 σ5 H5 E5 R5 S5 ⟨m', hm, q5⟩ => ⟨m', hm, c5, ρ5, μ5, E13.trans E5, R5, S5, q5⟩, fun c5 x5 μ5 v5 H5 E5 R5 r5 q5 => k.rt c5 x5 μ5 v5 H5 (E13.trans E5) R5 r5 q5,
      fun c5 ρ5 μ5 σ5 H5 E5 R5 S5 q5 => k.nx c5 ρ5 μ5 σ5 H5 (E13.trans E5) R5 S5 q5, fun c5 ρ5 μ5 σ5 H5 E5 R5 S5 ⟨m', hm, q5⟩ => ⟨m', hm, c5, ρ5, μ5, E13.trans E5, R5, S5, q5⟩⟩
  | false =>
    rw [if_neg Bool.false_ne_true]
    exact k.nx c3 ρ2 μ3 σ1 H3 E13 R3 (S2.up E3.toExt0) q3

/-! ### comprehensions -/
def wipeD (ρ : Rho) : List Nat → Rho
  | [] => ρ
  | v :: vs => (wipeD ρ vs).set v none
theorem RS.none {K : PySem.W.Frag} {c : Cf} {ρ : Rho} {σ : L2.St} (h : RS K c ρ σ) (i : Nat) : RS K c (ρ.set i none) (σ.set i none) := by
  refine ⟨by rw [List.length_set, List.length_set]; exact h.len, fun j y e => ?_⟩
  by_cases hj : i = j
  · subst hj
    by_cases hl : i < ρ.length
    · rw [List.getElem?_set_self hl] at e
      cases e
    · rw [List.getElem?_eq_none (by rw [List.length_set]; omega)] at e
      cases e
  · rw [List.getElem?_set_ne hj] at e
    rw [List.getElem?_set_ne hj]
    exact h.get j y e
theorem RS.wipe {K : PySem.W.Frag} {c : Cf} {ρ : Rho} {σ : L2.St} (h : RS K c ρ σ) : ∀ vs : List Nat, RS K c (wipeD ρ vs) (L2.wipe σ vs)
  | [] => h
  | v :: vs => (RS.wipe h vs).none v
/-- the items made of those that are left; what ends with acc -/
def lcD (G : Mu → Prop) (g : DG) (dt : DT) (de : DE) (ρ : Rho) (Q : List Vl → Mu → Prop) : List Vl → List Vl → Mu → Prop
  | [], acc, μ => G μ ∧ Q acc μ
  | x :: r, acc, μ => G μ ∧ g x ρ μ fun ρ2 μ2 => dt ρ2 μ2 fun b μ3 => match b with
    | true => de ρ2 μ3 fun y μ4 => lcD G g dt de ρ Q r (acc ++ [y]) μ4
    | false => lcD G g dt de ρ Q r acc μ3
def dLc (di : DI) (g : DG) (dt : DT) (de : DE) (vs : List Nat) : DE := fun ρ μ Q => di ρ μ fun xs G μ1 => lcD G g dt de (wipeD ρ vs) (fun acc μ2 => newL acc μ2 Q) xs [] μ1
/-- a target changes the slots at vs alone -/
def InSlots (tg : TG) (vs : List Nat) : Prop := ∀ (v : V) (σ : L2.St) (H : Hp) (P P' : L2.St → Hp → Prop), (∀ σ2 H2, L2.wipe σ2 vs = L2.wipe σ vs → P σ2 H2 → P' σ2 H2) → tg v σ H P → tg v σ H P'
def InSlotss (tg : TGs) (vs : List Nat) : Prop := ∀ (ws : List V) (σ : L2.St) (H : Hp) (P P' : L2.St → Hp → Prop), (∀ σ2 H2, L2.wipe σ2 vs = L2.wipe σ vs → P σ2 H2 → P' σ2 H2) → tg ws σ H P → tg ws σ H P'
theorem wipe_get (σ : L2.St) (k : Nat) : ∀ vs : List Nat, (L2.wipe σ vs)[k]? = if k ∈ vs then (σ[k]?).map (fun _ => none) else σ[k]?
  | [] => by simp [L2.wipe]
  | v :: vs => by
    unfold L2.wipe
    have ih := wipe_get σ k vs
    have hl := wipe_length σ vs
    by_cases hv : v = k
    · subst hv
      rw [if_pos List.mem_cons_self]
      by_cases hk : v < σ.length
      · rw [List.getElem?_set_self (by rw [hl]; exact hk), List.getElem?_eq_getElem hk]
        rfl
      · rw [List.getElem?_eq_none (by rw [List.length_set, hl]; omega), List.getElem?_eq_none (by omega)]
        rfl
    · rw [List.getElem?_set_ne hv, ih]
      by_cases hm : k ∈ vs
      · rw [if_pos hm, if_pos (List.mem_cons_of_mem _ hm)]
      · rw [if_neg hm, if_neg (by simp only [List.mem_cons, not_or]; exact ⟨fun e => hv e.symm, hm⟩)]
theorem wipe_set {σ : L2.St} {i : Nat} {x : Option V} {vs : List Nat} (h : i ∈ vs) : L2.wipe (σ.set i x) vs = L2.wipe σ vs := by
  apply List.ext_getElem?
  intro k
  rw [wipe_get, wipe_get]
  by_cases hk : k ∈ vs
  · rw [if_pos hk, if_pos hk]
    by_cases hi : i = k
    · subst hi
      by_cases hl : i < σ.length
      · rw [List.getElem?_set_self hl, List.getElem?_eq_getElem hl]; rfl
      · rw [List.getElem?_eq_none (by rw [List.length_set]; omega), List.getElem?_eq_none (by omega)]
    · rw [List.getElem?_set_ne hi]
  · rw [if_neg hk, if_neg hk, List.getElem?_set_ne (fun (e : i = k) => hk (by rw [← e]; exact h))]
theorem wipe_wipe {σ : L2.St} {vs : List Nat} : L2.wipe (L2.wipe σ vs) vs = L2.wipe σ vs := by
  apply List.ext_getElem?
  intro k
  rw [wipe_get, wipe_get]
  by_cases hk : k ∈ vs
  · rw [if_pos hk, if_pos hk]
    cases σ[k]? <;> rfl
  · rw [if_neg hk, if_neg hk]
theorem is_name {i : Nat} {vs : List Nat} (h : i ∈ vs) : InSlots (gName i) vs := fun _ _ _ _ _ k q => k _ _ (wipe_set h) q
theorem is_nil {vs : List Nat} : InSlotss gNil vs := fun _ _ _ _ _ k q => ⟨q.1, k _ _ rfl q.2⟩
theorem is_cons {tg : TG} {tgs : TGs} {vs : List Nat} (h1 : InSlots tg vs) (h2 : InSlotss tgs vs) : InSlotss (gCons tg tgs) vs := fun ws σ H P P' k q => by
  obtain ⟨v, r, e, q⟩ := q
  refine ⟨v, r, e, h1 v σ H _ _ (fun σ1 H1 e1 q1 => ?_) q⟩
  exact h2 r σ1 H1 P P' (fun σ2 H2 e2 q2 => k σ2 H2 (e2.trans e1) q2) q1
theorem is_tup {K : PySem.W.Frag} {n : Nat} {tgs : TGs} {vs : List Nat} (h : InSlotss tgs vs) : InSlots (gTup K n tgs) vs := fun v σ H P P' k q => by
  obtain ⟨a, xs, e1, e2, e3, q⟩ := q
  exact ⟨a, xs, e1, e2, e3, h xs σ H P P' k q⟩
def dYes : DT := fun _ μ Q => Q true μ
theorem qts_nil : QTs X [] tYes dYes := ⟨pts_nil, fun c ρ μ σ H Q P R S h k => k c true μ H (Ext.refl c) R h⟩
theorem qts_one (h : QT X e tt dt) : QTs X [e] tt dt := ⟨pts_one h.p, h.s⟩
theorem sim_lc {K : PySem.W.Frag} {wi : TI} {di : DI} {tg : TG} {dg : DG} {vs : List Nat} (hi : SimI K wi di) (hg : SimG K tg dg) (hw : InSlots tg vs) (ht : SimT K tt dt) (he : SimE K te de) : SimE K (tLc wi tg tt te vs) (dLc di dg dt de vs) := by
  intro c ρ μ σ H Q P R S h k
  refine hi c ρ μ σ H _ _ R S h fun c1 xs G μ1 J H1 E1 R1 hz wd q1 => ?_
  obtain ⟨Gh, Y, wk, hG, hY⟩ := wd
  intro D hD
  have hF : c1.Fr D = none := R1.fsb.free hD
  have Sw : RS K c1 (wipeD ρ vs) (L2.wipe σ vs) := (S.up E1.toExt0).wipe vs
  refine lc_it wk (fun i H => ∃ c2 μ2 acc ws, Ext0 c1 c2 ∧ c2.Fr = upd c1.Fr D (.lst ws) ∧ RM K c2 μ2 H ∧ Reps K c2 ws acc ∧ acc.length ≤ i ∧ lcD G dg dt de (wipeD ρ vs) (fun acc μ2 => newL acc μ2 Q) (xs.drop i) acc μ2) ⟨⟨c1.al, c1.Hd, upd c1.Fr D (.lst [])⟩, μ1, [], [], ⟨fun _ _ z => z, Same.refl _⟩, rfl, R1.aside hD, .nil, Nat.le_refl _, q1⟩ (fun i H2 hi pv => ?_) (fun i v H2 H3 hi pv y => ?_) fun H2 pv => ?_
  · obtain ⟨c2, μ2, acc, ws, E2, f2, R2, r2, l2, q2⟩ := pv
    refine hG c2 μ2 H2 E2 R2 ?_
    cases hx : xs.drop i with
    | nil => rw [hx] at q2; exact q2.1
    | cons z r => rw [hx] at q2; exact q2.1
  · obtain ⟨c2, μ2, acc, ws, E2, f2, R2, r2, l2, q2⟩ := pv
    rw [List.drop_eq_getElem_cons hi] at q2
    obtain ⟨g, q2⟩ := q2
    obtain ⟨c3, x, E3, R3, e3, r3⟩ := hY i H2 v H3 c2 μ2 hi E2 R2 g y
    rw [List.getElem?_eq_getElem hi] at e3
    have e3 := Option.some.inj e3
    subst e3
    refine hw v (L2.wipe σ vs) H3 (fun σ2 H2 => tt σ2 H2 fun b H3 => if b = true then te σ2 H3 fun y H4 => ∃ acc, H4 D = some (.lst acc) ∧ acc.length < sizeLine ∧ _ else _) _ (fun σ4 H4 e4 q4 => ⟨e4.trans wipe_wipe, q4⟩) ?_
    refine hg c3 (wipeD ρ vs) μ2 (L2.wipe σ vs) H3 v _ _ _ R3 ((Sw.up E2).up E3.toExt0) r3 q2 fun c4 ρ4 μ4 σ4 H4 E4 R4 S4 q4 => ?_
    refine ht c4 ρ4 μ4 σ4 H4 _ _ R4 S4 q4 fun c5 b μ5 H5 E5 R5 q5 => ?_
    have E25 := (E3.trans E4).trans E5
    cases b with
    | true =>
      rw [if_pos rfl]
      refine he c5 ρ4 μ5 σ4 H5 _ _ R5 (S4.up E5.toExt0) q5 fun c6 z μ6 u H6 E6 R6 r6 q6 => ?_
      have E26 := E25.trans E6
      have f6 : c6.Fr = upd c1.Fr D (.lst ws) := E26.fr.trans f2
      have hD6 : c6.Fr D = some (.lst ws) := by rw [f6]; exact upd_same
      have la : acc.length = ws.length := r2.length.symm
      refine ⟨ws, R6.fsb _ _ hD6, by omega, ⟨c6.al, c6.Hd, upd c6.Fr D (.lst (ws ++ [u]))⟩, μ6, acc ++ [z], ws ++ [u], ?_, ?_, R6.asideW hD6, ?_, ?_, q6⟩
      · exact ⟨(E2.trans E26.toExt0).al, (E2.trans E26.toExt0).hd⟩
      · show upd c6.Fr D _ = _
        rw [f6, upd_upd]
      · have E0 : Ext0 c6 ⟨c6.al, c6.Hd, upd c6.Fr D (.lst (ws ++ [u]))⟩ := ⟨fun _ _ z => z, Same.refl _⟩
        exact ((r2.up E26.toExt0).append (.one r6)).up E0
      · rw [List.length_append]
        show acc.length + 1 ≤ i + 1
        omega
    | false =>
      rw [if_neg Bool.false_ne_true]
      exact ⟨c5, μ5, acc, ws, E2.trans E25.toExt0, E25.fr.trans f2, R5, r2.up E25.toExt0, by omega, q5⟩
  · obtain ⟨c2, μ2, acc, ws, E2, f2, R2, r2, l2, q2⟩ := pv
    rw [List.drop_length] at q2
    obtain ⟨g, q2⟩ := q2
    have hD2 : c2.Fr D = some (.lst ws) := by rw [f2]; exact upd_same
    have hF2 : ∀ b u, c1.Fr b = some u → c2.Fr b = some u := fun b u e => by
      rw [f2, upd_ne (ne_of_none e hF)]; exact e
    have lacc : acc.length ≤ sizeLine := by omega
    rcases q2 with q2 | q2
    · obtain ⟨R9, E9⟩ := R2.asideStill hD2 hF hF2
      refine k _ _ _ _ _ ⟨(E1.toExt0.trans E2).trans E9, E1.fr⟩ R9 (.lst ?_ lacc (r2.up E9)) q2
      show upd c2.Hd D _ D = _
      exact upd_same
    · have E9 : Ext0 c2 ⟨c2.al ++ [D], c2.Hd, c1.Fr⟩ := ⟨fun k a h => by
        show (c2.al ++ [D])[k]? = some a
        rw [List.getElem?_append_left (List.getElem?_eq_some_iff.mp h).1]; exact h, Same.refl _⟩
      obtain ⟨R9, _⟩ := R2.asideFresh (m := .lst acc) hD2 hF hF2 ⟨ws, rfl, lacc, r2.up E9⟩
      refine k _ _ _ _ _ ⟨(E1.toExt0.trans E2).trans E9, E1.fr⟩ R9 (.ref ?_) q2
      show (c2.al ++ [D])[μ2.length]? = some D
      rw [← R2.len]; simp
/-- the readings that data have by themselves -/
def canE (K : PySem.W.Frag) (de : DE) : TE := fun σ H P => ∃ c ρ μ Q, RM K c μ H ∧ RS K c ρ σ ∧ de ρ μ Q ∧ ∀ c' x μ' v H', Ext c c' → RM K c' μ' H' → Rep K c' v x → Q x μ' → P v H'
def canT (K : PySem.W.Frag) (dt : DT) : TT := fun σ H P => ∃ c ρ μ Q, RM K c μ H ∧ RS K c ρ σ ∧ dt ρ μ Q ∧ ∀ c' b μ' H', Ext c c' → RM K c' μ' H' → Q b μ' → P b H'
def canG (K : PySem.W.Frag) (dg : DG) (vs : List Nat) : TG := fun v σ H P => ∃ c ρ μ x Q, RM K c μ H ∧ RS K c ρ σ ∧ Rep K c v x ∧ dg x ρ μ Q ∧ ∀ c' ρ' μ' σ' H', L2.wipe σ' vs = L2.wipe σ vs → Ext c c' → RM K c' μ' H' → RS K c' ρ' σ' → Q ρ' μ' → P σ' H'
theorem can_e {K : PySem.W.Frag} : SimE K (canE K de) de := fun c ρ μ σ H Q P R S h k => ⟨c, ρ, μ, Q, R, S, h, k⟩
theorem can_t {K : PySem.W.Frag} : SimT K (canT K dt) dt := fun c ρ μ σ H Q P R S h k => ⟨c, ρ, μ, Q, R, S, h, k⟩
theorem can_g {K : PySem.W.Frag} {dg : DG} {vs : List Nat} : SimG K (canG K dg vs) dg := fun c ρ μ σ H v x Q P R S r h k => ⟨c, ρ, μ, x, Q, R, S, r, h, fun c' ρ' μ' σ' H' _ => k c' ρ' μ' σ' H'⟩
theorem can_is {K : PySem.W.Frag} {dg : DG} {vs : List Nat} : InSlots (canG K dg vs) vs := fun v σ H P P' k ⟨c, ρ, μ, x, Q, R, S, r, h, q⟩ => ⟨c, ρ, μ, x, Q, R, S, r, h, fun c' ρ' μ' σ' H' e E' R' S' z => k σ' H' e (q c' ρ' μ' σ' H' e E' R' S' z)⟩
theorem pe_can (h : ∃ te, QE X e te de) : PE X e (canE X.K de) := by
  obtain ⟨te, h⟩ := h
  exact ⟨fun pins s σ H P I ⟨c, ρ, μ, Q, R, S, q, k⟩ => h.p.run pins s σ H P I (h.s c ρ μ σ H Q P R S q k)⟩
theorem pts_can {ifs : List Expr} (h : ∃ tt, QTs X ifs tt dt) : PTs X ifs (canT X.K dt) := by
  obtain ⟨tt, h⟩ := h
  exact ⟨fun pins s σ H P I ⟨c, ρ, μ, Q, R, S, q, k⟩ => h.p.run pins s σ H P I (h.s c ρ μ σ H Q P R S q k)⟩
theorem pg_can {tgt : Expr} {dg : DG} {vs : List Nat} (h : ∃ tg, QG X tgt tg dg ∧ InSlots tg vs) : PG X tgt (canG X.K dg vs) := by
  obtain ⟨tg, h, hw⟩ := h
  refine ⟨fun pins s σ H v u P I rv ⟨c, ρ, μ, x, Q, R, S, r, q, k⟩ => h.p.run pins s σ H v u P I rv ?_⟩
  exact hw v σ H (fun σ' H' => ∃ c' ρ' μ', Ext c c' ∧ RM X.K c' μ' H' ∧ RS X.K c' ρ' σ' ∧ Q ρ' μ') P (fun σ2 H2 e2 ⟨c', ρ', μ', E', R', S', q'⟩ => k c' ρ' μ' σ2 H2 e2 E' R' S' q') (h.s c ρ μ σ H v x Q _ R S r q fun c' ρ' μ' σ' H' E' R' S' q' => ⟨c', ρ', μ', E', R', S', q'⟩)
variable {elt tgt iter : Expr} {ifs : List Expr} {scope : Scope} {own : List (Str × Nat)} {wi : TI} {di : DI} {dg : DG}
theorem q_lc (own : List (Str × Nat)) (hc : X.calm = true) (hN : X.N.Nodup) (hi : QI X tgt iter wi di) (ok : BlkOk X.N X.env.scope scope own)
    (hg : ∀ (s : Shared) (H : Hp) (C : Addr) (cl : List (Str × Addr)) (fp : List Addr), ∃ tg, QG (X.blk s H scope (compEnvC scope cl C X.env) fp) tgt tg dg ∧ InSlots tg (own.map (·.2)))
    (ht : ∀ (s : Shared) (H : Hp) (C : Addr) (cl : List (Str × Addr)) (fp : List Addr), ∃ tt, QTs (X.blk s H scope (compEnvC scope cl C X.env) fp) ifs tt dt)
    (he : ∀ (s : Shared) (H : Hp) (C : Addr) (cl : List (Str × Addr)) (fp : List Addr), ∃ te, QE (X.blk s H scope (compEnvC scope cl C X.env) fp) elt te de) (hs : ∀ x, foldedSetIterable iter X.env x = pure x := by intro _; rfl) :
    QE X (.ListComp elt [⟨tgt, iter, ifs, 0⟩] scope pos) (tLc wi (canG X.K dg (own.map (·.2))) (canT X.K dt) (canE X.K de) (own.map (·.2))) (dLc di dg dt de (own.map (·.2))) :=
  ⟨pe_lc hc hN hi.p ok (fun s H C cl fp => pg_can (hg s H C cl fp)) (fun s H C cl fp => pts_can (ht s H C cl fp)) (fun s H C cl fp => pe_can (he s H C cl fp)) hs, sim_lc hi.s can_g can_is can_t can_e⟩
theorem qs_setLc (i : Nat) {y : Str} {py spos : Pos} (own : List (Str × Nat)) (hc : X.calm = true) (hN : X.N.Nodup) (hi : QI X tgt iter wi di) (ok : BlkOk X.N X.env.scope scope own)
    (hg : ∀ (s : Shared) (H : Hp) (C : Addr) (cl : List (Str × Addr)) (fp : List Addr), ∃ tg, QG (X.blk s H scope (compEnvC scope cl C X.env) fp) tgt tg dg ∧ InSlots tg (own.map (·.2)))
    (ht : ∀ (s : Shared) (H : Hp) (C : Addr) (cl : List (Str × Addr)) (fp : List Addr), ∃ tt, QTs (X.blk s H scope (compEnvC scope cl C X.env) fp) ifs tt dt)
    (he : ∀ (s : Shared) (H : Hp) (C : Addr) (cl : List (Str × Addr)) (fp : List Addr), ∃ te, QE (X.blk s H scope (compEnvC scope cl C X.env) fp) elt te de) (hy : X.N[i]? = some y := by rfl) (hyl : X.env.scope.names.lookup y = some .local := by rfl)
    (hsw : swapsWith (.ListComp elt [⟨tgt, iter, ifs, 0⟩] scope pos) (some (.Name y py)) spos.line X.env = pure true := by exact sw_true rfl rfl rfl (by decide +kernel)) (hs : ∀ x, foldedSetIterable iter X.env x = pure x := by intro _; rfl) :
    QS X (.Assign [.Name y py] (.ListComp elt [⟨tgt, iter, ifs, 0⟩] scope pos) spos) (tAsg (tLc wi (canG X.K dg (own.map (·.2))) (canT X.K dt) (canE X.K de) (own.map (·.2))) (gName i)) (dAsg (dLc di dg dt de (own.map (·.2))) (dgName i)) := by
  refine ⟨ps_setLc hc hN hy hyl hsw hi.p ok (fun s H C cl fp => pg_can (hg s H C cl fp)) (fun s H C cl fp => pts_can (ht s H C cl fp)) (fun s H C cl fp => pe_can (he s H C cl fp)) hs, sim_asg (sim_lc hi.s can_g can_is can_t can_e) ?_⟩
  exact fun c ρ μ σ H v x Q P R S r h k => k c _ μ _ H (Ext.refl c) R (S.set i r) h
def dNotV (da : DE) : DE := fun ρ μ Q => da ρ μ fun x μ1 => match x with
  | .bl b => Q (.bl (!b)) μ1
  | _ => False
theorem q_not (ha : QE X a ta da) : QE X (.UnaryOp .Not a pos) (tNotV ta) (dNotV da) := by
  refine ⟨pe_not ha.p, fun c ρ μ σ H Q P R S h k => ?_⟩
  refine ha.s c ρ μ σ H _ _ R S h fun c1 x μ1 v H1 E1 R1 r1 q1 => ?_
  split at q1
  · cases r1
    exact ⟨_, rfl, k c1 _ μ1 _ H1 E1 R1 (.bl _) q1⟩
  · exact q1.elim
abbrev dFdiv : D2 := dI (fun _ j => j ≠ 0 ∧ j.natAbs.log2 < 9000) fun i j => .int (i.fdiv j)
abbrev dMod : D2 := dI (fun _ j => j ≠ 0) fun i j => .int (i.fmod j)
abbrev dPow : D2 := dI CPow fun i j => .int (i ^ j.toNat)
end
end DL

/-! DLe: defs and their calls; the law's end. -/
namespace DL
open PySem PySem.Spec L2 StX PyProof.Rows

/-- a def's contract over data: arguments, objects, what is wanted -/
abbrev Ct := List Vl → Mu → DK → Prop
def spOf (K : PySem.W.Frag) (C : Ct) (vs : List V) (H : Hp) (Q : VK) : Prop := ∃ c xs μ Q0, RM K c μ H ∧ Reps K c vs xs ∧ C xs μ Q0 ∧ ∀ c' x μ' v H', Ext c c' → RM K c' μ' H' → Rep K c' v x → Q0 x μ' → Q v H'
/-- where a call stands -/
structure Amb (P : Program) (A : Around) (base : Heap) : Prop where
  guards : A.guards = some []
  seer : base.NoSeer
  tree : P.given.tree = none
structure FnG (P : Program) (w : World) (K : PySem.W.Frag) (mg : Str → Option Value) (base : Heap) (k : Nat) (f : Addr) (fd : FuncData) (ps : List Str) (C : Ct) : Prop where
  len : ∀ xs μ Q, C xs μ Q → xs.length = ps.length
  run : ∀ (A : Around) (outer : List Env) (s : Shared) (H : Hp) (args : Args) (us : List Value) (vs : List V) (Q : VK), Amb P A base → Room k A → Env0 P w K mg base A outer s H → BindsTo s fd args (ps.zip us) → Vals vs us → spOf K C vs H Q →
    codeAny (model P w) A (.call (.ref f) args) (CR CX0 outer P w H s Q E0) s
theorem FnG.mono {P : Program} {w : World} {K : PySem.W.Frag} {mg : Str → Option Value} {base : Heap} {j k : Nat} {f : Addr} {fd : FuncData} {ps : List Str} {C : Ct} (F : FnG P w K mg base j f fd ps C) (h : j ≤ k) : FnG P w K mg base k f fd ps C :=
  ⟨F.len, fun A outer s H args us vs Q a hr => F.run A outer s H args us vs Q a (hr.mono h)⟩
theorem FnG.imp {P : Program} {w : World} {K : PySem.W.Frag} {mg : Str → Option Value} {base : Heap} {k : Nat} {f : Addr} {fd : FuncData} {ps : List Str} {C C' : Ct} (F : FnG P w K mg base k f fd ps C) (h : ∀ xs μ Q, C' xs μ Q → C xs μ Q) : FnG P w K mg base k f fd ps C' :=
  ⟨fun xs μ Q q => F.len xs μ Q (h _ _ _ q), fun A outer s H args us vs Q a hr e0 hb hv hs => F.run A outer s H args us vs Q a hr e0 hb hv (let ⟨c, xs, μ, Q0, r1, r2, r3, r4⟩ := hs; ⟨c, xs, μ, Q0, r1, r2, h _ _ _ r3, r4⟩)⟩
/-- where a body stands -/
structure AmbX (P : Program) (A : Around) (base : Heap) : Prop extends Amb P A base where
  frames : ∃ env l, A.frames = some (env :: l) ∧ env.scope.isGenerator = false ∧ env.scope.isCoroutine = false ∧ env.builtins = builtinsNs ∧ env.globals = mainGlobals

/-! ### a def of the text -/
def startD (N : List Str) (xs : List Vl) : Rho := xs.map some ++ List.replicate (N.length - xs.length) none
theorem start_rs {K : PySem.W.Frag} {c : Cf} {N : List Str} {vs : List V} {xs : List Vl} (r : Reps K c vs xs) : RS K c (startD N xs) (start N vs) := by
  have hl := r.length
  refine ⟨by simp [startD, L2.start, hl], fun i x e => ?_⟩
  unfold startD at e
  unfold L2.start
  by_cases hi : i < xs.length
  · rw [List.getElem?_append_left (by simpa using hi), List.getElem?_map] at e
    rw [List.getElem?_append_left (by rw [List.length_map, hl]; exact hi), List.getElem?_map]
    have e1 : xs[i]? = some x := by
      cases q : xs[i]? with
      | none => rw [q] at e; cases e
      | some y =>
        rw [q] at e
        have e' : y = x := by simpa using e
        rw [e']
    obtain ⟨v, e2, rv⟩ := r.get e1
    exact ⟨v, by rw [e2]; rfl, rv⟩
  · rw [List.getElem?_append_right (by simpa using hi)] at e
    simp [List.getElem?_replicate] at e
section
variable {P : Program} {w : World} {K : PySem.W.Frag} {mg : Str → Option Value} {base : Heap}
theorem Fun.okGen {x qual : Str} {st : Stmt} {f : Addr} {fd : FuncData} {N ps : List Str} {k : Nat} {C : Ct} {ds : DS} (F : Fun K x qual st f fd) (S : FnScope N ps (defScope st)) (len : ∀ xs μ Q, C xs μ Q → xs.length = ps.length)
    (hbody : ∀ (cdv : Value) (A : Around) (outer : List Env) (s : Shared) (H : Hp), Room k (A.deeper (envOfC qual (defScope st) s.heap.objs.size f cdv)) → AmbX P (A.deeper (envOfC qual (defScope st) s.heap.objs.size f cdv)) base →
      ∃ ts : TS, QSs (cxOf CX0 P w K mg base N qual (defScope st) f cdv A outer s H E0).nox (defBody st) ts ds)
    (hC : ∀ xs μ Q, C xs μ Q → ∃ d : DEnds, (∀ (c c' : Cf) (μ' : Mu) (v : V) (x : Vl) (H H' : Hp) (U : VK), RM K c μ H → Ext c c' → RM K c' μ' H' → Rep K c' v x → (∀ c' x μ' v H', Ext c c' → RM K c' μ' H' → Rep K c' v x → Q x μ' → U v H') → d.rt x μ' → U v H') ∧ (∀ ρ μ', d.nx ρ μ' → d.rt .non μ') ∧ (∀ ρ μ', ¬ d.bk ρ μ') ∧ (∀ ρ μ', ¬ d.ct ρ μ') ∧ ds d (startD N xs) μ) : FnG P w K mg base (k + 1) f fd ps C := by
  obtain ⟨oc, od, kV, doc, pm, an, cdv, ct, osl, e9, lk, hcd⟩ := F.ex
  subst e9
  refine ⟨len, fun A outer s H args us vs Q am hr e0 hb r hsp => ?_⟩
  obtain ⟨c, xs, μ, Q0, R, rs, hc, hQ⟩ := hsp
  have hl : vs.length = ps.length := rs.length.trans (len _ _ _ hc)
  have KX : K.In s.heap := e0.mod.kin.keeps fun b o e => (e0.bs b o e).1
  have lim : s.heap.NoLimit := e0.mod.nolimit.keeps fun b o e => (e0.bs b o e).1
  have hkind : ∀ y ∈ ps.zip us, (defScope st).names.lookup y.1 = some .local ∨ ((defScope st).names.lookup y.1 = some .cell ∧ ((cellsFrom (s.heap.objs.size + 1) (defScope st).names []).lookup y.1).isSome = true) := fun ⟨n, v⟩ hy => by
    rcases S.par n (List.of_mem_zip hy).1 with q | q
    · exact .inl q
    · exact .inr ⟨q, PySem.W.cellsFrom_some _ _ _ (.inl q)⟩
  refine codeAny_call_function hr.depth (KX _ _ lk) rfl S.co S.gen rfl (PySem.W.codeRec_of KX hcd) (hb _ _ _ _ ?_)
  refine wpAny_newFunctionEnv_cells S.kind hkind fun env he s1 x => ?_
  subst he
  refine ⟨lim.keeps x.toInCall.keep, codeAny_func ?_⟩
  have amx : AmbX P (A.deeper (envOfC qual (defScope st) s.heap.objs.size f cdv)) base := ⟨⟨am.guards, am.seer, am.tree⟩, _, _, Around.frames_deeper e0.frames, S.gen, S.co, rfl, rfl⟩
  obtain ⟨ts, B⟩ := hbody cdv A outer s H (hr.deeper _) amx
  have I : L2.Inv (cxOf CX0 P w K mg base N qual (defScope st) f cdv A outer s H E0) [] (start N vs) H s1 := inv_start S hr.hd e0 hl r x
  have fin : ∀ (H' : Hp) (s' : Shared) (σ' : L2.St) (v : V) (u : Value), L2.Inv (cxOf CX0 P w K mg base N qual (defScope st) f cdv A outer s H E0).nox [] σ' H' s' → RelV v u → Q v H' → CE outer P w H s Q u s' :=
    fun H' s' σ' v u J rv q => ⟨v, H', J.os, J.bare, J.base, J.hok, rv, q⟩
  obtain ⟨d, k1, k2, k3, k4, hd⟩ := hC xs μ Q0 hc
  have go := B.s c (startD N xs) μ (start N vs) H { nx := fun _ H' => Q .non H', rt := Q } d R (start_rs rs)
    ⟨fun c' ρ μ' σ H' E R' S' q => k1 c c' μ' .non .non H H' Q R E R' .non hQ (k2 ρ μ' q), fun c' x μ' v H' E R' r' q => k1 c c' μ' v x H H' Q R E R' r' hQ q, fun c' ρ μ' σ H' E R' S' q => (k3 ρ μ' q).elim, fun c' ρ μ' σ H' E R' S' q => (k4 ρ μ' q).elim⟩ hd
  refine wpAny_mono (B.p.run [] s1 (start N vs) H _ (I.wish _) go) (fun fl s' hs => ?_) fun e s' hs => hs.elim
  cases fl with
  | ret u =>
    obtain ⟨v, σ', H', J, rv, q⟩ := hs
    exact fin H' s' σ' v u J rv q
  | next =>
    obtain ⟨σ', H', J, q⟩ := hs
    exact fin H' s' σ' V.non Value.none J rfl q
  | brk =>
    obtain ⟨_, _, _, q⟩ := hs
    exact q.elim
  | cont =>
    obtain ⟨_, _, _, q⟩ := hs
    exact q.elim
end

/-! ### what a def leaves behind that nobody names any more -/
mutual
/-- all changing objects that are named have numbers below n -/
def rfb (n : Nat) : Vl → Bool
  | .tup xs => rfbs n xs
  | .lst xs => rfbs n xs
  | .frl xs => rfbs n xs
  | .ref k => decide (k < n)
  | _ => true
def rfbs (n : Nat) : List Vl → Bool
  | [] => true
  | x :: xs => rfb n x && rfbs n xs
end
mutual
theorem rfb_of {K : PySem.W.Frag} {c : Cf} : ∀ (x : Vl) (v : V), Rep K c v x → rfb c.al.length x = true
  | .tup xs, _, h => by
    cases h with
    | tup h1 hz h2 => rw [rfb]; exact rfbs_of xs _ h2
  | .lst xs, _, h => by
    cases h with
    | lst h1 hz h2 => rw [rfb]; exact rfbs_of xs _ h2
  | .frl xs, _, h => by
    cases h with
    | frl h1 hz h2 => rw [rfb]; exact rfbs_of xs _ h2
  | .ref k, _, h => by
    cases h with
    | ref h1 => rw [rfb]; exact decide_eq_true (List.getElem?_eq_some_iff.mp h1).1
  | .non, _, _ => by rw [rfb] <;> simp
  | .bl _, _, _ => by rw [rfb] <;> simp
  | .int _, _, _ => by rw [rfb] <;> simp
  | .str _, _, _ => by rw [rfb] <;> simp
  | .op _, _, _ => by rw [rfb] <;> simp
theorem rfbs_of {K : PySem.W.Frag} {c : Cf} : ∀ (xs : List Vl) (vs : List V), Reps K c vs xs → rfbs c.al.length xs = true
  | [], _, _ => by rw [rfbs]
  | x :: xs, _, h => by
    cases h with
    | cons h1 h2 => rw [rfbs, rfb_of x _ h1, rfbs_of xs _ h2]; rfl
end
/-- the first n changing objects alone -/
abbrev cutC (c : Cf) (n : Nat) : Cf := ⟨c.al.take n, c.Hd, c.Fr⟩
mutual
theorem rep_cut {K : PySem.W.Frag} {c : Cf} {n : Nat} : ∀ (x : Vl) (v : V), Rep K c v x → rfb n x = true → Rep K (cutC c n) v x
  | .tup xs, _, h, b => by
    cases h with
    | tup h1 hz h2 => rw [rfb] at b; exact .tup h1 hz (reps_cut xs _ h2 b)
  | .lst xs, _, h, b => by
    cases h with
    | lst h1 hz h2 => rw [rfb] at b; exact .lst h1 hz (reps_cut xs _ h2 b)
  | .frl xs, _, h, b => by
    cases h with
    | frl h1 hz h2 => rw [rfb] at b; exact .frl h1 hz (reps_cut xs _ h2 b)
  | .ref k, _, h, b => by
    cases h with
    | ref h1 =>
      rw [rfb] at b
      have hk : k < n := of_decide_eq_true b
      refine .ref ?_
      show (c.al.take n)[k]? = _
      rw [List.getElem?_take_of_lt hk]; exact h1
  | .non, _, h, _ => by cases h; exact .non
  | .bl b, _, h, _ => by cases h; exact .bl b
  | .int i, _, h, _ => by cases h; exact .int i
  | .str s, _, h, _ => by cases h; exact .str s
  | .op v, _, h, _ => by cases h; exact .op v
theorem reps_cut {K : PySem.W.Frag} {c : Cf} {n : Nat} : ∀ (xs : List Vl) (vs : List V), Reps K c vs xs → rfbs n xs = true → Reps K (cutC c n) vs xs
  | [], _, h, _ => by cases h; exact .nil
  | x :: xs, _, h, b => by
    cases h with
    | cons h1 h2 =>
      rw [rfbs, Bool.and_eq_true] at b
      exact .cons (rep_cut x _ h1 b.1) (reps_cut xs _ h2 b.2)
end
def rfbF (n : Nat) {κ : Type} : List (κ × Vl) → Bool
  | [] => true
  | (_, x) :: xs => rfb n x && rfbF n xs
theorem rfbF_of {K : PySem.W.Frag} {c : Cf} {κ : Type} : ∀ (xs : List (κ × Vl)) (vs : List (κ × V)), RepF K c vs xs → rfbF c.al.length xs = true
  | [], _, _ => rfl
  | (_, x) :: xs, _, h => by
    cases h with
    | cons h1 h2 => rw [rfbF, rfb_of x _ h1, rfbF_of xs _ h2]; rfl
theorem repF_cut {K : PySem.W.Frag} {c : Cf} {n : Nat} {κ : Type} : ∀ (xs : List (κ × Vl)) (vs : List (κ × V)), RepF K c vs xs → rfbF n xs = true → RepF K (cutC c n) vs xs
  | [], _, h, _ => by cases h; exact .nil
  | (_, x) :: xs, _, h, b => by
    cases h with
    | cons h1 h2 =>
      rw [rfbF, Bool.and_eq_true] at b
      exact .cons (rep_cut x _ h1 b.1) (repF_cut xs _ h2 b.2)
def rfbM (n : Nat) : Mo → Bool
  | .dead => true
  | .lst xs => rfbs n xs
  | .dict kvs => rfbF n kvs
  | .ins _ fs => rfbF n fs
  | .fdict _ _ kvs => rfbF n kvs
theorem rfbM_of {K : PySem.W.Frag} {c : Cf} {h : Option HO} : ∀ {m : Mo}, ObR K c h m → rfbM c.al.length m = true
  | .dead, _ => rfl
  | .lst xs, x => let ⟨vs, _, _, r⟩ := x; rfbs_of xs vs r
  | .dict kvs, x => let ⟨vs, _, r⟩ := x; rfbF_of kvs vs r
  | .ins _ fs, x => let ⟨_, vs, _, r⟩ := x; rfbF_of fs vs r
  | .fdict _ vs kvs, x => rfbF_of kvs vs x.2
theorem obR_cut {K : PySem.W.Frag} {c : Cf} {h : Option HO} {n : Nat} : ∀ {m : Mo}, ObR K c h m → rfbM n m = true → ObR K (cutC c n) h m
  | .dead, x, _ => x
  | .lst xs, x, b => let ⟨vs, e, z, r⟩ := x; ⟨vs, e, z, reps_cut xs vs r b⟩
  | .dict kvs, x, b => let ⟨vs, e, r⟩ := x; ⟨vs, e, repF_cut kvs vs r b⟩
  | .ins _ fs, x, b => let ⟨dx, vs, e, r⟩ := x; ⟨dx, vs, e, repF_cut fs vs r b⟩
  | .fdict _ vs kvs, x, b => ⟨x.1, repF_cut kvs vs x.2 b⟩
theorem RM.cut {K : PySem.W.Frag} {c c' : Cf} {μ ex : Mu} {H H' : Hp} (R : RM K c μ H) (R' : RM K c' (μ ++ ex) H') (E : Ext c c') : RM K (cutC c' μ.length) μ H' ∧ Ext c (cutC c' μ.length) := by
  have hl := R'.len
  rw [List.length_append] at hl
  have tk : ∀ (k : Nat) (a : Addr), (c'.al.take μ.length)[k]? = some a → k < μ.length ∧ c'.al[k]? = some a := fun k a h => by
    have hk : k < (c'.al.take μ.length).length := (List.getElem?_eq_some_iff.mp h).1
    rw [List.length_take] at hk
    have hk2 : k < μ.length := by omega
    rw [List.getElem?_take_of_lt hk2] at h
    exact ⟨hk2, h⟩
  refine ⟨⟨R'.sub, by show (c'.al.take μ.length).length = _; rw [List.length_take]; omega, R'.nod.sublist (List.take_sublist _ _), fun k a m h1 h2 => ?_, R'.fsb, fun a o h => ?_⟩, ⟨⟨fun k a h => ?_, E.hd⟩, E.fr⟩⟩
  · obtain ⟨hk, h1⟩ := tk k a h1
    obtain ⟨q1, q2⟩ := R'.obj k a m h1 (by rw [List.getElem?_append_left hk]; exact h2)
    refine ⟨q1, obR_cut q2 ?_⟩
    have hk' : k < c.al.length := by rw [R.len]; exact hk
    obtain ⟨_, q3⟩ := R.obj k c.al[k] m (by simp [hk']) h2
    have q4 := rfbM_of q3
    rw [R.len] at q4
    exact q4
  · obtain ⟨q1, q2⟩ := R'.fds a o h
    exact ⟨q1, fun hm => q2 (List.mem_of_mem_take hm)⟩
  · have hk : k < μ.length := by rw [← R.len]; exact (List.getElem?_eq_some_iff.mp h).1
    show (c'.al.take μ.length)[k]? = some a
    rw [List.getElem?_take_of_lt hk]
    exact E.al k a h
/-- the ends of a def that changes nothing of what was there -/
def pureEnds (μ : Mu) (Q : DK) : DEnds := { nx := fun _ μ' => (∃ ex, μ' = μ ++ ex) ∧ Q .non μ, rt := fun x μ' => rfb μ.length x = true ∧ (∃ ex, μ' = μ ++ ex) ∧ Q x μ }
def spEnds (Q : DK) : DEnds := { nx := fun _ μ' => Q .non μ', rt := Q }

section
variable {P : Program} {w : World} {K : PySem.W.Frag} {mg : Str → Option Value} {base : Heap}
theorem Fun.okD {x qual : Str} {st : Stmt} {f : Addr} {fd : FuncData} {N ps : List Str} {k : Nat} {C : Ct} {ds : DS} (F : Fun K x qual st f fd) (S : FnScope N ps (defScope st)) (len : ∀ xs μ Q, C xs μ Q → xs.length = ps.length)
    (hbody : ∀ (cdv : Value) (A : Around) (outer : List Env) (s : Shared) (H : Hp), Room k (A.deeper (envOfC qual (defScope st) s.heap.objs.size f cdv)) → AmbX P (A.deeper (envOfC qual (defScope st) s.heap.objs.size f cdv)) base →
      ∃ ts : TS, QSs (cxOf CX0 P w K mg base N qual (defScope st) f cdv A outer s H E0).nox (defBody st) ts ds)
    (hC : ∀ xs μ Q, C xs μ Q → ds (spEnds Q) (startD N xs) μ) : FnG P w K mg base (k + 1) f fd ps C :=
  Fun.okGen F S len hbody fun xs μ Q h => ⟨spEnds Q, fun c c' μ' v x H H' P R E R' r k q => k c' x μ' v H' E R' r q, fun ρ μ' q => q, fun ρ μ' q => q, fun ρ μ' q => q, hC xs μ Q h⟩
theorem Fun.okP {x qual : Str} {st : Stmt} {f : Addr} {fd : FuncData} {N ps : List Str} {k : Nat} {C : Ct} {ds : DS} (F : Fun K x qual st f fd) (S : FnScope N ps (defScope st)) (len : ∀ xs μ Q, C xs μ Q → xs.length = ps.length)
    (hbody : ∀ (cdv : Value) (A : Around) (outer : List Env) (s : Shared) (H : Hp), Room k (A.deeper (envOfC qual (defScope st) s.heap.objs.size f cdv)) → AmbX P (A.deeper (envOfC qual (defScope st) s.heap.objs.size f cdv)) base →
      ∃ ts : TS, QSs (cxOf CX0 P w K mg base N qual (defScope st) f cdv A outer s H E0).nox (defBody st) ts ds)
    (hC : ∀ xs μ Q, C xs μ Q → ds (pureEnds μ Q) (startD N xs) μ) : FnG P w K mg base (k + 1) f fd ps C :=
  Fun.okGen F S len hbody fun xs μ Q h => ⟨pureEnds μ Q, fun c c' μ' v x H H' P R E R' r k q => by
    obtain ⟨b, ⟨ex, e⟩, q⟩ := q
    subst e
    obtain ⟨R2, E2⟩ := R.cut R' E
    exact k _ x μ v H' E2 R2 (rep_cut x v r b) q, fun ρ μ' q => ⟨by rw [rfb] <;> simp, q⟩, fun ρ μ' q => q, fun ρ μ' q => q, hC xs μ Q h⟩
end

/-! ### calls -/
def dCall (C : Ct) (d : DA) : DE := fun ρ μ Q => d ρ μ fun xs μ1 => C xs μ1 Q
def tCl (K : PySem.W.Frag) (C : Ct) (t : TA) : TE := fun σ H Q => t σ H fun vs H1 => spOf K C vs H1 Q
section
variable {X : Cx} {k : Nat} {f : Addr} {fd : FuncData} {ps : List Str} {C : Ct} {x : Str} {p pos : Pos} {e : Expr} {es : List Expr} {t : TA} {d : DA}
theorem run_G {pins : List (Addr × Obj)} {σ : L2.St} {H : Hp} {s : Shared} {Q : VK} {args : Args} {us : List Value} {vs : List V} (F : FnG X.prog X.w X.K X.mg X.base k f fd ps C) (am : AmbX X.prog X.A X.base) (hr : Room k X.A) (I : L2.Inv X pins σ H s) (hb : BindsTo s fd args (ps.zip us)) (r : Vals vs us) (h : spOf X.K C vs H Q) :
    codeAny (model X.prog X.w) X.A (.call (.ref f) args) (fun r s' => match r with
      | .ok (.ret u) => EP X pins σ Q u s'
      | _ => False) s := by
  refine codeAny_mono (F.run X.A X.stack s H args us vs Q am.toAmb hr I.env0 hb r h) fun r s' hq => ?_
  cases r with
  | error e => exact hq.elim
  | ok fl =>
    cases fl with
    | ret u => exact I.after hq
    | next => exact hq.elim
    | brk => exact hq.elim
    | cont => exact hq.elim
theorem run_Gw {pins : List (Addr × Obj)} {σ : L2.St} {H : Hp} {s : Shared} {Q : VK} {us ws : List Value} {kw : List (Str × Value)} {vs : List V} (F : FnG X.prog X.w X.K X.mg X.base k f fd ps C) (am : AmbX X.prog X.A X.base) (hr : Room k X.A) (I : L2.Inv X pins σ H s) (hb : BindsTo s fd ⟨us, kw⟩ (ps.zip ws)) (r : Vals vs ws) (h : spOf X.K C vs H Q) :
    wpAny (model X.prog X.w) X.A (call (.ref f) us kw) (EP X pins σ Q) X.xe s := by
  refine wpAny_call (codeAny_mono (run_G F am hr I hb r h) fun r s' hq => ?_)
  cases r with
  | error e => exact hq.elim
  | ok fl =>
    cases fl with
    | ret u => exact hq
    | next => exact hq.elim
    | brk => exact hq.elim
    | cont => exact hq.elim
theorem spOf_len {K : PySem.W.Frag} {vs : List V} {H : Hp} {Q : VK} {n : Nat} (hl : ∀ xs μ Q, C xs μ Q → xs.length = n) (h : spOf K C vs H Q) : vs.length = n := by
  obtain ⟨c, xs, μ, Q0, _, r, hc, _⟩ := h
  exact r.length.trans (hl _ _ _ hc)
theorem sim_call {K : PySem.W.Frag} (ha : SimA K t d) : SimE K (tCl K C t) (dCall C d) := by
  intro c ρ μ σ H Q P R S h k
  refine ha c ρ μ σ H _ _ R S h fun c1 xs μ1 vs H1 E1 R1 r1 q1 => ?_
  exact ⟨c1, xs, μ1, Q, R1, r1, q1, fun c2 z μ2 v2 H2 E2 => k c2 z μ2 v2 H2 (E1.trans E2)⟩
theorem q_call (F : FnG X.prog X.w X.K X.mg X.base k f fd ps C) (am : AmbX X.prog X.A X.base) (hr : Room k X.A) (hm : X.mg x = some (.ref f)) (hk : PySem.W.keepIn X.K (.ref f) = true) (hb : Binds X.K fd ps []) (ha : QA X (e :: es) t d) (hg : Gl X x := by rfl) (hdb : (x == ("__debug__" : Str)) = false := by decide)
    (he : starEach (e :: es) X.env = (false, eval e X.env) :: starEach es X.env := by rfl) (hpl : (backTo pos (starEach es X.env)).any (·.1) = false := by rfl) : QE X (.Call (.Name x p) (e :: es) [] pos) (tCl X.K C t) (dCall C d) := by
  refine ⟨⟨fun pins s σ H Q I h => ?_⟩, sim_call ha.s⟩
  refine wpAny_Call_Name_kw (ld_glob I hg hm ?_ hdb)
  refine PySem.W.callWith_K (h₀ := X.base) I.ok.mod.kin hk (thn (ha.p.run pos pins s σ H _ I h) fun us s1 ⟨vs, H1, I1, r, q⟩ => ⟨I1.kIn, ?_⟩) he hpl
  have hl : (us ++ ([] : List Value)).length = ps.length := by
    rw [List.append_nil, ← r.length]; exact spOf_len F.len q
  have z := hb s1 us I1.kIn hl
  rw [List.append_nil] at z
  exact run_Gw F am hr I1 z r q
theorem q_call0 (F : FnG X.prog X.w X.K X.mg X.base k f fd ps C) (am : AmbX X.prog X.A X.base) (hr : Room k X.A) (hm : X.mg x = some (.ref f)) (hk : PySem.W.keepIn X.K (.ref f) = true) (hb : Binds X.K fd ps []) (hg : Gl X x := by rfl) (hdb : (x == ("__debug__" : Str)) = false := by decide) :
    QE X (.Call (.Name x p) [] [] pos) (tCl X.K C tNil) (dCall C dNil) := by
  refine ⟨⟨fun pins s σ H Q I h => ?_⟩, sim_call qa_nil.s⟩
  refine wpAny_Call_Name_kw (ld_glob I hg hm ?_ hdb)
  have h : spOf X.K C [] H Q := h
  have z := hb s [] I.kIn (spOf_len F.len h)
  rw [List.append_nil] at z
  exact PySem.W.callWith_K0 I.kIn hk (run_Gw (us := []) F am hr I z .nil h)

/-! ### keywords -/
/-- values by their places among the positional ones and those by keyword -/
def pick {α : Type} (us ws : List α) (ix : List Nat) : List α := ix.filterMap fun i => (us ++ ws)[i]?
theorem vals_pick {vs zs : List V} {us ws : List Value} (h1 : Vals vs us) (h2 : Vals zs ws) : ∀ ix : List Nat, Vals (pick vs zs ix) (pick us ws ix)
  | [] => .nil
  | i :: ix => by
    have ih := vals_pick h1 h2 ix
    have r := h1.append h2
    unfold pick
    rw [List.filterMap_cons, List.filterMap_cons]
    cases q : (vs ++ zs)[i]? with
    | none =>
      rw [r.none_of q]
      exact ih
    | some v =>
      obtain ⟨u, e, ru⟩ := r.get q
      rw [e]
      exact .cons ru ih
theorem reps_pick {K : PySem.W.Frag} {c : Cf} {vs zs : List V} {us ws : List Vl} (h1 : Reps K c vs us) (h2 : Reps K c zs ws) : ∀ ix : List Nat, Reps K c (pick vs zs ix) (pick us ws ix)
  | [] => .nil
  | i :: ix => by
    have ih := reps_pick h1 h2 ix
    have r := h1.append h2
    unfold pick
    rw [List.filterMap_cons, List.filterMap_cons]
    cases q : (us ++ ws)[i]? with
    | none =>
      have q' : (vs ++ zs)[i]? = none := by
        rw [List.getElem?_eq_none_iff] at q ⊢
        rw [r.length]; exact q
      rw [q']
      exact ih
    | some v =>
      obtain ⟨u, e, ru⟩ := r.get q
      rw [e]
      exact .cons ru ih
structure QK (X : Cx) (kws : List Keyword) (t : TA) (d : DA) : Prop where
  p : PK X kws t
  s : SimA X.K t d
theorem qk_nil : QK X [] tNil dNil := ⟨pk_nil, qa_nil.s⟩
theorem qk_cons {nm : Option Str} {kpos : Pos} {kws : List Keyword} {te : TE} {de : DE} (ha : QE X e te de) (hr : QK X kws t d) : QK X (⟨nm, e, kpos⟩ :: kws) (tCons te t) (dCons de d) := by
  refine ⟨pk_cons ha.p hr.p, fun c ρ μ σ H Q P R S h k => ?_⟩
  refine ha.s c ρ μ σ H _ _ R S h fun c1 x μ1 v H1 E1 R1 r1 q1 => ?_
  exact hr.s c1 ρ μ1 σ H1 _ _ R1 (S.up E1.toExt0) q1 fun c2 xs μ2 vs H2 E2 R2 r2 q2 => k c2 (x :: xs) μ2 (v :: vs) H2 (E1.trans E2) R2 (.cons (r1.up E2.toExt0) r2) q2
/-- how a call with n positional values and those named ks is bound -/
def BindsK (K : PySem.W.Frag) (fd : FuncData) (ps ks : List Str) (n : Nat) (ix : List Nat) : Prop := ∀ (s : Shared) (us ws : List Value), K.In s.heap → us.length = n → ws.length = ks.length → BindsTo s fd ⟨us, ks.zip ws⟩ (ps.zip (pick us ws ix))
def tClK (K : PySem.W.Frag) (C : Ct) (n m : Nat) (ix : List Nat) (t tk : TA) : TE := fun σ H Q => t σ H fun vs H1 => tk σ H1 fun zs H2 => vs.length = n ∧ zs.length = m ∧ spOf K C (pick vs zs ix) H2 Q
def dCallK (C : Ct) (n m : Nat) (ix : List Nat) (d dk : DA) : DE := fun ρ μ Q => d ρ μ fun xs μ1 => dk ρ μ1 fun ys μ2 => xs.length = n ∧ ys.length = m ∧ C (pick xs ys ix) μ2 Q
theorem sim_callK {K : PySem.W.Frag} {n m : Nat} {ix : List Nat} {tk : TA} {dk : DA} (ha : SimA K t d) (hk : SimA K tk dk) : SimE K (tClK K C n m ix t tk) (dCallK C n m ix d dk) := by
  intro c ρ μ σ H Q P R S h k
  refine ha c ρ μ σ H _ _ R S h fun c1 xs μ1 vs H1 E1 R1 r1 q1 => ?_
  refine hk c1 ρ μ1 σ H1 _ _ R1 (S.up E1.toExt0) q1 fun c2 ys μ2 zs H2 E2 R2 r2 q2 => ?_
  have r1' := r1.up E2.toExt0
  exact ⟨by rw [r1.length]; exact q2.1, by rw [r2.length]; exact q2.2.1, c2, _, μ2, Q, R2, reps_pick r1' r2 ix, q2.2.2, fun c3 z μ3 v3 H3 E3 => k c3 z μ3 v3 H3 ((E1.trans E2).trans E3)⟩
variable {kws : List Keyword} {tk : TA} {dk : DA} {ks : List Str} {n : Nat} {ix : List Nat}
theorem q_callK (F : FnG X.prog X.w X.K X.mg X.base k f fd ps C) (am : AmbX X.prog X.A X.base) (hr : Room k X.A) (hm : X.mg x = some (.ref f)) (hk : PySem.W.keepIn X.K (.ref f) = true) (hb : BindsK X.K fd ps ks n ix) (ha : QA X (e :: es) t d) (hw : QK X kws tk dk)
    (hg : Gl X x := by rfl) (hall : (backToKw pos (keywordEach kws X.env)).all (·.1.isSome) = true := by rfl) (hks : (backToKw pos (keywordEach kws X.env)).filterMap (·.1) = ks := by rfl)
    (hdb : (x == ("__debug__" : Str)) = false := by decide) (he : starEach (e :: es) X.env = (false, eval e X.env) :: starEach es X.env := by rfl)
    (hpl : ((backTo pos (starEach (e :: es) X.env)).any (·.1) || (backToKw pos (keywordEach kws X.env)).any (·.1.isNone)) = false := by rfl) : QE X (.Call (.Name x p) (e :: es) kws pos) (tClK X.K C n ks.length ix t tk) (dCallK C n ks.length ix d dk) := by
  refine ⟨⟨fun pins s σ H Q I h => ?_⟩, sim_callK ha.s hw.s⟩
  refine wpAny_Call_Name_kw (ld_glob I hg hm ?_ hdb)
  refine PySem.W.callWith_KW (h₀ := X.base) I.ok.mod.kin hk hall (thn (ha.p.run pos pins s σ H _ I h) fun us s1 ⟨vs, H1, I1, r, q⟩ => ?_) hpl he
  refine thn (hw.p.run pos pins s1 σ H1 _ I1 q) fun ws s2 ⟨zs, H2, I2, rz, l1, l2, q2⟩ => ⟨I2.kIn, ?_⟩
  rw [hks]
  exact run_Gw F am hr I2 (hb s2 us ws I2.kIn (r.length.symm.trans l1) (rz.length.symm.trans l2)) (vals_pick r rz ix) q2
theorem q_callK0 (F : FnG X.prog X.w X.K X.mg X.base k f fd ps C) (am : AmbX X.prog X.A X.base) (hr : Room k X.A) (hm : X.mg x = some (.ref f)) (hk : PySem.W.keepIn X.K (.ref f) = true) (hb : BindsK X.K fd ps ks 0 ix) (hw : QK X kws tk dk)
    (hg : Gl X x := by rfl) (hall : (backToKw pos (keywordEach kws X.env)).all (·.1.isSome) = true := by rfl) (hks : (backToKw pos (keywordEach kws X.env)).filterMap (·.1) = ks := by rfl)
    (hdb : (x == ("__debug__" : Str)) = false := by decide)
    (hpl : ((backTo pos (starEach [] X.env)).any (·.1) || (backToKw pos (keywordEach kws X.env)).any (·.1.isNone)) = false := by rfl) : QE X (.Call (.Name x p) [] kws pos) (tClK X.K C 0 ks.length ix tNil tk) (dCallK C 0 ks.length ix dNil dk) := by
  refine ⟨⟨fun pins s σ H Q I h => ?_⟩, sim_callK qa_nil.s hw.s⟩
  refine wpAny_Call_Name_kw (ld_glob I hg hm ?_ hdb)
  have h : tk σ H (fun zs H2 => ([] : List V).length = 0 ∧ zs.length = ks.length ∧ spOf X.K C (pick [] zs ix) H2 Q) := h
  refine PySem.W.callWith_KW0 (h₀ := X.base) I.ok.mod.kin hk hall (thn (hw.p.run pos pins s σ H _ I h) fun ws s2 ⟨zs, H2, I2, rz, l1, l2, q2⟩ => ⟨I2.kIn, ?_⟩) hpl
  rw [hks]
  exact run_Gw (us := []) F am hr I2 (hb s2 [] ws I2.kIn rfl (rz.length.symm.trans l2)) (vals_pick .nil rz ix) q2
end

/-! ### the law's end -/
theorem law_G {P : Program} {w : World} {K : PySem.W.Frag} {mg mb : Str → Option Value} {k : Nat} {fa a : Addr} {fd : FuncData} {x : Str} {C : Ct} {s₁ : Shared} {vs : List Value} {ns : List Int}
    (KX : K.In s₁.heap) (hns : s₁.heap.Ns mainGlobals mg) (hb : s₁.heap.Ns builtinsNs mb) (hbb : ∀ x : Str, x ≠ "__name__" → mb x = bootBuiltins x) (hlim : s₁.heap.NoLimit) (hse : s₁.heap.NoSeer) (htr : P.given.tree = none) (hg : s₁.gens = #[])
    (ha : s₁.heap.get? a = some { cls := .type "list", data := .seq vs.toArray }) (hi : IntsAre vs ns) (hl : ns.length ≤ sizeLine) (hr : Room k callerA)
    (F : ∀ base : Heap, K.In base → base.Ns mainGlobals mg → FnG P w K mg base k fa fd [x] C) (hbind : ∀ (s : Shared) (u : Value), BindsTo s fd ⟨[u], []⟩ [(x, u)])
    (hC : C [.frl (ns.map Vl.int)] [] fun v _ => v = .bl true) :
    codeAny (model P w) callerA (.call (.ref fa) ⟨[.ref a], []⟩) (fun r s' => r = .ok (.ret (.bool true)) ∧ OldK s₁.heap s'.heap ∧ s'.os = s₁.os ∧ AllBare s'.gens) s₁ := by
  have rv := vals_ints hi
  have lenV := hi.length
  have core : ∀ H : Hp, Only H → SqL K H a (ns.map V.int) → HOk P w H s₁.heap → (∀ b, H b ≠ none → b = a) → (H a ≠ none → K.lookup a = none) →
      codeAny (model P w) callerA (.call (.ref fa) ⟨[.ref a], []⟩) (fun r s' => r = .ok (.ret (.bool true)) ∧ OldK s₁.heap s'.heap ∧ s'.os = s₁.os ∧ AllBare s'.gens) s₁ := by
    intro H hO hS hok hA hK
    have base_of : ∀ {b : Addr} {o : Obj}, s₁.heap.get? b = some o → H b = none → (hidT s₁.heap H).get? b = some o := fun e n => hidT_get e n
    have out : ∀ {b : Addr} {o : Obj}, s₁.heap.get? b = some o → (∀ n, o.data ≠ .seq vs.toArray n) → H b = none := fun {b o} e d => by
      cases q : H b with
      | none => rfl
      | some u =>
        have e' : b = a := hA b (by rw [q]; simp)
        rw [e', ha] at e
        have e2 := Option.some.inj e
        exact absurd (by rw [← e2]) (d _)
    have nsK : ∀ {b : Addr} {m : Str → Option Value}, s₁.heap.Ns b m → (hidT s₁.heap H).Ns b m := fun {b m} ⟨o, es, ep, e, d, r⟩ => ⟨o, es, ep, base_of e (out e fun n z => by rw [d] at z; cases z), d, r⟩
    have hKb : K.In (hidT s₁.heap H) := fun b o e => base_of (KX b o e) (by
      cases q : H b with
      | none => rfl
      | some u =>
        have e' : b = a := hA b (by rw [q]; simp)
        rw [e'] at e q
        rw [hK (by rw [q]; simp)] at e; cases e)
    have hM : Mod K mg (hidT s₁.heap H) := ⟨hKb, nsK hns, ⟨mb, nsK hb, hbb⟩, let ⟨mc, h1, h2⟩ := hlim; ⟨mc, nsK h1, h2⟩⟩
    have hSe : (hidT s₁.heap H).NoSeer := by
      obtain ⟨⟨mc, h1, h2⟩, ⟨mm, h3, h4⟩, ⟨mb', h5, h6⟩, ⟨mg', bm, ob, h7, h8, h9, h10, h11⟩⟩ := hse
      refine ⟨⟨mc, nsK h1, h2⟩, ⟨mm, nsK h3, h4⟩, ⟨mb', nsK h5, h6⟩, ⟨mg', bm, ob, nsK h7, h8, base_of h9 ?_, h10, h11⟩⟩
      cases q : H bm with
      | none => rfl
      | some u =>
        have e' : bm = a := hA bm (by rw [q]; simp)
        rw [e', ha] at h9
        have e2 := Option.some.inj h9
        rw [← e2] at h10
        exact absurd h10 (by intro z; injection z with z; exact absurd z (by decide))
    have e0 : Env0 P w K mg (hidT s₁.heap H) callerA [] s₁ H := ⟨rfl, hM, fun b o e => of_hidT e, Nat.le_of_eq (hidT_size _ _), trivial, fun b hb => absurd (show b ∈ ([] : List Addr) from hb) (by simp), hok, .of_eq hg⟩
    have sp0 : spOf K C [.ref a] H fun v _ => v = .bl true := by
      refine ⟨⟨[], H, fun _ => none⟩, [.frl (ns.map Vl.int)], [], _, ⟨Same.refl _, rfl, List.nodup_nil, fun k b o h => by simp at h, fun b o h => by simp at h, fun b o h => by simp at h⟩, .one (.frl hS (by rw [List.length_map]; exact hl) (Reps.ints ns)), hC, fun c' y μ' v H' E R' r' q => ?_⟩
      subst q
      cases r'
      rfl
    refine codeAny_mono ((F _ hKb (nsK hns)).run callerA [] s₁ H ⟨[.ref a], []⟩ [.ref a] [.ref a] _ ⟨rfl, hSe, htr⟩ hr e0 (hbind s₁ (.ref a)) (.cons rfl .nil) sp0) fun r s' h => ?_
    cases r with
    | error e => exact h.elim
    | ok fl =>
      cases fl with
      | next => exact h.elim
      | brk => exact h.elim
      | cont => exact h.elim
      | ret u =>
        obtain ⟨v, H', os, bare, un, hok', r', q⟩ := h
        have q' : v = .bl true := q
        subst q'
        have r2 : u = Value.bool true := r'
        subst r2
        refine ⟨rfl, OldK.of_keep fun b o e => ?_, os, bare⟩
        cases q : H b with
        | none => exact un.keep b o e q (fun z => absurd (show b ∈ ([] : List Addr) from z) (by simp)) (by simp)
        | some u =>
          rcases hO b with z | ⟨ob, xs, z⟩
          · rw [q] at z; cases z
          · obtain ⟨e1, _⟩ := hok b _ z
            obtain ⟨e2, _⟩ := hok' b _ (un.frzs b ob _ z)
            rw [e] at e1
            rw [Option.some.inj e1]
            exact e2
  cases hk : K.lookup a with
  | some o =>
    have e := KX a o hk
    rw [ha] at e
    cases e
    refine core (fun _ => none) (fun _ => .inl rfl) (.inr ⟨_, vs.toArray, _, hk, rfl, rfl, rfl, by rw [List.size_toArray, lenV]; exact hl, by simpa using rv⟩) (fun b u z => by simp at z) (fun b z => absurd rfl z) fun z => absurd rfl z
  | none =>
    refine core (fun b => if b = a then some (.frz { cls := .type "list", data := .seq vs.toArray } (.lst (ns.map V.int))) else none) (fun b => ?_) (.inl (.inr ⟨{ cls := .type "list", data := .seq vs.toArray }, if_pos rfl⟩)) (fun b u z => ?_) (fun b z => ?_) fun _ => hk
    · by_cases hb : b = a
      · exact .inr ⟨_, _, if_pos hb⟩
      · exact .inl (if_neg hb)
    · by_cases hb : b = a
      · have z' := (if_pos hb).symm.trans z
        cases z'
        subst hb
        exact ⟨ha, by rw [List.length_map]; exact hl, vs, _, rv, ha⟩
      · have z' := (if_neg hb).symm.trans z
        cases z'
    · by_cases hb : b = a
      · exact hb
      · exact absurd (if_neg hb) z
theorem walk_G {l : PySem.W.OpenLaw} {n k : Nat} {q : Program} {loose : List Str} {XP : (Str → Option Value) → Heap → Prop} {YP : World → Heap → Prop} {d : DefRec} {K : Params → PySem.W.Frag} {C : Ct} {x : Str}
    (hn : l.most = some n) (hn2 : n ≤ sizeLine) (hdf : d.params.defaults = []) (hr : Room k callerA) (him : importsNone q = true) (htr : l.prog.given.tree = none)
    (hY : ∀ (w : World) (h : Heap), YP w h → (K w.params).In h)
    (F : ∀ (w : World) (mg : Str → Option Value) (fa : Addr) (h : Heap), (K w.params).In h → h.Ns mainGlobals mg → mg d.name = some (.ref fa) →
      ∃ fd : FuncData, (∀ (s : Shared) (u : Value), BindsTo s fd ⟨[u], []⟩ [(x, u)]) ∧
        ∀ base : Heap, (K w.params).In base → base.Ns mainGlobals mg → FnG l.prog w (K w.params) mg base k fa fd [x] C)
    (hC : ∀ ns : List Int, ns.length ≤ n → C [.frl (ns.map Vl.int)] [] fun v _ => v = .bl true) : PySem.W.WalkO q loose XP YP l.row.toRowW d [] (fun f vs => PySem.call f vs) := by
  refine Att.attach_call hn hdf fun w s₀ s₁ mg mb fa o pm cd doc a vs ns G Y ho hd hcd hmg hobj hints hlen hg => ?_
  have KX := hY w _ Y
  obtain ⟨fd, hb, hF⟩ := F w mg fa _ KX G.T.g hmg
  exact law_G KX G.T.g G.T.b G.T.builtins G.T.nolimit (G.T.seer him) htr hg hobj hints (Nat.le_trans hlen hn2) hr hF hb (hC ns hlen)
end DL

/-! plain data: what == and repr need of it -/
namespace DL
open PySem PySem.Spec L2 StX PyProof.Rows
/-- is, is not of bools -/
def dIsB (neg : Bool) : D2 := fun x y μ Q => match x, y with
  | .bl a, .bl b => Q (.bl (decide (a = b) != neg)) μ
  | _, _ => False
section
variable {X : Cx} {a b : Expr} {ta tb : TE} {da db : DE} {pos : Pos}
theorem sim_isB {K : PySem.W.Frag} : Sim2 K rIsB (dIsB false) := by
  intro c μ H vx vy x y Q P R rx ry h k
  unfold dIsB at h
  split at h
  · rename_i i j
    cases rx; cases ry
    refine ⟨_, _, rfl, rfl, k c _ μ _ H (Ext.refl c) R (.bl _) ?_⟩
    rw [show (decide (i = j) != false) = decide (i = j) from by cases decide (i = j) <;> rfl] at h
    exact h
  · exact h.elim
theorem sim_notB {K : PySem.W.Frag} : Sim2 K rNotB (dIsB true) := by
  intro c μ H vx vy x y Q P R rx ry h k
  unfold dIsB at h
  split at h
  · rename_i i j
    cases rx; cases ry
    refine ⟨_, _, rfl, rfl, k c _ μ _ H (Ext.refl c) R (.bl _) ?_⟩
    rw [show (decide (i = j) != true) = !decide (i = j) from by cases decide (i = j) <;> rfl] at h
    exact h
  · exact h.elim
theorem q_isB (ha : QE X a ta da) (hb : QE X b tb db) : QE X (.Compare a [.Is] [b] pos) (tOp rIsB ta tb) (dOp (dIsB false) da db) := q_cmp op_isBl sim_isB ha hb (nomark _)
theorem q_notB (ha : QE X a ta da) (hb : QE X b tb db) : QE X (.Compare a [.IsNot] [b] pos) (tOp rNotB ta tb) (dOp (dIsB true) da db) := q_cmp op_notBl sim_notB ha hb (nomark _)
theorem qt_isB (ha : QE X a ta da) (hb : QE X b tb db) : QT X (.Compare a [.Is] [b] pos) (tTest (tOp rIsB ta tb)) (dTest (dOp (dIsB false) da db)) := qt_cmp op_isBl sim_isB ha hb (nomark _)
theorem qt_notB (ha : QE X a ta da) (hb : QE X b tb db) : QT X (.Compare a [.IsNot] [b] pos) (tTest (tOp rNotB ta tb)) (dTest (dOp (dIsB true) da db)) := qt_cmp op_notBl sim_notB ha hb (nomark _)
end
mutual
/-- no text, no ref within -/
def plainV : Vl → Bool
  | .non | .bl _ | .int _ => true
  | .tup xs | .lst xs => plainVs xs
  | .str _ | .frl _ | .ref _ | .op _ => false
def plainVs : List Vl → Bool
  | [] => true
  | x :: xs => plainV x && plainVs xs
end
mutual
def depV : Vl → Nat
  | .tup xs | .lst xs => depVs xs + 1
  | .non | .bl _ | .int _ | .str _ | .frl _ | .ref _ | .op _ => 0
def depVs : List Vl → Nat
  | [] => 0
  | x :: xs => max (depV x) (depVs xs)
end
mutual
/-- how many things are shown -/
def nodV : Vl → Nat
  | .tup xs | .lst xs => nodVs xs + 1
  | .non | .bl _ | .int _ | .str _ | .frl _ | .ref _ | .op _ => 1
def nodVs : List Vl → Nat
  | [] => 0
  | x :: xs => nodV x + nodVs xs
end
mutual
/-- its numbers may be shown -/
def shortV : Vl → Bool
  | .int i => decide (i.natAbs.log2 < 1920)
  | .tup xs | .lst xs => shortVs xs
  | .non | .bl _ | .str _ | .frl _ | .ref _ | .op _ => true
def shortVs : List Vl → Bool
  | [] => true
  | x :: xs => shortV x && shortVs xs
end
mutual
def dataV : Vl → PyData
  | .bl b => .bool b
  | .int i => .int i
  | .str x => .str x
  | .tup xs => .tuple (dataVs xs)
  | .lst xs => .list (dataVs xs)
  | .non | .frl _ | .ref _ | .op _ => .none
def dataVs : List Vl → List PyData
  | [] => []
  | x :: xs => dataV x :: dataVs xs
end
mutual
theorem plain_data : ∀ x : Vl, plainV x = true → dat x = some (dataV x) ∧ (dataV x).canLay0 = true ∧ (dataV x).depth = depV x
  | .non, _ => by refine ⟨rfl, rfl, ?_⟩ <;> simp [dataV, PyData.depth, depV]
  | .bl b, _ => by refine ⟨rfl, rfl, ?_⟩ <;> simp [dataV, PyData.depth, depV]
  | .int i, _ => by refine ⟨rfl, rfl, ?_⟩ <;> simp [dataV, PyData.depth, depV]
  | .tup xs, h => by
    obtain ⟨h1, h2, h3⟩ := plain_datas xs (by rw [plainV] at h; exact h)
    refine ⟨?_, ?_, ?_⟩
    · rw [dat, h1, dataV]; rfl
    · rw [dataV, PyData.canLay0]; exact h2
    · rw [dataV, PyData.depth, depV, h3]
  | .lst xs, h => by
    obtain ⟨h1, h2, h3⟩ := plain_datas xs (by rw [plainV] at h; exact h)
    refine ⟨?_, ?_, ?_⟩
    · rw [dat, h1, dataV]; rfl
    · rw [dataV, PyData.canLay0]; exact h2
    · rw [dataV, PyData.depth, depV, h3]
  | .str _, h => by rw [plainV] at h; cases h
  | .frl _, h => by rw [plainV] at h; cases h
  | .ref _, h => by rw [plainV] at h; cases h
  | .op _, h => by rw [plainV] at h; cases h
theorem plain_datas : ∀ xs : List Vl, plainVs xs = true → dats xs = some (dataVs xs) ∧ PyData.canLayAll0 (dataVs xs) = true ∧ PyData.depthAll (dataVs xs) = depVs xs
  | [], _ => by refine ⟨rfl, rfl, ?_⟩ <;> simp [dataVs, PyData.depthAll, depVs]
  | x :: xs, h => by
    rw [plainVs, Bool.and_eq_true] at h
    obtain ⟨a1, a2, a3⟩ := plain_data x h.1
    obtain ⟨b1, b2, b3⟩ := plain_datas xs h.2
    refine ⟨?_, ?_, ?_⟩
    · rw [dats, a1, b1, dataVs]
    · rw [dataVs, PyData.canLayAll0, a2, b2]; rfl
    · rw [dataVs, PyData.depthAll, depVs, a3, b3]
end
mutual
theorem short_show : ∀ x : Vl, plainV x = true → shortV x = true → (dataV x).showable = true ∧ (dataV x).shown.length + 2 ≤ 1932 * nodV x
  | .non, _, _ => ⟨rfl, by rw [nodV]; decide⟩
  | .bl b, _, _ => ⟨rfl, by rw [nodV]; cases b <;> decide⟩
  | .int i, _, h => by
    rw [shortV] at h
    refine ⟨by rw [dataV, PyData.showable]; exact h, ?_⟩
    have := PyProof.Rows.int_text_len_1921 (of_decide_eq_true h)
    rw [dataV, PyData.shown, nodV]
    exact Nat.le_trans (Nat.add_le_add_right this 2) (by decide)
  | .tup xs, h, k => by
    obtain ⟨h1, h2⟩ := short_shows xs (by rw [plainV] at h; exact h) (by rw [shortV] at k; exact k)
    refine ⟨by rw [dataV, PyData.showable]; exact h1, ?_⟩
    have e := tupleText_len_le (PyData.shownAll (dataVs xs))
    rw [dataV, PyData.shown, nodV]
    omega
  | .lst xs, h, k => by
    obtain ⟨h1, h2⟩ := short_shows xs (by rw [plainV] at h; exact h) (by rw [shortV] at k; exact k)
    refine ⟨by rw [dataV, PyData.showable]; exact h1, ?_⟩
    have e := listText_len_le (PyData.shownAll (dataVs xs))
    rw [dataV, PyData.shown, nodV]
    omega
  | .str _, h, _ => by rw [plainV] at h; cases h
  | .frl _, h, _ => by rw [plainV] at h; cases h
  | .ref _, h, _ => by rw [plainV] at h; cases h
  | .op _, h, _ => by rw [plainV] at h; cases h
theorem short_shows : ∀ xs : List Vl, plainVs xs = true → shortVs xs = true → PyData.showableAll (dataVs xs) = true ∧ ((PyData.shownAll (dataVs xs)).map (·.length)).sum + 2 * (PyData.shownAll (dataVs xs)).length ≤ 1932 * nodVs xs
  | [], _, _ => ⟨rfl, by simp [dataVs, PyData.shownAll]⟩
  | x :: xs, h, k => by
    rw [plainVs, Bool.and_eq_true] at h
    rw [shortVs, Bool.and_eq_true] at k
    obtain ⟨a1, a2⟩ := short_show x h.1 k.1
    obtain ⟨b1, b2⟩ := short_shows xs h.2 k.2
    have n1 : 1 ≤ nodV x := by
      cases x <;> rw [nodV] <;> omega
    refine ⟨by rw [dataVs, PyData.showableAll, a1, b1]; rfl, ?_⟩
    rw [dataVs, PyData.shownAll, nodVs, List.map_cons, List.sum_cons, List.length_cons]
    omega
end
theorem datM_plain {μ : Mu} {x : Vl} (h : plainV x = true) : datM μ x = some (dataV x) := by
  have e := (plain_data x h).1
  cases x <;> first | exact e | (rw [plainV] at h; cases h)
theorem shaped_plain {x : Vl} (h : plainV x = true) (hd : depV x ≤ 64) : SeqAt.shaped (dataV x) = true := by
  obtain ⟨_, h2, h3⟩ := plain_data x h
  unfold SeqAt.shaped
  rw [h2, h3, decide_eq_true hd]; rfl
theorem shown_le {x : Vl} (h : plainV x = true) (hs : shortV x = true) (hn : 1932 * nodV x ≤ sizeLine) : (dataV x).shown.length ≤ sizeLine := by
  have := (short_show x h hs).2
  omega
theorem repr_plain {μ : Mu} {x : Vl} {Q : DK} (h : plainV x = true) (hs : shortV x = true) (hd : depV x ≤ 64) (hn : 1932 * nodV x ≤ sizeLine) (q : Q (.str (dataV x).shown) μ) : fRepr [x] μ Q := by
  obtain ⟨h1, h2⟩ := short_show x h hs
  exact ⟨x, dataV x, rfl, datM_plain h, shaped_plain h hd, h1, by omega, q⟩
theorem datEq_plain {neg : Bool} {μ : Mu} {x y : Vl} {Q : DK} (hx : plainV x = true) (hy : plainV y = true) (dx : depV x ≤ 64) (dy : depV y ≤ 64) (q : Q (.bl (PyData.eqv (dataV x) (dataV y) != neg)) μ) : datEq neg x y μ Q :=
  ⟨_, _, datM_plain hx, datM_plain hy, shaped_plain hx dx, shaped_plain hy dy, q⟩

/-! whole numbers in a row -/
theorem plainVs_ints : ∀ r : List Int, plainVs (r.map .int) = true
  | [] => rfl
  | x :: r => by rw [List.map_cons, plainVs, plainVs_ints r]; rfl
theorem depVs_ints : ∀ r : List Int, depVs (r.map .int) = 0
  | [] => rfl
  | x :: r => by rw [List.map_cons, depVs, depVs_ints r]; rfl
theorem nodVs_ints : ∀ r : List Int, nodVs (r.map .int) = r.length
  | [] => rfl
  | x :: r => by rw [List.map_cons, nodVs, nodVs_ints r, nodV, List.length_cons]; omega
theorem dataVs_ints : ∀ r : List Int, dataVs (r.map .int) = r.map .int
  | [] => rfl
  | x :: r => by rw [List.map_cons, dataVs, dataVs_ints r]; rfl
theorem shortVs_ints : ∀ r : List Int, shortVs (r.map .int) = r.all fun i => decide (i.natAbs.log2 < 1920)
  | [] => rfl
  | x :: r => by rw [List.map_cons, shortVs, shortVs_ints r]; rfl
theorem eqvAll_ints : ∀ r s : List Int, PyData.eqvAll (r.map .int) (s.map .int) = decide (r = s)
  | [], [] => rfl
  | [], y :: s => by rw [List.map_nil, List.map_cons, PyData.eqvAll]; simp
  | x :: r, [] => by rw [List.map_nil, List.map_cons, PyData.eqvAll]; simp
  | x :: r, y :: s => by
    rw [List.map_cons, List.map_cons, PyData.eqvAll, eqvAll_ints r s]
    show ((x == y) && decide (r = s)) = _
    by_cases h1 : x = y <;> by_cases h2 : r = s <;> simp [h1, h2]
/-- == and != of tuples, of lists of whole numbers -/
theorem eq_tupI {neg : Bool} {μ : Mu} {r s : List Int} {Q : DK} (q : Q (.bl (decide (r = s) != neg)) μ) : dEqN neg (.tup (r.map .int)) (.tup (s.map .int)) μ Q := by
  refine datEq_plain (by rw [plainV]; exact plainVs_ints r) (by rw [plainV]; exact plainVs_ints s) (by rw [depV, depVs_ints]; omega) (by rw [depV, depVs_ints]; omega) ?_
  rw [dataV, dataV, dataVs_ints, dataVs_ints, PyData.eqv, eqvAll_ints]
  exact q
theorem eq_lstI {neg : Bool} {μ : Mu} {r s : List Int} {Q : DK} (q : Q (.bl (decide (r = s) != neg)) μ) : dEqN neg (.lst (r.map .int)) (.lst (s.map .int)) μ Q := by
  refine datEq_plain (by rw [plainV]; exact plainVs_ints r) (by rw [plainV]; exact plainVs_ints s) (by rw [depV, depVs_ints]; omega) (by rw [depV, depVs_ints]; omega) ?_
  rw [dataV, dataV, dataVs_ints, dataVs_ints, PyData.eqv, eqvAll_ints]
  exact q
end DL

/-! tests by cases; loops that keep something; the law's pen -/
namespace DL
open PySem PySem.Spec L2 StX PyProof.Rows
theorem dec_split {p : Prop} [Decidable p] {A B : Prop} (h1 : p → A) (h2 : ¬p → B) : (match decide p with
    | true => A
    | false => B) := by
  by_cases h : p
  · rw [decide_eq_true h]; exact h1 h
  · rw [decide_eq_false h]; exact h2 h
theorem dec_splitN {p : Prop} [Decidable p] {A B : Prop} (h1 : ¬p → A) (h2 : p → B) : (match (decide p != true) with
    | true => A
    | false => B) := by
  by_cases h : p
  · rw [decide_eq_true h]; exact h2 h
  · rw [decide_eq_false h]; exact h1 h
theorem dec_splitE {p : Prop} [Decidable p] {A B : Prop} (h1 : p → A) (h2 : ¬p → B) : (match (decide p != false) with
    | true => A
    | false => B) := by
  by_cases h : p
  · rw [decide_eq_true h]; exact h1 h
  · rw [decide_eq_false h]; exact h2 h
theorem dVar_at {i : Nat} {ρ : Rho} {μ : Mu} {Q : DK} {x : Vl} (h : ρ[i]? = some (some x)) (q : Q x μ) : dVar i ρ μ Q := by
  unfold dVar
  rw [h]; exact q
theorem dec_splitB {p : Prop} [Decidable p] {A B : Prop} (h1 : ¬p → A) (h2 : p → B) : (match (!decide p) with
    | true => A
    | false => B) := by
  by_cases h : p
  · rw [decide_eq_true h]; exact h2 h
  · rw [decide_eq_false h]; exact h1 h
theorem bool_split {b : Bool} {A B : Prop} (h1 : b = true → A) (h2 : b = false → B) : (match b with
    | true => A
    | false => B) := by
  cases b with
  | true => exact h1 rfl
  | false => exact h2 rfl
theorem bool_splitB {b : Bool} {A B : Prop} (h1 : b = false → A) (h2 : b = true → B) : (match !b with
    | true => A
    | false => B) := by
  cases b with
  | true => exact h2 rfl
  | false => exact h1 rfl
theorem bl_split {p : Prop} [Decidable p] {A B : Prop} (h1 : p → A) (h2 : ¬p → B) : (match Vl.bl (decide p) with
    | .bl true => A
    | .bl false => B
    | _ => False) := by
  by_cases h : p
  · rw [decide_eq_true h]; exact h1 h
  · rw [decide_eq_false h]; exact h2 h
/-- a loop that keeps something -/
theorem forD_inv {G : Mu → Prop} {g : DG} {body : DS} {d : DEnds} (I : List Vl → Rho → Mu → Prop) (hG : ∀ r ρ μ, I r ρ μ → G μ) (hn : ∀ ρ μ, I [] ρ μ → d.nx ρ μ)
    (hs : ∀ x r ρ μ, I (x :: r) ρ μ → ∀ D : DEnds, (∀ ρ' μ', I r ρ' μ' → D.nx ρ' μ') → D.rt = d.rt → (∀ ρ' μ', I r ρ' μ' → D.ct ρ' μ') → g x ρ μ fun ρ2 μ2 => body D ρ2 μ2) : ∀ (xs : List Vl) (ρ : Rho) (μ : Mu), I xs ρ μ → forD G g body d xs ρ μ
  | [], ρ, μ, h => ⟨hG _ _ _ h, hn _ _ h⟩
  | x :: r, ρ, μ, h => ⟨hG _ _ _ h, hs x r ρ μ h _ (fun ρ' μ' h' => forD_inv I hG hn hs r ρ' μ' h') rfl (fun ρ' μ' h' => forD_inv I hG hn hs r ρ' μ' h')⟩
/-- a comprehension that keeps something: what is left, what is made -/
theorem lcD_inv {G : Mu → Prop} {g : DG} {dt : DT} {de : DE} {ρ : Rho} {Q : List Vl → Mu → Prop} (I : List Vl → List Vl → Mu → Prop) (hG : ∀ r acc μ, I r acc μ → G μ) (hn : ∀ acc μ, I [] acc μ → Q acc μ)
    (hs : ∀ x r acc μ, I (x :: r) acc μ → ∀ D : List Vl → Mu → Prop, (∀ acc' μ', I r acc' μ' → D acc' μ') → g x ρ μ fun ρ2 μ2 => dt ρ2 μ2 fun b μ3 => match b with
      | true => de ρ2 μ3 fun y μ4 => D (acc ++ [y]) μ4
      | false => D acc μ3) : ∀ (xs acc : List Vl) (μ : Mu), I xs acc μ → lcD G g dt de ρ Q xs acc μ
  | [], acc, μ, h => ⟨hG _ _ _ h, hn _ _ h⟩
  | x :: r, acc, μ, h => ⟨hG _ _ _ h, hs x r acc μ h _ fun acc' μ' h' => lcD_inv I hG hn hs r acc' μ' h'⟩
/-- each item made by a function -/
theorem lc_map {α : Type} {G : Mu → Prop} {g : DG} {de : DE} {ρ : Rho} {Q : List Vl → Mu → Prop} {μ : Mu} (hG : G μ) (it : α → Vl) (f : α → Vl) : ∀ (xs : List α) (acc : List Vl), (∀ x ∈ xs, ∀ P : DK, P (f x) μ → g (it x) ρ μ fun ρ2 μ2 => de ρ2 μ2 P) → Q (acc ++ xs.map f) μ →
    lcD G g dYes de ρ Q (xs.map it) acc μ
  | [], acc, _, q => ⟨hG, by simpa using q⟩
  | x :: xs, acc, h, q => by
    refine ⟨hG, ?_⟩
    refine h x List.mem_cons_self _ ?_
    exact lc_map hG it f xs (acc ++ [f x]) (fun y hy => h y (List.mem_cons_of_mem _ hy)) (by simpa using q)
/-- each item kept or not, and made by a function -/
theorem lc_filter {α : Type} {G : Mu → Prop} {g : DG} {dt : DT} {de : DE} {ρ : Rho} {Q : List Vl → Mu → Prop} {μ : Mu} (hG : G μ) (it : α → Vl) (p : α → Bool) (f : α → Vl) : ∀ (xs : List α) (acc : List Vl),
    (∀ x ∈ xs, ∀ P : Bool → Mu → Prop, ∀ R : DK, (p x = true → R (f x) μ) → (p x = false → P false μ) → g (it x) ρ μ fun ρ2 μ2 => dt ρ2 μ2 fun b μ3 => match b with
      | true => de ρ2 μ3 R
      | false => P false μ3) → Q (acc ++ (xs.filter p).map f) μ →
    lcD G g dt de ρ Q (xs.map it) acc μ
  | [], acc, _, q => ⟨hG, by simpa using q⟩
  | x :: xs, acc, h, q => by
    refine ⟨hG, ?_⟩
    refine h x List.mem_cons_self (fun _ μ3 => lcD G g dt de ρ Q (xs.map it) acc μ3) _ (fun e => ?_) (fun e => ?_)
    · refine lc_filter hG it p f xs (acc ++ [f x]) (fun y hy => h y (List.mem_cons_of_mem _ hy)) ?_
      rw [List.filter_cons_of_pos e] at q
      simpa using q
    · refine lc_filter hG it p f xs acc (fun y hy => h y (List.mem_cons_of_mem _ hy)) ?_
      rw [List.filter_cons_of_neg (by rw [e]; exact Bool.false_ne_true)] at q
      exact q

/-! the pen: what the script holds, how far it is read, what is left of a great cell -/
def penM (ns : List Int) (a l : Int) : Mo := .lst [.lst (ns.map .int), .int a, .int l]
def c_draw : Ct := fun xs μ Q => ∃ (k : Nat) (ns : List Int) (a l many : Int), xs = [.ref k, .int many] ∧ μ[k]? = some (penM ns a l) ∧ (0 ≤ a ∧ a ≤ 1000000) ∧ 0 ≤ l ∧ many < 2 ^ 64 ∧
  ∀ d a' l' : Int, 0 ≤ d → (d < many ∨ d = 0) → a ≤ a' → a' ≤ a + 1 → 0 ≤ l' → Q (.int d) (μ.set k (penM ns a' l'))
theorem pure_rt {μ : Mu} {Q : DK} {x : Vl} (b : rfb μ.length x = true) (h : Q x μ) : (pureEnds μ Q).rt x μ := ⟨b, ⟨[], by simp⟩, h⟩
theorem pure_rt' {μ ex : Mu} {Q : DK} {x : Vl} (b : rfb μ.length x = true) (h : Q x μ) : (pureEnds μ Q).rt x (μ ++ ex) := ⟨b, ⟨ex, rfl⟩, h⟩
theorem l_draw : ∀ xs μ Q, c_draw xs μ Q → xs.length = 2 := by
  intro xs μ Q ⟨_, _, _, _, _, e, _⟩
  subst e; rfl
def c_pen : Ct := fun xs μ Q => ∃ ns : List Int, xs = [.frl (ns.map .int)] ∧ ns.length ≤ 63 ∧ Q (.ref μ.length) (μ ++ [penM ns 0 0])
theorem l_pen : ∀ xs μ Q, c_pen xs μ Q → xs.length = 1 := by
  intro xs μ Q ⟨_, e, _⟩
  subst e; rfl
def b_pen : DS :=
    (dRet (dLst (dCons (dCB fList (dCons (dSl (dVar 0) dNoPart (dPart (dC (.int 63)))) dNil)) (dCons (dC (.int 0)) (dCons (dC (.int 0)) dNil)))))
theorem r_pen : ∀ xs μ Q, c_pen xs μ Q → b_pen (spEnds Q) (startD ["script"] xs) μ := by
  intro xs μ Q ⟨ns, e, hn, q⟩
  subst e
  have e : cutD (ns.map Vl.int) none (some 63) = ns.map Vl.int := by
    unfold cutD
    rw [HT.sIx_none, show (63 : Int) = ((63 : Nat) : Int) from rfl, HT.sIx_nat, List.drop_zero, Nat.sub_zero]
    exact List.take_of_length_le (by rw [List.length_map]; omega)
  have hsl := sizeLine_eq
  refine ⟨_, rfl, .inl ?_⟩
  rw [e]
  refine ⟨_, ns.map .int, rfl, rfl, .inl ?_⟩
  exact ⟨by show 3 ≤ _; omega, .inr q⟩
def drawT (cA cB cC cD : Int) : DS :=
    (dSeq (dIf (dAndT (dTest (dOp dLt (dVar 3) (dCB fLen (dCons (dOp dIx (dVar 0) (dC (.int 0))) dNil)))) (dTest (dOp dGe (dCB fAbs (dCons (dVar 4) dNil)) (dOp dPow (dC (.int 10)) (dC (.int 18)))))) (dSeq (dAsg (dOp dAdd (dOp dMul (dC (.int 2)) (dOp (dI0 fun i j => .int (i - j)) (dCB fAbs (dCons (dVar 4) dNil)) (dOp dPow (dC (.int 10)) (dC (.int 18))))) (dCB fInt (dCons (dOp dLt (dVar 4) (dC (.int 0))) dNil))) (dgName 5))
    (dSeq (dAsg (dOp dFdiv (dCB fInt (dCons (dVar 5) dNil)) (dVar 1)) (dgIx (dVar 0) (dC (.int 2))))
    (dRet (dOp dMod (dCB fInt (dCons (dVar 5) dNil)) (dVar 1))))) dNext)
    (dSeq (dAsg (dOp dMod (dCB fInt (dCons (dOp dPow (dOp dAdd (dOp dAdd (dOp dMod (dCB fInt (dCons (dVar 4) dNil)) (dC (.int 2147483549))) (dOp dMul (dC (.int cC)) (dVar 3))) (dC (.int cB))) (dC (.int 3))) dNil)) (dC (.int 2147483629))) (dgName 6))
    (dSeq (dAsg (dOp dMod (dCB fInt (dCons (dOp dPow (dOp dAdd (dOp dAdd (dOp dMul (dVar 6) (dOp dAdd (dOp dMul (dC (.int 2)) (dVar 3)) (dC (.int cD)))) (dOp dMul (dOp dMul (dC (.int cA)) (dVar 3)) (dVar 3))) (dC (.int cC))) (dC (.int 5))) dNil)) (dC (.int 2147483563))) (dgName 6))
    (dRet (dOp dMod (dCB fInt (dCons (dOp dFdiv (dVar 6) (dC (.int 16))) dNil)) (dVar 1))))))
def drawB (cA cB cC cD : Int) : DS :=
    (dSeq (dIf (dTest (dOp dLt (dVar 1) (dC (.int 2)))) (dRet (dC (.int 0))) dNext)
    (dSeq (dIf (dTest (dOp dGt (dOp dIx (dVar 0) (dC (.int 2))) (dC (.int 0)))) (dSeq (dAsg (dOp dMod (dCB fInt (dCons (dOp dIx (dVar 0) (dC (.int 2))) dNil)) (dVar 1)) (dgName 2))
    (dSeq (dAsg (dOp dFdiv (dCB fInt (dCons (dOp dIx (dVar 0) (dC (.int 2))) dNil)) (dVar 1)) (dgIx (dVar 0) (dC (.int 2))))
    (dRet (dVar 2)))) dNext)
    (dSeq (dAsg (dOp dIx (dVar 0) (dC (.int 1))) (dgName 3))
    (dSeq (dAsg (dOp dAdd (dVar 3) (dC (.int 1))) (dgIx (dVar 0) (dC (.int 1))))
    (dSeq (dAsg (dOp dAdd (dOp dMul (dC (.int cA)) (dVar 3)) (dC (.int cB))) (dgName 4))
    (dSeq (dIf (dTest (dOp dNe (dOp dIx (dVar 0) (dC (.int 0))) (dLst dNil))) (dAsg (dOp dIx (dOp dIx (dVar 0) (dC (.int 0))) (dOp dMod (dCB fInt (dCons (dVar 3) dNil)) (dCB fLen (dCons (dOp dIx (dVar 0) (dC (.int 0))) dNil)))) (dgName 4)) dNext)
    (drawT cA cB cC cD)))))))

theorem atI_ints {ns : List Int} {i : Int} (h1 : 0 ≤ i) (h2 : i < (ns.length : Int)) : ∃ x, x ∈ ns ∧ atI (ns.map Vl.int) i = some (.int x) := by
  have hj : i.toNat < ns.length := by omega
  refine ⟨ns[i.toNat], List.getElem_mem hj, ?_⟩
  unfold atI
  unfold ixN
  rw [if_pos h1, List.length_map, if_pos h2]
  simp [hj]
theorem log_lt {i : Int} (h : i.natAbs < 2 ^ 64) : i.natAbs.log2 < 9000 := by
  by_cases hz : i.natAbs = 0
  · rw [hz]; decide
  · have := (Nat.log2_lt hz).mpr h
    omega
theorem set_set {μ : Mu} {k : Nat} {a b : Mo} : (μ.set k a).set k b = μ.set k b := List.set_set _
theorem set_get {μ : Mu} {k : Nat} {a b : Mo} (h : μ[k]? = some a) : (μ.set k b)[k]? = some b := by
  rw [List.getElem?_set_self (List.getElem?_eq_some_iff.mp h).1]
theorem set_same {μ : Mu} {k : Nat} {a : Mo} (h : μ[k]? = some a) : μ.set k a = μ := by
  obtain ⟨h1, h2⟩ := List.getElem?_eq_some_iff.mp h
  rw [← h2]; exact List.set_getElem_self h1
theorem fmod_lo {i m : Int} (h : 0 < m) : 0 ≤ i.fmod m := Int.fmod_nonneg_of_pos _ h
theorem fmod_hi {i m : Int} (h : 0 < m) : i.fmod m < m := Int.fmod_lt_of_pos _ h
theorem r_drawT {cA cB cC cD : Int} (hA : 0 ≤ cA ∧ cA < 1000000) (hB : 0 ≤ cB ∧ cB < 1000000) (hC : 0 ≤ cC ∧ cC < 1000000) (hD : 0 ≤ cD ∧ cD < 1000000) {μ : Mu} {k : Nat} {ns : List Int} {a many cell : Int} {Q : DK} (hk : μ[k]? = some (penM ns (a + 1) 0)) (ha : 0 ≤ a ∧ a ≤ 1000000) (h2 : 2 ≤ many) (hm : many < 2 ^ 64)
    (q : ∀ d l' : Int, 0 ≤ d → d < many → 0 ≤ l' → Q (.int d) (μ.set k (penM ns (a + 1) l'))) : drawT cA cB cC cD (spEnds Q) [some (.ref k), some (.int many), none, some (.int a), some (.int cell), none, none] μ := by
  have hsl := sizeLine_eq
  have vw : sview μ (.ref k) = some [.lst (ns.map .int), .int (a + 1), .int 0] := by
    show (match μ[k]? with
      | some (.lst xs) => some xs
      | _ => none) = _
    rw [hk]; rfl
  refine ⟨_, .lst (ns.map .int), vw, rfl, ?_⟩
  refine ⟨_, ns.map .int, rfl, rfl, ?_⟩
  have rest : (dSeq (dAsg (dOp dMod (dCB fInt (dCons (dOp dPow (dOp dAdd (dOp dAdd (dOp dMod (dCB fInt (dCons (dVar 4) dNil)) (dC (.int 2147483549))) (dOp dMul (dC (.int cC)) (dVar 3))) (dC (.int cB))) (dC (.int 3))) dNil)) (dC (.int 2147483629))) (dgName 6))
    (dSeq (dAsg (dOp dMod (dCB fInt (dCons (dOp dPow (dOp dAdd (dOp dAdd (dOp dMul (dVar 6) (dOp dAdd (dOp dMul (dC (.int 2)) (dVar 3)) (dC (.int cD)))) (dOp dMul (dOp dMul (dC (.int cA)) (dVar 3)) (dVar 3))) (dC (.int cC))) (dC (.int 5))) dNil)) (dC (.int 2147483563))) (dgName 6))
    (dRet (dOp dMod (dCB fInt (dCons (dOp dFdiv (dVar 6) (dC (.int 16))) dNil)) (dVar 1))))) (spEnds Q) [some (.ref k), some (.int many), none, some (.int a), some (.int cell), none, none] μ := by
    have m1 := fmod_lo (i := cell) (m := 2147483549) (by decide)
    have m2 := fmod_hi (i := cell) (m := 2147483549) (by decide)
    have c1 : 0 ≤ cC * a ∧ cC * a ≤ 1000000 * 1000000 := ⟨Int.mul_nonneg hC.1 ha.1, Int.mul_le_mul (by omega) ha.2 ha.1 (by decide)⟩
    refine ⟨by show (2147483549 : Int) ≠ 0; decide, .inl (by omega), ⟨by decide, by decide, by omega⟩, by show (2147483629 : Int) ≠ 0; decide, ?_⟩
    have rest2 : ∀ mx : Int, 0 ≤ mx → mx < 2147483629 → (dSeq (dAsg (dOp dMod (dCB fInt (dCons (dOp dPow (dOp dAdd (dOp dAdd (dOp dMul (dVar 6) (dOp dAdd (dOp dMul (dC (.int 2)) (dVar 3)) (dC (.int cD)))) (dOp dMul (dOp dMul (dC (.int cA)) (dVar 3)) (dVar 3))) (dC (.int cC))) (dC (.int 5))) dNil)) (dC (.int 2147483563))) (dgName 6))
        (dRet (dOp dMod (dCB fInt (dCons (dOp dFdiv (dVar 6) (dC (.int 16))) dNil)) (dVar 1)))) (spEnds Q) [some (.ref k), some (.int many), none, some (.int a), some (.int cell), none, some (.int mx)] μ := by
      intro mx n1 n2
      have c2 : 0 ≤ cA * a ∧ cA * a ≤ 1000000 * 1000000 := ⟨Int.mul_nonneg hA.1 ha.1, Int.mul_le_mul (by omega) ha.2 ha.1 (by decide)⟩
      have c3 : 0 ≤ cA * a * a ∧ cA * a * a ≤ 1000000 * 1000000 * 1000000 := ⟨Int.mul_nonneg c2.1 ha.1, Int.mul_le_mul c2.2 ha.2 ha.1 (by decide)⟩
      have c4 : 0 ≤ mx * (2 * a + cD) ∧ mx * (2 * a + cD) ≤ 2147483629 * 3000000 := ⟨Int.mul_nonneg n1 (by omega), Int.mul_le_mul (by omega) (by omega) (by omega) (by decide)⟩
      refine ⟨.inl (by decide), .inl (by omega), .inl (by omega), .inl (by omega), ⟨by decide, by decide, by omega⟩, by show (2147483563 : Int) ≠ 0; decide, ?_⟩
      refine ⟨⟨by decide, by decide⟩, by omega, ?_⟩
      have := q (((mx * (2 * a + cD) + cA * a * a + cC) ^ Int.toNat 5).fmod 2147483563 |>.fdiv 16 |>.fmod many) 0 (fmod_lo (by omega)) (fmod_hi (by omega)) (by omega)
      rw [set_same hk] at this
      exact this
    exact rest2 _ (fmod_lo (by decide)) (fmod_hi (by decide))
  refine dec_split (p := a < ((ns.map Vl.int).length : Int)) (fun h3 => ?_) (fun h3 => rest)
  refine ⟨⟨by decide, by decide, by decide⟩, ?_⟩
  refine dec_split (p := (10 : Int) ^ (18 : Int).toNat ≤ (if cell < 0 then -cell else cell)) (fun h4 => ?_) (fun h4 => rest)
  refine ⟨⟨by decide, by decide, by decide⟩, .inl (by decide), ?_⟩
  have hg : 0 ≤ 2 * ((if cell < 0 then -cell else cell) - (10 : Int) ^ (18 : Int).toNat) + (if decide (cell < 0) then 1 else 0) := by
    have : (0 : Int) ≤ (if decide (cell < 0) then 1 else 0) := by split <;> omega
    omega
  refine ⟨⟨by omega, log_lt (by omega)⟩, k, 2, _, 2, rfl, rfl, hk, rfl, ?_⟩
  refine ⟨by omega, ?_⟩
  exact q _ _ (fmod_lo (by omega)) (fmod_hi (by omega)) (Int.fdiv_nonneg hg (by omega))
theorem r_draw {cA cB cC cD : Int} (hA : 0 ≤ cA ∧ cA < 1000000) (hB : 0 ≤ cB ∧ cB < 1000000) (hC : 0 ≤ cC ∧ cC < 1000000) (hD : 0 ≤ cD ∧ cD < 1000000) : ∀ xs μ Q, c_draw xs μ Q → drawB cA cB cC cD (spEnds Q) (startD ["pen", "many", "digit", "at", "cell", "great", "mixed"] xs) μ := by
  intro xs μ Q ⟨k, ns, a, l, many, e, hk, ⟨ha, ha6⟩, hl, hm, q⟩
  subst e
  have hsl := sizeLine_eq
  have vw : ∀ {μ : Mu} {a l : Int}, μ[k]? = some (penM ns a l) → sview μ (.ref k) = some [.lst (ns.map .int), .int a, .int l] := by
    intro μ a l hk
    show (match μ[k]? with
      | some (.lst xs) => some xs
      | _ => none) = _
    rw [hk]; rfl
  refine dec_split (p := many < 2) (fun h => ?_) (fun h => ?_)
  · have := q 0 a l (by omega) (.inr rfl) (by omega) (by omega) hl
    rw [set_same hk] at this
    exact this
  refine ⟨_, .int l, vw hk, rfl, ?_⟩
  refine dec_split (p := 0 < l) (fun h2 => ?_) (fun h2 => ?_)
  · refine ⟨_, .int l, vw hk, rfl, by omega, ?_⟩
    refine ⟨_, .int l, vw hk, rfl, ⟨by omega, log_lt (by omega)⟩, ?_⟩
    refine ⟨k, 2, _, 2, rfl, rfl, hk, rfl, ?_⟩
    exact q _ a _ (fmod_lo (by omega)) (.inl (fmod_hi (by omega))) (by omega) (by omega) (Int.fdiv_nonneg (by omega) (by omega))
  have hl0 : l = 0 := by omega
  subst hl0
  refine ⟨_, .int a, vw hk, rfl, ?_⟩
  refine ⟨k, 1, _, 1, rfl, rfl, hk, rfl, ?_⟩
  refine ⟨.inl (by omega), ?_⟩
  have hk1 : (μ.set k (penM ns (a + 1) 0))[k]? = some (penM ns (a + 1) 0) := set_get hk
  have rest : ∀ cell : Int, drawT cA cB cC cD (spEnds Q) [some (.ref k), some (.int many), none, some (.int a), some (.int cell), none, none] (μ.set k (penM ns (a + 1) 0)) := by
    intro cell
    refine r_drawT hA hB hC hD hk1 ⟨ha, ha6⟩ (by omega) hm fun d l' h1 h2 h3 => ?_
    rw [set_set]
    exact q d _ l' h1 (.inl h2) (by omega) (by omega) h3
  refine ⟨_, .lst (ns.map .int), vw hk1, rfl, by show 0 ≤ _; omega, .inl ?_⟩
  refine eq_lstI (s := []) ?_
  refine dec_splitN (p := ns = []) (fun h3 => ?_) (fun h3 => rest _)
  have hn : 0 < ns.length := List.length_pos_iff.mpr h3
  refine ⟨_, .lst (ns.map .int), vw hk1, rfl, _, .lst (ns.map .int), vw hk1, rfl, _, ns.map .int, rfl, rfl, by rw [List.length_map]; omega, ?_⟩
  have lo := fmod_lo (i := a) (m := ((ns.map Vl.int).length : Int)) (by rw [List.length_map]; omega)
  have hi := fmod_hi (i := a) (m := ((ns.map Vl.int).length : Int)) (by rw [List.length_map]; omega)
  rw [List.length_map] at hi lo
  obtain ⟨x, _, hx⟩ := atI_ints lo hi
  exact ⟨ns.map .int, .int x, rfl, by rw [List.length_map]; exact hx, rest _⟩
end DL

/-! DLh: instances of own classes: fields, methods, making; dicts. -/
namespace DL
open PySem PySem.Spec L2 StX PyProof.Rows
/-! ### fields -/
def putD {κ : Type} [DecidableEq κ] (f : κ) (v : Vl) : List (κ × Vl) → List (κ × Vl)
  | [] => [(f, v)]
  | (g, x) :: r => if g = f then (g, v) :: r else (g, x) :: putD f v r
theorem RepF.lookup {K : PySem.W.Frag} {c : Cf} {f : Str} : ∀ {fs : List (Str × Vl)} {vs : List (Str × V)}, RepF K c vs fs → ∀ {x : Vl}, fs.lookup f = some x → ∃ v, vs.lookup f = some v ∧ Rep K c v x
  | [], _, r, _, h => by cases h
  | (g, x') :: fs, _, r, x, h => by
    cases r with
    | cons r1 r2 =>
      rw [List.lookup_cons] at h
      rw [List.lookup_cons]
      cases hg : f == g with
      | true =>
        rw [hg] at h
        have e : x' = x := Option.some.inj h
        subst e
        exact ⟨_, rfl, r1⟩
      | false =>
        rw [hg] at h
        exact RepF.lookup r2 h
theorem RepF.lookup_none {K : PySem.W.Frag} {c : Cf} {f : Str} : ∀ {fs : List (Str × Vl)} {vs : List (Str × V)}, RepF K c vs fs → fs.lookup f = none → vs.lookup f = none
  | [], _, r, h => by cases r; rfl
  | (g, x') :: fs, _, r, h => by
    cases r with
    | cons r1 r2 =>
      rw [List.lookup_cons] at h
      rw [List.lookup_cons]
      cases hg : f == g with
      | true => rw [hg] at h; cases h
      | false =>
        rw [hg] at h
        exact RepF.lookup_none r2 h
theorem RepF.length {K : PySem.W.Frag} {c : Cf} {κ : Type} : ∀ {fs : List (κ × Vl)} {vs : List (κ × V)}, RepF K c vs fs → vs.length = fs.length
  | [], _, r => by cases r; rfl
  | _ :: _, _, r => by
    cases r with
    | cons r1 r2 => exact congrArg (· + 1) (RepF.length r2)
theorem RepF.putF {K : PySem.W.Frag} {c : Cf} {f : Str} {v : V} {x : Vl} (rx : Rep K c v x) : ∀ {fs : List (Str × Vl)} {vs : List (Str × V)}, RepF K c vs fs → RepF K c (L2.putF f v vs) (putD f x fs)
  | [], _, r => by cases r; exact .cons rx .nil
  | (g, x') :: fs, _, r => by
    cases r with
    | cons r1 r2 =>
      unfold L2.putF putD
      by_cases hg : g = f
      · rw [if_pos hg, if_pos hg]; exact .cons rx r2
      · rw [if_neg hg, if_neg hg]; exact .cons r1 (RepF.putF rx r2)
theorem ins_at {K : PySem.W.Frag} {c : Cf} {μ : Mu} {H : Hp} {v : V} {k : Nat} {C : Addr} {fs : List (Str × Vl)} (R : RM K c μ H) (r : Rep K c v (.ref k)) (h : μ[k]? = some (.ins C fs)) : ∃ a dx vs, v = .ref a ∧ c.al[k]? = some a ∧ H a = some (.ins C dx vs) ∧ RepF K c vs fs := by
  obtain ⟨a, e, hk, dx, vs, h1, h2⟩ := ref_at R r h
  exact ⟨a, dx, vs, e, hk, h1, h2⟩
section
variable {X : Cx} {e a b o value i : Expr} {es : List Expr} {te ta tb tv to ti : TE} {t : TA} {d : DA} {de da db dv do_ di : DE} {pos pos' apos : Pos} {C f : Addr} {m n : Str}
def dFld (C : Addr) (n : Str) (do_ : DE) : DE := fun ρ μ Q => do_ ρ μ fun x μ1 => ∃ (k : Nat) (fs : List (Str × Vl)) (v : Vl), x = .ref k ∧ μ1[k]? = some (.ins C fs) ∧ fs.lookup n = some v ∧ Q v μ1
theorem q_fld (hC : Cls X.K C) (hn : NoAttr X.K C n) (ho : QE X o to do_) (hb : attributeBase o n X.env (eval o X.env) = eval o X.env := by rfl) : QE X (.Attribute o n pos) (tFld X.K to n) (dFld C n do_) := by
  refine ⟨pe_fld ho.p hb, fun c ρ μ σ H Q P R S h k => ?_⟩
  refine ho.s c ρ μ σ H _ _ R S h fun c1 x μ1 v H1 E1 R1 r1 q1 => ?_
  obtain ⟨j, fs, x', e1, hj, hl, q⟩ := q1
  subst e1
  obtain ⟨ad, dx, vs, e2, _, h2, rf⟩ := ins_at R1 r1 hj
  obtain ⟨v', h3, rv⟩ := rf.lookup hl
  exact ⟨ad, C, dx, vs, v', e2, h2, hC, hn, h3, k c1 x' μ1 v' H1 E1 R1 rv q⟩
def dgFld (C : Addr) (n : Str) (do_ dv : DE) : DS := fun D ρ μ => dv ρ μ fun y μ1 => do_ ρ μ1 fun x μ2 => ∃ (k : Nat) (fs : List (Str × Vl)), x = .ref k ∧ μ2[k]? = some (.ins C fs) ∧ fs.length < 1000 ∧ D.nx ρ (μ2.set k (.ins C (putD n y fs)))
theorem qs_fld (hC : Cls X.K C) (hn : NoAttr X.K C n) (ho : QE X o to do_) (hv : QE X value tv dv) (hs : swapsWith value (some (.Attribute o n pos')) pos.line X.env = pure false := by rfl) : QS X (.Assign [.Attribute o n pos'] value pos) (sFld X.K to tv n) (dgFld C n do_ dv) := by
  refine ⟨ps_fld ho.p hv.p hs, fun c ρ μ σ H D d R S k h => ?_⟩
  refine hv.s c ρ μ σ H _ _ R S h fun c1 y μ1 v H1 E1 R1 r1 q1 => ?_
  refine ho.s c1 ρ μ1 σ H1 _ _ R1 (S.up E1.toExt0) q1 fun c2 x μ2 v2 H2 E2 R2 r2 q2 => ?_
  obtain ⟨j, fs, e1, hj, hz, q⟩ := q2
  subst e1
  obtain ⟨ad, dx, vs, e2, hk, h2, rf⟩ := ins_at R2 r2 hj
  refine ⟨ad, C, dx, vs, e2, h2, hC, hn, by rw [rf.length]; exact hz, ?_⟩
  exact k.nx c2 ρ _ σ _ (E1.trans E2) (R2.write (m := .ins C (putD n y fs)) hk ⟨dx, _, rfl, rf.putF (r1.up E2.toExt0)⟩) (S.up (E1.trans E2).toExt0) q

/-! ### methods -/
def tMethG (K : PySem.W.Frag) (C : Addr) (m : Str) (Cm : Ct) (ta : TE) (t : TA) : TE := fun σ H Q => ta σ H fun x H1 => ∃ a dx fs, x = .ref a ∧ H1 a = some (.ins C dx fs) ∧ fs.lookup m = none ∧ t σ H1 fun vs H2 => spOf K Cm (x :: vs) H2 Q
def dMeth (C : Addr) (m : Str) (Cm : Ct) (do_ : DE) (d : DA) : DE := fun ρ μ Q => do_ ρ μ fun x μ1 => (∃ (k : Nat) (fs : List (Str × Vl)), x = .ref k ∧ μ1[k]? = some (.ins C fs) ∧ fs.lookup m = none) ∧ d ρ μ1 fun xs μ2 => Cm (x :: xs) μ2 Q
theorem sim_meth {Cm : Ct} {K : PySem.W.Frag} (ho : SimE K to do_) (ha : SimA K t d) : SimE K (tMethG K C m Cm to t) (dMeth C m Cm do_ d) := by
  intro c ρ μ σ H Q P R S h k
  refine ho c ρ μ σ H _ _ R S h fun c1 x μ1 v H1 E1 R1 r1 q1 => ?_
  obtain ⟨⟨j, fs, e1, hj, hl⟩, q1⟩ := q1
  subst e1
  obtain ⟨ad, dx, vs, e2, _, h2, rf⟩ := ins_at R1 r1 hj
  refine ⟨ad, dx, vs, e2, h2, rf.lookup_none hl, ?_⟩
  refine ha c1 ρ μ1 σ H1 _ _ R1 (S.up E1.toExt0) q1 fun c2 xs μ2 ws H2 E2 R2 r2 q2 => ?_
  exact ⟨c2, .ref j :: xs, μ2, Q, R2, .cons (r1.up E2.toExt0) r2, q2, fun c3 z μ3 w H3 E3 => k c3 z μ3 w H3 ((E1.trans E2).trans E3)⟩
theorem q_meth {pl : Sem Bool} {Cm : Ct} {k : Nat} {fd : FuncData} {ps : List Str} (ho : QE X o to do_) (c : Cls X.K C) (hm : Meth X.K C m f) (F : FnG X.prog X.w X.K X.mg X.base k f fd ps Cm) (am : AmbX X.prog X.A X.base) (hr : Room k X.A) (hb : Binds X.K fd ps []) (ha : QA X (e :: es) t d)
    (hst : starEach (e :: es) X.env = (false, eval e X.env) :: starEach es X.env := by rfl) (hpl : (backTo pos (starEach es X.env)).any (·.1) = false := by rfl)
    (ht : eval (.Call (.Attribute o m apos) (e :: es) [] pos) X.env = (do
      let ov ← eval o X.env
      standAt apos.atName
      let (f, first) ← holding [ov] (getMethod ov m pl)
      callWith pos f first (backTo pos (starEach (e :: es) X.env)) (backToKw pos (keywordEach [] X.env))) := by rfl) :
    QE X (.Call (.Attribute o m apos) (e :: es) [] pos) (tMethG X.K C m Cm to t) (dMeth C m Cm do_ d) := by
  refine ⟨⟨fun pins s σ H Q I h => ?_⟩, sim_meth ho.s ha.s⟩
  refine PySem.W.methodCall_KW (pl := pl) (thn (ho.p.run pins s σ H _ I h) fun u s1 ⟨x, H1, I1, rx, a, dx, fs, ex, ea, l, q⟩ => ?_) ht
  subst ex
  obtain rfl : u = Value.ref a := rx
  refine getmeth_ok I1 ea c hm l ?_
  refine PySem.W.callWith_K (first := [.ref a]) (h₀ := X.base) I.ok.mod.kin hm.kp (thn (ha.p.run pos pins s1 σ H1 _ I1 q) fun us s2 ⟨vs, H2, I2, r, q2⟩ => ⟨I2.kIn, ?_⟩) hst hpl
  have hl : ((.ref a :: us) ++ ([] : List Value)).length = ps.length := by
    have := spOf_len F.len q2
    rw [List.append_nil, ← this, List.length_cons, List.length_cons, r.length]
  have z := hb s2 (.ref a :: us) I2.kIn hl
  rw [List.append_nil] at z
  exact run_Gw (us := .ref a :: us) (vs := .ref a :: vs) F am hr I2 z (.cons rfl r) q2
theorem q_meth0 {pl : Sem Bool} {Cm : Ct} {k : Nat} {fd : FuncData} {ps : List Str} (ho : QE X o to do_) (c : Cls X.K C) (hm : Meth X.K C m f) (F : FnG X.prog X.w X.K X.mg X.base k f fd ps Cm) (am : AmbX X.prog X.A X.base) (hr : Room k X.A) (hb : Binds X.K fd ps [])
    (ht : eval (.Call (.Attribute o m apos) [] [] pos) X.env = (do
      let ov ← eval o X.env
      standAt apos.atName
      let (f, first) ← holding [ov] (getMethod ov m pl)
      callWith pos f first (backTo pos (starEach [] X.env)) (backToKw pos (keywordEach [] X.env))) := by rfl) :
    QE X (.Call (.Attribute o m apos) [] [] pos) (tMethG X.K C m Cm to tNil) (dMeth C m Cm do_ dNil) := by
  refine ⟨⟨fun pins s σ H Q I h => ?_⟩, sim_meth ho.s qa_nil.s⟩
  refine PySem.W.methodCall_KW (pl := pl) (thn (ho.p.run pins s σ H _ I h) fun u s1 ⟨x, H1, I1, rx, a, dx, fs, ex, ea, l, q⟩ => ?_) ht
  subst ex
  obtain rfl : u = Value.ref a := rx
  refine getmeth_ok I1 ea c hm l ?_
  have q : spOf X.K Cm [.ref a] H1 Q := q
  have z := hb s1 [.ref a] I1.kIn (spOf_len F.len q)
  rw [List.append_nil] at z
  exact PySem.W.callWith_K0 (first := [.ref a]) I1.kIn hm.kp (run_Gw (us := [.ref a]) (vs := [.ref a]) F am hr I1 z (.cons rfl .nil) q)

/-! ### making -/
theorem RM.junk {K : PySem.W.Frag} {c : Cf} {μ : Mu} {H : Hp} {p : Addr} {o : HO} (R : RM K c μ H) (hp : H p = none) : RM K c μ (upd H p o) := by
  refine ⟨fun a u h => ?_, R.len, R.nod, fun k a m h1 h2 => ?_, fun a u h => ?_, R.fds⟩
  · have := R.sub a u h
    rw [upd_ne (ne_of_none this hp)]; exact this
  · obtain ⟨q1, q2⟩ := R.obj k a m h1 h2
    have hs := q2.some
    have ne : a ≠ p := fun e => by rw [e, hp] at hs; cases hs
    exact ⟨q1, by rw [upd_ne ne]; exact q2⟩
  · have := R.fsb a u h
    rw [upd_ne (ne_of_none this hp)]; exact this
def tMakeG (K : PySem.W.Frag) (C : Addr) (Ci : Ct) (t : TA) : TE := fun σ H Q => t σ H fun vs H1 => ∀ x dx, H1 x = none → H1 dx = none → dx ≠ x →
  spOf K Ci (.ref x :: vs) (upd (upd H1 dx (.own x)) x (.ins C dx [])) (fun v H2 => v = .non ∧ Q (.ref x) H2)
def dMake (C : Addr) (Ci : Ct) (d : DA) : DE := fun ρ μ Q => d ρ μ fun xs μ1 => Ci (.ref μ1.length :: xs) (μ1 ++ [.ins C []]) fun v μ2 => v = .non ∧ Q (.ref μ1.length) μ2
theorem sim_make {Ci : Ct} {K : PySem.W.Frag} (ha : SimA K t d) : SimE K (tMakeG K C Ci t) (dMake C Ci d) := by
  intro c ρ μ σ H Q P R S h k
  refine ha c ρ μ σ H _ _ R S h fun c1 xs μ1 vs H1 E1 R1 r1 q1 => ?_
  intro x dx hx hdx hne
  have R2 := R1.junk (o := .own x) hdx
  have hx2 : (upd H1 dx (.own x)) x = none := by rw [upd_ne (Ne.symm hne)]; exact hx
  obtain ⟨R3, E3⟩ := R2.fresh (o := .ins C dx []) (m := .ins C []) hx2 ⟨dx, [], rfl, .nil⟩
  have hat : (c1.al ++ [x])[μ1.length]? = some x := by rw [← R1.len]; simp
  refine ⟨_, .ref μ1.length :: xs, _, _, R3, .cons (.ref hat) (r1.up E3.toExt0), q1, fun c4 z μ4 w H4 E4 R4 r4 q4 => ?_⟩
  obtain ⟨e, q4⟩ := q4
  subst e
  cases r4
  exact ⟨rfl, k c4 (.ref μ1.length) μ4 (.ref x) H4 ((E1.trans E3).trans E4) R4 (.ref (E4.al _ _ hat)) q4⟩
theorem Amb.under {P : Program} {A : Around} {base : Heap} (a : Amb P A base) (c : Code) (hc : c.guards = []) : Amb P (A.under c) base := by
  refine ⟨?_, a.seer, a.tree⟩
  show pushGuards c.guards A.guards = _
  rw [a.guards, hc]
  rfl
theorem run_makeG {Ci : Ct} {k : Nat} {fd : FuncData} {ps : List Str} {pins : List (Addr × Obj)} {σ : L2.St} {H : Hp} {s : Shared} {Q : VK} {us : List Value} {vs : List V} (M : Mk X.K C f) (F : FnG X.prog X.w X.K X.mg X.base k f fd ps Ci) (am : AmbX X.prog X.A X.base) (hr : Room (k + 1) X.A) (hb : Binds X.K fd ps [])
    (I : L2.Inv X pins σ H s) (r : Vals vs us)
    (h : ∀ x dx, H x = none → H dx = none → dx ≠ x → spOf X.K Ci (.ref x :: vs) (upd (upd H dx (.own x)) x (.ins C dx [])) (fun v H2 => v = .non ∧ Q (.ref x) H2)) :
    wpAny (model X.prog X.w) X.A (call (.ref C) us) (EP X pins σ Q) X.xe s := by
  have hq := h (s.heap.objs.size + 1) s.heap.objs.size (I.hok.fresh (Nat.le_succ _)) (I.hok.fresh (Nat.le_refl _)) (Nat.ne_of_lt (Nat.lt_succ_self _))
  have I2 := Inv.made (C := C) I
  have r2 : Vals (V.ref (s.heap.objs.size + 1) :: vs) (Value.ref (s.heap.objs.size + 1) :: us) := .cons rfl r
  have hl : ((Value.ref (s.heap.objs.size + 1) :: us) ++ ([] : List Value)).length = ps.length := by
    rw [List.append_nil, ← r2.length]; exact spOf_len F.len hq
  have z := hb _ (Value.ref (s.heap.objs.size + 1) :: us) I2.kIn hl
  rw [List.append_nil] at z
  refine wpAny_call (make_map (f := f) I.kIn M.makes M.init (beq_iff_eq.mp M.fn) (codeAny_mono (F.run _ X.stack _ _ ⟨Value.ref (s.heap.objs.size + 1) :: us, []⟩ (Value.ref (s.heap.objs.size + 1) :: us) _ _ (am.toAmb.under _ (by rfl)) (hr.make C us [])
    (I2.env0.make C us []) z r2 hq) fun r s' hq' => ?_))
  cases r with
  | error e => exact hq'.elim
  | ok fl =>
    cases fl with
    | ret u =>
      obtain ⟨v, H', I3, rv, ev, q3⟩ := I2.after hq'
      subst ev
      exact ⟨rv, ⟨V.ref (s.heap.objs.size + 1), H', I3, rfl, q3⟩⟩
    | next => exact hq'.elim
    | brk => exact hq'.elim
    | cont => exact hq'.elim
theorem q_make {Ci : Ct} {k : Nat} {fd : FuncData} {ps : List Str} {x : Str} {p : Pos} (M : Mk X.K C f) (F : FnG X.prog X.w X.K X.mg X.base k f fd ps Ci) (am : AmbX X.prog X.A X.base) (hr : Room (k + 1) X.A) (hm : X.mg x = some (.ref C)) (hb : Binds X.K fd ps []) (ha : QA X (e :: es) t d) (hg : Gl X x := by rfl)
    (hdb : (x == ("__debug__" : Str)) = false := by decide) (he : starEach (e :: es) X.env = (false, eval e X.env) :: starEach es X.env := by rfl) (hpl : (backTo pos (starEach es X.env)).any (·.1) = false := by rfl) :
    QE X (.Call (.Name x p) (e :: es) [] pos) (tMakeG X.K C Ci t) (dMake C Ci d) := by
  refine ⟨⟨fun pins s σ H Q I h => ?_⟩, sim_make ha.s⟩
  refine wpAny_Call_Name_kw (ld_glob I hg hm ?_ hdb)
  refine PySem.W.callWith_K (h₀ := X.base) I.ok.mod.kin M.kp (thn (ha.p.run pos pins s σ H _ I h) fun us s1 ⟨vs, H1, I1, r, q⟩ => ⟨I1.kIn, ?_⟩) he hpl
  exact run_makeG M F am hr hb I1 r q
end
end DL

/-! DLi: dicts with ints and texts as keys; pop; range downwards; gcd; great divisors. -/
namespace DL
open PySem PySem.Spec L2 StX PyProof.Rows
def keyV : Vl → Option Key
  | .int i => some (.inl i)
  | .str x => some (.inr x)
  | _ => none
theorem keyV_rep {K : PySem.W.Frag} {c : Cf} {v : V} {y : Vl} {k : Key} (r : Rep K c v y) (h : keyV y = some k) : v = kV k := by
  cases r <;> first | (cases h; rfl) | cases h
def valD (kvs : List (Key × Vl)) (k : Key) : Option Vl := (kvs.find? fun kv => decide (kv.1 = k)).map (·.2)
def putK' (kvs : List (Key × Vl)) (k : Key) (v : Vl) : List (Key × Vl) :=
  if (kvs.any fun kv => decide (kv.1 = k)) = true then kvs.map (fun kv => if kv.1 = k then (kv.1, v) else kv) else kvs ++ [(k, v)]
theorem RepF.valK {K : PySem.W.Frag} {c : Cf} {k : Key} : ∀ {fs : List (Key × Vl)} {vs : List (Key × V)}, RepF K c vs fs → (∀ x, valD fs k = some x → ∃ v, valV vs k = some v ∧ Rep K c v x) ∧ (valD fs k = none → valV vs k = none)
  | [], _, r => by cases r; exact ⟨fun x h => (by cases h), fun _ => rfl⟩
  | (g, x') :: fs, _, r => by
    cases r with
    | cons r1 r2 =>
      rename_i v' vs'
      obtain ⟨i1, i2⟩ := RepF.valK (k := k) r2
      by_cases hg : g = k
      · subst hg
        have e1 : valD ((g, x') :: fs) g = some x' := by simp [valD, List.find?_cons]
        have e2 : valV ((g, v') :: vs') g = some v' := by simp [valV, List.find?_cons]
        rw [e1, e2]
        exact ⟨fun x h => ⟨v', rfl, by rw [← Option.some.inj h]; exact r1⟩, fun h => (by cases h)⟩
      · have e1 : valD ((g, x') :: fs) k = valD fs k := by simp [valD, List.find?_cons, hg]
        have e2 : valV ((g, v') :: vs') k = valV vs' k := by simp [valV, List.find?_cons, hg]
        rw [e1, e2]
        exact ⟨i1, i2⟩
theorem RepF.any {K : PySem.W.Frag} {c : Cf} {k : Key} : ∀ {fs : List (Key × Vl)} {vs : List (Key × V)}, RepF K c vs fs → (vs.any fun kv => decide (kv.1 = k)) = (fs.any fun kv => decide (kv.1 = k))
  | [], _, r => by cases r; rfl
  | (g, x') :: fs, _, r => by
    cases r with
    | cons r1 r2 => rw [List.any_cons, List.any_cons, RepF.any r2]
theorem RepF.mapP {K : PySem.W.Frag} {c : Cf} {k : Key} {v : V} {x : Vl} (rx : Rep K c v x) : ∀ {fs : List (Key × Vl)} {vs : List (Key × V)}, RepF K c vs fs → RepF K c (vs.map fun kv => if kv.1 = k then (kv.1, v) else kv) (fs.map fun kv => if kv.1 = k then (kv.1, x) else kv)
  | [], _, r => by cases r; exact .nil
  | (g, x') :: fs, _, r => by
    cases r with
    | cons r1 r2 =>
      rw [List.map_cons, List.map_cons]
      by_cases hg : g = k
      · rw [if_pos hg, if_pos hg]; exact .cons rx (RepF.mapP rx r2)
      · rw [if_neg hg, if_neg hg]; exact .cons r1 (RepF.mapP rx r2)
theorem RepF.snoc {K : PySem.W.Frag} {c : Cf} {κ : Type} {k : κ} {v : V} {x : Vl} (rx : Rep K c v x) : ∀ {fs : List (κ × Vl)} {vs : List (κ × V)}, RepF K c vs fs → RepF K c (vs ++ [(k, v)]) (fs ++ [(k, x)])
  | [], _, r => by cases r; exact .cons rx .nil
  | (g, x') :: fs, _, r => by
    cases r with
    | cons r1 r2 => exact .cons r1 (RepF.snoc rx r2)
theorem RepF.putK {K : PySem.W.Frag} {c : Cf} {k : Key} {v : V} {x : Vl} (rx : Rep K c v x) {fs : List (Key × Vl)} {vs : List (Key × V)} (r : RepF K c vs fs) : RepF K c (L2.putK vs k v) (putK' fs k x) := by
  unfold L2.putK putK'
  rw [r.any]
  split
  · exact r.mapP rx
  · exact r.snoc rx
theorem dict_at {K : PySem.W.Frag} {c : Cf} {μ : Mu} {H : Hp} {v : V} {k : Nat} {fs : List (Key × Vl)} (R : RM K c μ H) (r : Rep K c v (.ref k)) (h : μ[k]? = some (.dict fs)) : ∃ a vs, v = .ref a ∧ c.al[k]? = some a ∧ H a = some (.dK vs) ∧ RepF K c vs fs := by
  obtain ⟨a, e, hk, vs, h1, h2⟩ := ref_at R r h
  exact ⟨a, vs, e, hk, h1, h2⟩
section
variable {X : Cx} {e a b o value i tg : Expr} {es : List Expr} {te ta tb tv to ti : TE} {t : TA} {tA : TA} {dA : DA} {d : DA} {de da db dv do_ di : DE} {pos pos' apos cpos p : Pos} {k : Nat}
def dDict0 : DE := fun _ μ Q => Q (.ref μ.length) (μ ++ [.dict []])
theorem q_dnew : QE X (.Dict [] [] pos) tDNewK dDict0 := by
  refine ⟨pe_dnewK, fun c ρ μ σ H Q P R S h k => ?_⟩
  intro p hp
  obtain ⟨R1, E1⟩ := R.fresh (o := .dK []) (m := .dict []) hp ⟨[], rfl, .nil⟩
  exact k _ _ _ _ _ E1 R1 (.ref (by show (c.al ++ [p])[μ.length]? = some p; rw [← R.len]; simp)) h
def dDGet (do_ di : DE) : DE := fun ρ μ Q => do_ ρ μ fun x μ1 => di ρ μ1 fun y μ2 => ∃ (k : Nat) (fs : List (Key × Vl)) (ky : Key) (v : Vl), x = .ref k ∧ μ2[k]? = some (.dict fs) ∧ keyV y = some ky ∧ valD fs ky = some v ∧ Q v μ2
theorem q_dget (hr : Room k X.A) (ho : QE X o to do_) (hi : QE X i ti di) (hs : NoSl i := by intro _ _; rfl) : QE X (.Subscript o i pos) (tDGet to ti) (dDGet do_ di) := by
  refine ⟨pe_dget (by have := hr.units; omega) ho.p hi.p hs, fun c ρ μ σ H Q P R S h kk => ?_⟩
  refine ho.s c ρ μ σ H _ _ R S h fun c1 x μ1 v H1 E1 R1 r1 q1 => ?_
  refine hi.s c1 ρ μ1 σ H1 _ _ R1 (S.up E1.toExt0) q1 fun c2 y μ2 v2 H2 E2 R2 r2 q2 => ?_
  obtain ⟨j, fs, ky, w, e1, hj, hy, hl, q⟩ := q2
  subst e1
  obtain ⟨ad, vs, e2, _, h2, rf⟩ := dict_at R2 (r1.up E2.toExt0) hj
  obtain ⟨w', h3, rw'⟩ := (rf.valK (k := ky)).1 w hl
  refine ⟨ad, w', e2, ?_, kk c2 w μ2 w' H2 (E1.trans E2) R2 rw' q⟩
  rw [keyV_rep r2 hy, ← h3]
  exact DGet.k h2
def dDIn (neg : Bool) (di do_ : DE) : DE := fun ρ μ Q => di ρ μ fun y μ1 => do_ ρ μ1 fun x μ2 => ∃ (k : Nat) (fs : List (Key × Vl)) (ky : Key), x = .ref k ∧ μ2[k]? = some (.dict fs) ∧ keyV y = some ky ∧ Q (.bl ((valD fs ky).isSome != neg)) μ2
theorem valK_some {K : PySem.W.Frag} {c : Cf} {ky : Key} {fs : List (Key × Vl)} {vs : List (Key × V)} (rf : RepF K c vs fs) : (valV vs ky).isSome = (valD fs ky).isSome := by
  obtain ⟨h1, h2⟩ := rf.valK (k := ky)
  cases hx : valD fs ky with
  | none => rw [h2 hx]; rfl
  | some x =>
    obtain ⟨v, e, _⟩ := h1 x hx
    rw [e]; rfl
theorem sim_din {K : PySem.W.Frag} (hi : SimE K ti di) (ho : SimE K to do_) : SimE K (tDIn ti to) (dDIn false di do_) := by
  intro c ρ μ σ H Q P R S h kk
  refine hi c ρ μ σ H _ _ R S h fun c1 y μ1 v H1 E1 R1 r1 q1 => ?_
  refine ho c1 ρ μ1 σ H1 _ _ R1 (S.up E1.toExt0) q1 fun c2 x μ2 v2 H2 E2 R2 r2 q2 => ?_
  obtain ⟨j, fs, ky, e1, hj, hy, q⟩ := q2
  subst e1
  obtain ⟨ad, vs, e2, _, h2, rf⟩ := dict_at R2 r2 hj
  refine ⟨ad, valV vs ky, e2, by rw [keyV_rep r1 hy]; exact DGet.k h2, kk c2 _ μ2 _ H2 (E1.trans E2) R2 (.bl _) ?_⟩
  rw [show ((valD fs ky).isSome != false) = (valV vs ky).isSome from by rw [valK_some rf]; cases (valD fs ky).isSome <;> rfl] at q
  exact q
theorem sim_dnotin {K : PySem.W.Frag} (hi : SimE K ti di) (ho : SimE K to do_) : SimE K (tDNotIn ti to) (dDIn true di do_) := by
  intro c ρ μ σ H Q P R S h kk
  refine hi c ρ μ σ H _ _ R S h fun c1 y μ1 v H1 E1 R1 r1 q1 => ?_
  refine ho c1 ρ μ1 σ H1 _ _ R1 (S.up E1.toExt0) q1 fun c2 x μ2 v2 H2 E2 R2 r2 q2 => ?_
  obtain ⟨j, fs, ky, e1, hj, hy, q⟩ := q2
  subst e1
  obtain ⟨ad, vs, e2, _, h2, rf⟩ := dict_at R2 r2 hj
  refine ⟨ad, valV vs ky, e2, by rw [keyV_rep r1 hy]; exact DGet.k h2, kk c2 _ μ2 _ H2 (E1.trans E2) R2 (.bl _) ?_⟩
  rw [show ((valD fs ky).isSome != true) = !(valV vs ky).isSome from by rw [valK_some rf]; cases (valD fs ky).isSome <;> rfl] at q
  exact q
theorem q_din (hr : Room k X.A) (hi : QE X i ti di) (ho : QE X o to do_) (hm : behindInMarks .In o = false := by rfl) : QE X (.Compare i [.In] [o] pos) (tDIn ti to) (dDIn false di do_) := ⟨pe_cmp (pc_din (by have := hr.units; omega) hi.p ho.p) hm, sim_din hi.s ho.s⟩
theorem q_dnotin (hr : Room k X.A) (hi : QE X i ti di) (ho : QE X o to do_) (hm : behindInMarks .NotIn o = false := by rfl) : QE X (.Compare i [.NotIn] [o] pos) (tDNotIn ti to) (dDIn true di do_) := ⟨pe_cmp (pc_dnotin (by have := hr.units; omega) hi.p ho.p) hm, sim_dnotin hi.s ho.s⟩
theorem qt_din (hr : Room k X.A) (hi : QE X i ti di) (ho : QE X o to do_) (hm : behindInMarks .In o = false := by rfl) : QT X (.Compare i [.In] [o] pos) (tB (tDIn ti to)) (dTest (dDIn false di do_)) := ⟨pt_cmp (pc_din (by have := hr.units; omega) hi.p ho.p) hm, sim_testB (sim_din hi.s ho.s)⟩
theorem qt_dnotin (hr : Room k X.A) (hi : QE X i ti di) (ho : QE X o to do_) (hm : behindInMarks .NotIn o = false := by rfl) : QT X (.Compare i [.NotIn] [o] pos) (tB (tDNotIn ti to)) (dTest (dDIn true di do_)) := ⟨pt_cmp (pc_dnotin (by have := hr.units; omega) hi.p ho.p) hm, sim_testB (sim_dnotin hi.s ho.s)⟩
/-- o[i] = .. of a dict -/
def dgDIx (do_ di : DE) : DG := fun x ρ μ Q => do_ ρ μ fun y μ1 => di ρ μ1 fun i μ2 => ∃ (k : Nat) (fs : List (Key × Vl)) (ky : Key), y = .ref k ∧ keyV i = some ky ∧ μ2[k]? = some (.dict fs) ∧ fs.length < sizeLine ∧ Q ρ (μ2.set k (.dict (putK' fs ky x)))
theorem qg_dix (hr : Room k X.A) (ho : QE X o to do_) (hi : QE X i ti di) (ha : ∀ v, assign (.Subscript o i pos) X.env v = (do
      let ov ← holding [v] (eval o X.env)
      let iv ← holding [v, ov] (eval i X.env)
      standAt pos
      holding [v, ov, iv] (setItem ov iv v)
      release [v, ov, iv] []) := by intro _; rfl) : QG X (.Subscript o i pos) (gSub to ti rSetD) (dgDIx do_ di) := by
  refine ⟨pg_sub ho.p hi.p (set_dict (by have := hr.units; omega)) ha, fun c ρ μ σ H v x Q P R S r h k => ?_⟩
  refine ho.s c ρ μ σ H _ _ R S h fun c1 y μ1 v1 H1 E1 R1 r1 q1 => ?_
  refine hi.s c1 ρ μ1 σ H1 _ _ R1 (S.up E1.toExt0) q1 fun c2 z μ2 v2 H2 E2 R2 r2 q2 => ?_
  obtain ⟨j, fs, ky, e1, hky, hm, hz, q⟩ := q2
  subst e1
  obtain ⟨ad, vs, e3, hk, h2, rf⟩ := dict_at R2 (r1.up E2.toExt0) hm
  subst e3
  have rx := r.up (E1.trans E2).toExt0
  refine ⟨ad, _, rfl, by rw [keyV_rep r2 hky]; exact DPut.k h2 (by rw [rf.length]; exact hz), ?_⟩
  exact k c2 ρ _ σ _ (E1.trans E2) (R2.write (m := .dict (putK' fs ky x)) hk ⟨_, rfl, rf.putK rx⟩) (S.up (E1.trans E2).toExt0) q
end

/-! ### pop at a place -/
section
variable {X : Cx} {e a b o tg : Expr} {t : TA} {d : DA} {to : TE} {do_ : DE} {pos apos cpos p : Pos}
def mPopAt : DM := fun x xs μ Q => ∃ (k : Nat) (ys : List Vl) (i : Nat) (y : Vl), x = .ref k ∧ xs = [.int (i : Int)] ∧ μ[k]? = some (.lst ys) ∧ i < 2 ^ 62 ∧ ys[i]? = some y ∧ Q y (μ.set k (.lst (ys.eraseIdx i)))
theorem Reps.eraseIdx {K : PySem.W.Frag} {c : Cf} : ∀ {xs : List Vl} {vs : List V} (i : Nat), Reps K c vs xs → Reps K c (vs.eraseIdx i) (xs.eraseIdx i)
  | [], _, i, r => by cases r; exact .nil
  | x :: xs, _, 0, r => by
    cases r with
    | cons r1 r2 => exact r2
  | x :: xs, _, i + 1, r => by
    cases r with
    | cons r1 r2 => exact .cons r1 (Reps.eraseIdx i r2)
theorem sim_popAt {K : PySem.W.Frag} : SimM K rPopAt mPopAt := by
  intro c μ H v x vs xs Q P R rx rs h k
  obtain ⟨j, ys, i, y, e1, e2, hm, hi, hy, q⟩ := h
  subst e1; subst e2
  obtain ⟨a, e3, hk, ws, e4, hz4, r4⟩ := ref_at R rx hm
  obtain ⟨u, e5, ru⟩ := reps1 rs
  subst e3; subst e5
  cases ru
  obtain ⟨w, hw, rw'⟩ := r4.get hy
  have hl : i < ws.length := (List.getElem?_eq_some_iff.mp hw).1
  refine ⟨a, ws, (i : Int), i, w, rfl, rfl, e4, by omega, by omega, ?_, hw, ?_⟩
  · have hn : ¬ ((i : Int) < 0) := by omega
    simp [seqIndex?, hn, hl]
  refine k c _ _ _ _ (Ext.refl c) (R.write (m := .lst (ys.eraseIdx i)) hk ⟨_, rfl, ?_, Reps.eraseIdx i r4⟩) rw' q
  exact Nat.le_trans (List.length_eraseIdx_le _ _) hz4
theorem ty_list_pop : typeOf (.builtin "list.pop") = pure (.type "method_descriptor") := by kernel_rfl
theorem q_popAt (ho : QE X o to do_) (ha : QA X [e] t d) (hbase : attributeBase o "pop" X.env (eval o X.env) = eval o X.env := by rfl)
    (hfew : ((backTo cpos (starEach [e] X.env)).all (fun x => !x.1) && (backToKw cpos (keywordEach [] X.env)).all (fun x => x.1.isSome) && decide ([e].length + ([] : List Keyword).length + (if ([] : List Keyword).isEmpty then 0 else 1) < 30)) = true := by rfl)
    (hline : (apos.endLine == cpos.line) = true := by rfl) (hs : starEach [e] X.env = (false, eval e X.env) :: starEach [] X.env := by rfl) (hpl : (backTo cpos (starEach [] X.env)).any (·.1) = false := by rfl) : QE X (.Call (.Attribute o "pop" apos) [e] [] cpos) (tBM X.K "list" rPopAt to t) (dBM mPopAt do_ d) :=
  ⟨pe_bm PySem.F.plainAttrs_list PySem.F.slot_list_pop ty_list_pop mt_popAt ho.p ha.p hbase hfew hline hs hpl, sim_bm sim_popAt ho.s ha.s⟩

/-! ### range(i, j, -1) -/
def downD (lo : Int) (n : Nat) : List Vl := (List.range n).map fun (i : Nat) => Vl.int (lo + (i : Int) * -1)
theorem downD_len {lo : Int} {n : Nat} : (downD lo n).length = n := by simp [downD]
theorem walkD_down {K : PySem.W.Frag} {c : Cf} {lo : Int} {n : Nat} : WalkD K c (Itc lo (-1) n) (downD lo n) fun _ => True := by
  refine ⟨fun _ => True, YFn fun i => .int (lo + (i : Nat) * (-1)), ?_, fun _ _ _ _ _ _ => trivial, fun i H2 v H3 c2 μ2 hi E R2 _ y => ?_⟩
  · rw [downD_len]; exact walk_rangeC
  · rw [downD_len] at hi
    obtain ⟨e, y⟩ := y
    subst e; subst y
    exact ⟨c2, _, Ext.refl c2, R2, by simp [downD, hi], .int _⟩
def dRangeDown (d : DA) : DI := fun ρ μ Q => d ρ μ fun xs μ1 => ∃ i j : Int, xs = [.int i, .int j, .int (-1)] ∧ (-(2 ^ 62) ≤ i ∧ i < 2 ^ 62 ∧ -(2 ^ 62) ≤ j ∧ j < 2 ^ 62) ∧ i - j ≤ 16777216 ∧ Q (downD i (i - j).toNat) (fun _ => True) μ1
theorem qi_rangeDown {c : Expr} (hm : X.mg "range" = none) (ha : QA X [a, b, c] t d) (hg : Gl X "range" := by rfl) (hs : starEach [a, b, c] X.env = (false, eval a X.env) :: starEach [b, c] X.env := by rfl) (hpl : (backTo pos (starEach [b, c] X.env)).any (·.1) = false := by rfl) :
    QI X tg (.Call (.Name "range" p) [a, b, c] [] pos) (iRng3 t) (dRangeDown d) := by
  refine ⟨pi_range3 hg hm ha.p hs hpl, fun c ρ μ σ H Q P R S h k => ?_⟩
  refine ha.s c ρ μ σ H _ _ R S h fun c1 xs μ1 vs H1 E1 R1 r1 q1 => ?_
  obtain ⟨i, j, e, ⟨b1, b2, b3, b4⟩, h2, q⟩ := q1
  subst e
  cases r1 with
  | cons r1 r2 =>
    cases r2 with
    | cons r2 r3 =>
      obtain ⟨v, e, rv⟩ := reps1 r3
      subst e
      cases rv; cases r2; cases r1
      exact ⟨i, j, -1, _, rfl, RgC.neg b1 b2 b3 b4, k c1 _ _ μ1 _ H1 E1 R1 (by rw [downD_len, sizeLine_eq]; omega) walkD_down q⟩

/-! ### gcd, imported from math -/
def fGcd : DC := fun xs μ Q => match xs with
  | [.int a, .int b] => Q (.int ((Nat.gcd a.natAbs b.natAbs : Nat) : Int)) μ
  | _ => False
theorem sim_gcd {K : PySem.W.Frag} : SimC K rGcd fGcd := by
  intro c μ H vs xs Q P R r h k
  unfold fGcd at h
  split at h
  · cases r with
    | cons r1 r2 =>
      obtain ⟨v, e, rv⟩ := reps1 r2
      subst e
      cases rv; cases r1
      exact ⟨_, _, rfl, k c _ μ _ H (Ext.refl c) R (.int _) h⟩
  · exact h.elim
theorem q_gcd {x : Str} {es : List Expr} (hm : X.mg x = some (.builtin "math.gcd")) (ha : QA X (e :: es) t d) (hg : Gl X x := by rfl) (hdb : (x == ("__debug__" : Str)) = false := by decide)
    (he : starEach (e :: es) X.env = (false, eval e X.env) :: starEach es X.env := by rfl) (hpl : (backTo pos (starEach es X.env)).any (·.1) = false := by rfl) : QE X (.Call (.Name x p) (e :: es) [] pos) (tCB rGcd t) (dCB fGcd d) := by
  refine ⟨pe_callBfun cr_gcd hg hm ha.p hdb he hpl, fun c ρ μ σ H Q P R S h k => ?_⟩
  refine ha.s c ρ μ σ H _ _ R S h fun c1 xs μ1 vs H1 E1 R1 r1 q1 => ?_
  exact sim_gcd c1 μ1 H1 vs xs Q P R1 r1 q1 fun c2 z μ2 v H2 E2 => k c2 z μ2 v H2 (E1.trans E2)
end
end DL

/-! DLk: set(xs) of a list of ints, kept as a set that may be sorted. -/
namespace L2
open PySem PySem.Spec PyProof.Rows
section
variable {P : Program} {w : World} {A : Around} {E : Value → Shared → Prop} {s : Shared}
/-- a set without members -/
abbrev bareS (w : World) : Obj := { cls := .type "set", dict := none, data := .set #[] 0 (.fresh 0 0 (!w.params.followText "set-order")) }
/-- what is there behind set(xs) -/
abbrev Filled (w : World) (s : Shared) (ns : List Int) (h' : Heap) (c : Nat) : Prop := SetR w h' s.heap.objs.size (fun j => decide (j ∈ ns)) c ∧ c ≤ ns.length ∧ ∀ b o, s.heap.get? b = some o → h'.get? b = some o
theorem old_two {s : Shared} {w : World} {b : Addr} (hb : b < s.heap.objs.size) : b ≠ s.heap.objs.size ∧ b ≠ (s.heap.push (bareS w)).objs.size := by
  exact ⟨Nat.ne_of_lt hb, by rw [Heap.size_push]; exact Nat.ne_of_lt (Nat.lt_succ_of_lt hb)⟩
set_option maxHeartbeats 3200000 in
theorem set_of_list {l : Addr} {items : Array Value} {ns : List Int} {Q : Value → Shared → Prop} (hh : A.handled = none) (hl : s.heap.IsList l items) (hit : IntsAre items.toList ns) (hb : ns.length + 1 < scanBound)
    (h : ∀ (h' : Heap) (tk c : Nat), Filled w s ns h' c → Q (.ref s.heap.objs.size) { s with heap := h', toks := tk }) : wpAny (model P w) A (call (.type "set") [.ref l]) Q E s := by
  have hsz : items.size = ns.length := by
    have := hit.length
    simpa using this
  have ⟨_, _, hmro⟩ := F.called_set.mro
  have hmade := F.called_set.made
  have hsub := F.called_set.sub
  have k1 := F.called_set.notType
  have k2 := F.called_set.canCreate
  have k3 := F.typeCall_set_1 (.ref l)
  refine wpAny_call (codeAny_of_tree ?_)
  show wpAny _ _ (callAny (.type "set") _) _ _ _
  refine wpAny_pure ⟨Code.quiet_builtin _ (by decide +kernel), codeAny_builtin F.entry_type_call ?_⟩
  rw [Around.under_plain (weight_type_call_type "set" [.ref l] []) rfl]
  repeat (any_goals (first | assumption | wp_step))
  refine codeAny_mono (code_set_led1 (.ref l) (E := E) (Q₁ := fun obj s₁ => obj = .ref s.heap.objs.size ∧ s₁ = { s with heap := s.heap.push (bareS w) }) ⟨rfl, rfl⟩) fun r s₁ hr => ?_
  cases r with
  | error e => exact hr
  | ok fl =>
    cases fl with
    | ret obj =>
      obtain ⟨e1, e2⟩ := hr
      subst e1; subst e2
      have hS : (s.heap.push (bareS w)).get? s.heap.objs.size = some (bareS w) := Heap.get?_push_size _ rfl
      have hT : Shared.TypeIs { s with heap := s.heap.push (bareS w) } (.ref s.heap.objs.size) "set" := ⟨_, hS, rfl⟩
      have i1 := F.called_set.init.lookup
      have i2 := F.called_set.init.bind (.ref s.heap.objs.size)
      repeat (any_goals (first | assumption | wp_step))
      refine codeAny_mono (codeAny_call_builtin (R := wants (fun r s₂ => r = .none ∧ ∃ h' tk c, s₂ = { s with heap := h', toks := tk } ∧ Filled w s ns h' c) E) F.called_set.init.plain F.entry_set_init (check_set_init_1 hT ?_)) fun r₂ s₂ hr₂ => ?_
      · obtain ⟨⟨ocls, odict, odata, oslots⟩, hol, hcl, nl, hdl⟩ := hl
        simp only at hcl hdl
        subst hcl; subst hdl
        have hol' : (s.heap.push (bareS w)).get? l = some { cls := .type "list", dict := odict, data := .seq items nl, slots := oslots } := Heap.get?_push_of_some _ hol
        have j1 := F.sub_list_set
        have j2 := F.sub_list_frozenset
        have j3 : (Value.type "list" == Value.type "dict") = false := by decide
        have hl1 : (s.heap.push (bareS w)).IsList l items := ⟨_, hol', rfl, nl, rfl⟩
        have hlS : l < s.heap.objs.size := Heap.lt_size hol
        have ⟨n1, n2⟩ := old_two (w := w) hlS
        unfold Builtin.«set.__init__» noKeywords Builtin.Frozenset.updateFrom
        generalize hPI : pyIter = PI
        wp_walk
        subst hPI
        refine wpAny_pyIter_list hl1 ?_
        refine wpAny_bind (wpAny_runValue ?_)
        have hh3 : A.in1.in1.in1.handled = none := by simp [hh]
        have far : s.heap.objs.size ∉ [(s.heap.push (bareS w)).objs.size, l] := by
          intro hm
          rcases List.mem_cons.mp hm with z | z
          · rw [Heap.size_push] at z; omega
          · exact Nat.ne_of_gt hlS (List.mem_singleton.mp z)
        have vals : ∀ (i : Nat) (v : Value), items[i]? = some v → ∃ k t, ns[i]? = some k ∧ v = .int k t := fun i v hv => by
          have hi : i < ns.length := by rw [← hsz]; exact (Array.getElem?_eq_some_iff.mp hv).1
          obtain ⟨t, e⟩ := PyProof.Rows.IntsAre.int_at hit i v (by rw [Array.getElem?_toList]; exact hv)
          refine ⟨ns[i], t, List.getElem?_eq_getElem hi, ?_⟩
          rw [e, List.getD_eq_getElem?_getD, List.getElem?_eq_getElem hi]
          all_goals rfl
        refine set_update_ints ((Walks.list hh3 _ l n2 items).toS) s.heap.objs.size far ns hsz hb vals (items.size - 0) 0 _ (by omega) (Nat.zero_le _) ⟨⟨_, Heap.get?_push_size _ rfl, rfl, rfl⟩, (hl1.push _)⟩ ⟨0, Nat.le_refl 0, setR_new_at (Heap.get?_push_of_some _ hS)⟩ ?_
        intro s' c' hm hc' hS'
        obtain ⟨h', g2, d', tk', os'⟩ := s'
        have eg : g2 = s.gens := hm.gens
        have ed : d' = s.drawn := hm.drawn
        have eo : os' = s.os := hm.os
        subst eg; subst ed; subst eo
        show wpAny _ _ _ _ _ _
        refine wpAny_pure ?_
        show wpAny _ _ (ret Value.none) _ _ _
        rw [hsz] at hc'
        refine wpAny_pure ⟨rfl, h', tk', c', rfl, hS', hc', fun b o e => ?_⟩
        have ⟨m1, m2⟩ := old_two (w := w) (Heap.lt_size e)
        refine hm.heap b o (fun hm2 => ?_) (Heap.get?_push_of_some _ (Heap.get?_push_of_some _ e))
        rcases List.mem_cons.mp hm2 with z | z
        · exact m1 z
        · exact m2 (List.mem_singleton.mp z)
      · cases r₂ with
        | error e => exact hr₂
        | ok fl₂ =>
          cases fl₂ with
          | ret r =>
            obtain ⟨e1, h', tk, c', e2, hF⟩ := hr₂
            subst e1; subst e2
            repeat (any_goals (first | assumption | wp_step))
            exact h _ _ _ hF
          | _ => exact hr₂.elim
    | _ => exact hr.elim
end
section
variable {X : Cx}
def rSetI (K : PySem.W.Frag) (w : World) : List V → Hp → VK → Prop := fun vs H Q => ∃ (l : Addr) (ns : List Int), vs = [.ref l] ∧ SqL K H l (ns.map V.int) ∧ ns.length < 64 ∧ ∀ p c, H p = none → c ≤ ns.length → Q (.ref p) (upd H p (SetO w p (fun j => decide (j ∈ ns)) c))
theorem cr_setI (hc : X.calm = true) : CallR X (.type "set") (rSetI X.K X.w) := by
  intro pins s σ H vs us Q I r h
  obtain ⟨l, ns, e, hs, h64, q⟩ := h
  subst e
  obtain ⟨its, rv, pl, _⟩ := I.list hs
  rw [Vals.ref1 r]
  have hi := rv.ints
  refine set_of_list (ns := ns) (I.ok.hd hc) pl.isList (by simpa using hi) (by unfold scanBound; omega) fun h' tk c ⟨hS, hcn, hk⟩ => ?_
  exact ⟨.ref _, upd H s.heap.objs.size (SetO X.w s.heap.objs.size (fun j => decide (j ∈ ns)) c), I.laid (t' := tk) hk (Nat.le_refl _) (setO_new hS), rfl, q _ c (I.hok.fresh (Nat.le_refl _)) hcn⟩
end
end L2

/-! DLs: sum(xs, []) of a list of lists. -/
namespace PySem
open Sem (wp)
section
variable {prog : Program} {w : World} {A : Around} {R : Result → Shared → Prop} {I : Addr} {fp wr : List Addr} {n : Nat} {Pv : Nat → Value → Prop} {St : Nat → Heap → Prop}
/-- all from place i on, joined -/
def joinFrom (its : Nat → List Value) (i k : Nat) : List Value := ((List.range' i k).map its).flatten
theorem joinFrom_succ {its : Nat → List Value} {i k : Nat} : joinFrom its i (k + 1) = its i ++ joinFrom its (i + 1) k := by
  unfold joinFrom
  rw [List.range'_succ, List.map_cons, List.flatten_cons]
theorem lists_loop (W : Walks prog w A.in1 I fp wr n Pv St) (S : Addr) (hSf : S ∉ fp) (its : Nat → List Value) (ad : Nat → Addr) (hval : ∀ i v, Pv i v → v = .ref (ad i)) : ∀ (k i : Nat) (s : Shared) (t : Addr) (acc : List Value) (nt c : Nat), n - i = k → i ≤ n → St i s.heap →
    s.heap.get? S = some { cls := .type "list", dict := none, data := .seq #[.ref t] c, slots := #[] } → IsL s.heap t acc.toArray nt → t ∉ S :: wr →
    (∀ j, i ≤ j → j < n → ad j ∉ S :: wr ∧ ∃ m, IsL s.heap (ad j) (its j).toArray m) → acc.length + (joinFrom its i k).length ≤ sizeLine → (∀ b ∈ wr, b < s.heap.objs.size) → (∃ top o, top ∉ wr ∧ s.heap.get? top = some o ∧ s.heap.objs.size ≤ top + 1) →
    (∀ h' tk t' nt', (t' = t ∧ k = 0 ∨ s.heap.objs.size ≤ t') → IsL h' t' (acc ++ joinFrom its i k).toArray nt' → (∀ b o, b ∉ S :: wr → s.heap.get? b = some o → h'.get? b = some o) → R (.ok (.ret (.ref t'))) { s with heap := h', toks := tk }) →
    codeAny (model prog w) A (.builtin "sum.loop" ⟨[.ref I, .ref S, rawInt 2, rawInt 0], []⟩) R s := by
  have hSw : S ∉ wr := fun h => hSf (W.sub _ h)
  intro k
  induction k with
  | zero =>
    intro i s t acc nt c hk hi hst hS ht htn hl hsz hwr htop hR
    have hin : i = n := by omega
    subst hin
    refine codeAny_builtin F.entry_sum_loop ?_
    rw [Around.under_plainId F.plain_sum_loop _]
    show wpAny _ A.in1 (seqItems? (.ref S) >>= _) _ _ s
    refine wpAny_bind (wpAny_seqItems hS rfl ?_)
    show wpAny _ A.in1 (tryCatch (pyNext (.ref I)) _ >>= _) _ _ s
    refine wpAny_bind (wpAny_tryCatch (W.done s _ _ hst fun h' tk hk' => ?_))
    refine wpAny_pure (hR h' tk t nt (.inl ⟨rfl, rfl⟩) ?_ fun b o hb e => hk' b o (fun z => hb (List.mem_cons_of_mem _ z)) e)
    have e : acc ++ joinFrom its i 0 = acc := by simp [joinFrom]
    rw [e]
    exact hk' t _ (fun z => htn (List.mem_cons_of_mem _ z)) ht
  | succ k ih =>
    intro i s t acc nt c hk hi hst hS ht htn hl hsz hwr htop hR
    have hlt : i < n := by omega
    obtain ⟨hai, m, hm⟩ := hl i (Nat.le_refl i) hlt
    rw [joinFrom_succ, List.length_append] at hsz
    refine codeAny_builtin F.entry_sum_loop ?_
    rw [Around.under_plainId F.plain_sum_loop _]
    show wpAny _ A.in1 (seqItems? (.ref S) >>= _) _ _ s
    refine wpAny_bind (wpAny_seqItems hS rfl ?_)
    show wpAny _ A.in1 (tryCatch (pyNext (.ref I)) _ >>= _) _ _ s
    refine wpAny_bind (wpAny_tryCatch (W.item i s _ _ hlt hst fun v h' tk hP hst' hk' => ?_))
    have ev := hval i v hP
    subst ev
    have hS' := hk' S _ hSw hS
    have ht' : IsL h' t acc.toArray nt := hk' t _ (fun z => htn (List.mem_cons_of_mem _ z)) ht
    have hm' : IsL h' (ad i) (its i).toArray m := hk' _ _ (fun z => hai (List.mem_cons_of_mem _ z)) hm
    have hsz' : s.heap.objs.size ≤ h'.objs.size ∨ True := .inr trivial
    show wpAny _ A.in1 ((holding [Value.ref (ad i)] (binaryOp .Add (.ref t) (.ref (ad i)))).attempt >>= _) _ _ _
    refine wpAny_bind (wpAny_attempt (wpAny_holding (PySem.P.add_list ht' hm' ?_ (by rw [List.size_toArray, List.size_toArray]; omega))))
    show wpAny _ A.in1 (updateSeq S (fun _ => #[.ref h'.objs.size]) >>= _) _ _ _
    refine wpAny_bind ?_
    have hSp : (h'.push { cls := .type "list", data := .seq (acc.toArray ++ (its i).toArray) }).get? S = some { cls := .type "list", dict := none, data := .seq #[.ref t] c, slots := #[] } := Heap.get?_push_of_some _ hS'
    refine wpAny_updateSeq hSp rfl ?_
    have hS2 := Heap.get?_update_self (Obj.mapSeq fun _ => #[Value.ref h'.objs.size]) hSp rfl
    refine wpAny_bind (wpAny_letGo ?_)
    refine wpAny_bind ?_
    refine wpAny_updateSeq hS2 rfl (wpAny_pure ⟨plainId_quiet F.plain_sum_loop _, ?_⟩)
    obtain ⟨top, oT, hT1, hT2, hT3⟩ := htop
    have hgr : s.heap.objs.size ≤ h'.objs.size := by
      exact Nat.le_trans hT3 (Nat.succ_le_of_lt (Heap.lt_size (hk' top oT hT1 hT2)))
    have hSl : S < h'.objs.size := Heap.lt_size hS'
    have hne : S ≠ h'.objs.size := Nat.ne_of_lt hSl
    have hfar : ∀ (f g : Obj → Obj) b o, b ≠ S → h'.get? b = some o → (((h'.push { cls := .type "list", data := .seq (acc.toArray ++ (its i).toArray) }).update S f).update S g).get? b = some o := fun f g b o hb e =>
      (Heap.get?_update_other _ _ (Ne.symm hb)).trans ((Heap.get?_update_other _ _ (Ne.symm hb)).trans (Heap.get?_push_of_some _ e))
    have hsize : ∀ (f g : Obj → Obj), (((h'.push { cls := .type "list", data := .seq (acc.toArray ++ (its i).toArray) }).update S f).update S g).objs.size = h'.objs.size + 1 := fun f g => by
      rw [Heap.size_after_update, Heap.size_after_update, Heap.size_push]
    have hnew : ∀ (f g : Obj → Obj), IsL (((h'.push { cls := .type "list", data := .seq (acc.toArray ++ (its i).toArray) }).update S f).update S g) h'.objs.size (acc ++ its i).toArray 0 := fun f g => by
      have := ((IsL.new h' (acc.toArray ++ (its i).toArray)).update_other hne f).update_other hne g
      simpa using this
    have hnw : h'.objs.size ∉ S :: wr := fun z => by
      rcases List.mem_cons.mp z with z | z
      · exact hne z.symm
      · exact Nat.lt_irrefl _ (Nat.lt_of_lt_of_le (hwr _ z) hgr)
    refine ih (i + 1) _ h'.objs.size (acc ++ its i) 0 _ (by omega) hlt (W.frame _ _ _ hst' fun b hb o e => hfar _ _ b o (fun z => hSf (by rw [← z]; exact hb)) e) (Heap.get?_update_self _ hS2 rfl) (hnew _ _) hnw
      (fun j hj hjn => ⟨(hl j (by omega) hjn).1, ?_⟩) (by rw [List.length_append]; omega) (fun b hb => ?_) ⟨h'.objs.size, _, fun z => hnw (List.mem_cons_of_mem _ z), hnew _ _, by rw [hsize]; exact Nat.le_refl _⟩ fun h'' tk'' t'' nt'' ht'' hI'' hk'' => ?_
    · obtain ⟨hn1, m', hm1⟩ := hl j (by omega) hjn
      exact ⟨m', hfar _ _ _ _ (fun z => hn1 (by rw [z]; exact List.mem_cons_self)) (hk' _ _ (fun z => hn1 (List.mem_cons_of_mem _ z)) hm1)⟩
    · rw [hsize]
      exact Nat.lt_of_lt_of_le (hwr b hb) (Nat.le_succ_of_le hgr)
    · refine hR h'' tk'' t'' nt'' (.inr ?_) ?_ fun b o hb e => hk'' b o hb (hfar _ _ b o (fun z => hb (by rw [z]; exact List.mem_cons_self)) (hk' b o (fun z => hb (List.mem_cons_of_mem _ z)) e))
      · rcases ht'' with ⟨z, _⟩ | z
        · rw [z]; exact hgr
        · rw [hsize] at z
          exact Nat.le_trans hgr (Nat.le_trans (Nat.le_succ _) z)
      · rw [joinFrom_succ, ← List.append_assoc]
        exact hI''
end
section
variable {prog : Program} {w : World} {A : Around} {E : Value → Shared → Prop} {s : Shared}
theorem args_sum2 (a b : Value) : argsOk "sum" ⟨[a, b], []⟩ := by unfold argsOk; kernel_rfl
theorem sum_of_lists {x t0 : Addr} {items : Array Value} {nt : Nat} {Q : Value → Shared → Prop} (hh : A.handled = none) (hx : s.heap.IsList x items) (ht : IsL s.heap t0 #[] nt) (its : Nat → List Value) (ad : Nat → Addr)
    (hit : ∀ j, j < items.size → items[j]? = some (.ref (ad j)) ∧ ∃ m, IsL s.heap (ad j) (its j).toArray m) (hsz : (joinFrom its 0 items.size).length ≤ sizeLine)
    (h : ∀ h' tk t' nt', (t' = t0 ∧ items.size = 0 ∨ s.heap.objs.size ≤ t') → IsL h' t' (joinFrom its 0 items.size).toArray nt' → (∀ b o, s.heap.get? b = some o → h'.get? b = some o) → Q (.ref t') { s with heap := h', toks := tk }) :
    wpAny (model prog w) A (call (.builtin "sum") [.ref x, .ref t0]) Q E s := by
  refine call_function_tree F.kind_sum F.plain_sum F.entry_sum (args_sum2 _ _) ?_
  unfold Builtin.«sum»
  simp only [List.length_cons, List.length_nil]
  rw [if_neg (by decide)]
  refine wpAny_bind (wpAny_of_eq (show Builtin.Builtins.bindParams "sum" ["start"] 0 ⟨[.ref t0], []⟩ = pure [some (.ref t0)] from rfl) ?_)
  refine wpAny_bind (wpAny_pyIter_list hx ?_)
  have hxl : x < s.heap.objs.size := by
    obtain ⟨o, ho, _⟩ := hx
    exact Heap.lt_size ho
  refine wpAny_bind (wpAny_pure ?_)
  simp only [List.forIn_cons, List.forIn_nil]
  refine wpAny_bind (wpAny_bind (wpAny_bind (wpAny_isInstance (T := "list") (b := false) ⟨_, Heap.get?_push_of_some _ ht, rfl⟩ F.sub_list_str ?_)))
  simp only [Bool.false_eq_true, if_false]
  refine wpAny_pure (wpAny_bind (wpAny_bind (wpAny_isInstance (T := "list") (b := false) ⟨_, Heap.get?_push_of_some _ ht, rfl⟩ F.sub_list_bytes ?_)))
  simp only [Bool.false_eq_true, if_false]
  refine wpAny_pure (wpAny_bind (wpAny_bind (wpAny_isInstance (T := "list") (b := false) ⟨_, Heap.get?_push_of_some _ ht, rfl⟩ F.sub_list_bytearray ?_)))
  simp only [Bool.false_eq_true, if_false]
  refine wpAny_pure (wpAny_pure ?_)
  refine wpAny_bind (wpAny_newObj_type ?_)
  have hne : x ≠ s.heap.objs.size := Nat.ne_of_lt hxl
  have W := Walks.list (prog := prog) (w := w) (A := A.in1) (by simp [hh]) s.heap.objs.size x hne items
  have hst : (s.heap.push { cls := .type "list_iterator", data := .fields #[.ref x, .int 0 0] }).IsListIter s.heap.objs.size x 0 ∧ (s.heap.push { cls := .type "list_iterator", data := .fields #[.ref x, .int 0 0] }).IsList x items := ⟨⟨_, Heap.get?_push_size _ rfl, rfl, rfl⟩, hx.push _⟩
  have two : ∀ (h0 : Heap) (o : Obj), (h0.push o).objs.size = h0.objs.size + 1 := fun h0 o => Heap.size_push h0 o
  have hSf : (s.heap.push { cls := .type "list_iterator", data := .fields #[.ref x, .int 0 0] }).objs.size ∉ [s.heap.objs.size, x] := by
    intro hm
    rw [two] at hm
    rcases List.mem_cons.mp hm with z | z
    · exact Nat.succ_ne_self _ z
    · have z2 := List.mem_singleton.mp z
      exact Nat.lt_irrefl _ (Nat.lt_trans (Nat.lt_succ_self _) (z2.symm ▸ hxl))
  have old : ∀ b o, s.heap.get? b = some o → b ∉ (s.heap.push { cls := .type "list_iterator", data := .fields #[.ref x, .int 0 0] }).objs.size :: [s.heap.objs.size] := fun b o e hm => by
    have hb := Heap.lt_size e
    rw [two] at hm
    rcases List.mem_cons.mp hm with z | z
    · exact Nat.lt_irrefl _ (Nat.lt_trans (Nat.lt_succ_self _) (z ▸ hb))
    · have z2 := List.mem_singleton.mp z
      exact Nat.lt_irrefl _ (z2 ▸ hb)
  have up : ∀ (o1 o2 : Obj) b o, s.heap.get? b = some o → ((s.heap.push o1).push o2).get? b = some o := fun o1 o2 b o e => Heap.get?_push_of_some _ (Heap.get?_push_of_some _ e)
  refine wpAny_pure ⟨plainId_quiet F.plain_sum_loop _, lists_loop W _ hSf its ad (fun i v hv => ?_) items.size 0 _ t0 [] nt 0 (by omega) (Nat.zero_le _) (W.frame _ _ _ hst fun b _ o e => Heap.get?_push_of_some _ e) (Heap.get?_push_size _ rfl) (up _ _ _ _ ht) (old _ _ ht)
    (fun j _ hj => ?_) (by simpa using hsz) (fun b hb => ?_) ⟨(s.heap.push { cls := .type "list_iterator", data := .fields #[.ref x, .int 0 0] }).objs.size, _, fun hm => hSf (W.sub _ hm), Heap.get?_push_size _ rfl, ?_⟩ fun h' tk t' nt' h1 h2 h3 => ?_⟩
  · have hi : i < items.size := (Array.getElem?_eq_some_iff.mp hv).1
    have := (hit i hi).1
    rw [hv] at this
    exact Option.some.inj this
  · obtain ⟨m, hm⟩ := (hit j hj).2
    exact ⟨old _ _ hm, m, up _ _ _ _ hm⟩
  · rw [List.mem_singleton.mp hb]
    rw [two, two]
    exact Nat.lt_trans (Nat.lt_succ_self _) (Nat.lt_succ_self _)
  · rw [two]
    exact Nat.le_refl _
  · refine h h' tk t' nt' ?_ (by simpa using h2) fun b o e => h3 b o (old b o e) (up _ _ b o e)
    rcases h1 with ⟨z1, z2⟩ | z
    · exact .inl ⟨z1, z2⟩
    · refine .inr ?_
      rw [two, two] at z
      exact Nat.le_trans (Nat.le_trans (Nat.le_succ _) (Nat.le_succ _)) z
end
end PySem

/-! DLt: sum(lists, []) as a rule. -/
namespace DL
open PySem PySem.Spec L2 StX PyProof.Rows
section
variable {X : Cx} {t : TA} {d : DA} {pos : Pos}
def rSumLL (K : PySem.W.Frag) : List V → Hp → VK → Prop := fun vs H Q => ∃ (l e0 : Addr) (ad : List Addr) (zs : List (List V)), vs = [.ref l, .ref e0] ∧ SqL K H l (ad.map .ref) ∧ H e0 = some (.lst []) ∧ ad.length = zs.length ∧
  (∀ (j : Nat) a z, ad[j]? = some a → zs[j]? = some z → H a = some (.lst z)) ∧ zs.flatten.length ≤ sizeLine ∧ (ad = [] → Q (.ref e0) H) ∧ ∀ p, H p = none → Q (.ref p) (upd H p (.lst zs.flatten))
theorem vals_join : ∀ (zs : List (List V)) (its : Nat → List Value) (i : Nat), (∀ (j : Nat) z, zs[j]? = some z → Vals z (its (i + j))) → Vals zs.flatten (PySem.joinFrom its i zs.length)
  | [], its, i, h => .nil
  | z :: zs, its, i, h => by
    rw [List.length_cons, PySem.joinFrom_succ, List.flatten_cons]
    refine Vals.append (h 0 z rfl) (vals_join zs its (i + 1) fun j w e => ?_)
    have := h (j + 1) w (by simpa using e)
    rwa [show i + 1 + j = i + (j + 1) by omega]
theorem cr_sumLL (hc : X.calm = true) : CallR X (.builtin "sum") (rSumLL X.K) := by
  intro pins s σ H vs us Q I r h
  obtain ⟨l, e0, ad, zs, rfl, hs, he0, hlen, hin, hsz, q0, q⟩ := h
  obtain ⟨items, rv, pl, _⟩ := I.list hs
  cases r with
  | cons r1 t1 =>
    have := Vals.ref1 t1
    subst this
    cases r1
    obtain ⟨z0, i0, n0, r0, _, e1⟩ := I.lstM he0
    have hi0 := r0.zero
    subst hi0
    have hil : items.length = zs.length := by rw [← rv.length, List.length_map, hlen]
    have ex : ∀ j : Nat, ∃ its : List Value, ∀ (a : Addr) (z : List V), ad[j]? = some a → zs[j]? = some z → Vals z its ∧ ∃ m, IsL s.heap a its.toArray m := fun j => by
      cases ea : ad[j]? with
      | none => exact ⟨[], fun a z e => by cases e⟩
      | some a =>
        cases ez : zs[j]? with
        | none => exact ⟨[], fun a z _ e => by cases e⟩
        | some z =>
          obtain ⟨_, its, n, r, _, e⟩ := I.lstM (hin j a z ea ez)
          exact ⟨its, fun a' z' e1 e2 => by cases e1; cases e2; exact ⟨r, n, e⟩⟩
    let its : Nat → List Value := fun j => Classical.choose (ex j)
    have hits : ∀ (j : Nat) (a : Addr) (z : List V), ad[j]? = some a → zs[j]? = some z → Vals z (its j) ∧ ∃ m, IsL s.heap a (its j).toArray m := fun j => Classical.choose_spec (ex j)
    have hv := vals_join zs its 0 fun j z e => by
      have hj : j < zs.length := (List.getElem?_eq_some_iff.mp e).1
      have := (hits j (ad[j]'(by omega)) z (List.getElem?_eq_getElem _) e).1
      rwa [Nat.zero_add]
    have hvl : (PySem.joinFrom its 0 zs.length).length = zs.flatten.length := hv.length.symm
    refine sum_of_lists (I.ok.hd hc) pl.isList e1 its (fun j => ad.getD j 0) (fun j hj => ?_) (by rw [List.size_toArray, hil, hvl]; exact hsz) fun h' tk t' nt' h1 h2 h3 => ?_
    · rw [List.size_toArray] at hj
      have hj2 : j < ad.length := by omega
      have hj3 : j < zs.length := by omega
      have e2 : ad[j]? = some ad[j] := List.getElem?_eq_getElem hj2
      refine ⟨?_, ?_⟩
      · obtain ⟨u, hu, ru⟩ := rv.get (i := j) (x := V.ref ad[j]) (by rw [List.getElem?_map, e2]; rfl)
        cases ru
        rw [List.getElem?_toArray, hu, List.getD_eq_getElem?_getD, e2]
        rfl
      · rw [List.getD_eq_getElem?_getD, e2]
        exact (hits j _ _ e2 (List.getElem?_eq_getElem hj3)).2
    · rw [List.size_toArray, hil] at h1 h2
      rcases h1 with ⟨z1, z2⟩ | z
      · subst z1
        have ead : ad = [] := List.length_eq_zero_iff.mp (by omega)
        exact ⟨.ref _, H, I.kept h3, rfl, q0 ead⟩
      · exact ⟨.ref _, upd H t' (.lst zs.flatten), I.laid (t' := tk) h3 z ⟨hsz, _, _, hv, h2⟩, rfl, q t' (I.hok.fresh z)⟩
end
end DL

/-! DLu: sum(lists, []) read. -/
namespace DL
open PySem PySem.Spec L2 StX PyProof.Rows
section
variable {X : Cx} {t : TA} {d : DA} {pos : Pos}
def fSumL : DC := fun xs μ Q => ∃ (x : Vl) (zs : List (List Int)), xs = [x, .lst []] ∧ lview μ x = some (zs.map fun z => .lst (z.map .int)) ∧ zs.flatten.length ≤ sizeLine ∧ Q (.lst (zs.flatten.map .int)) μ
theorem reps_lsts {K : PySem.W.Frag} {c : Cf} : ∀ (zs : List (List Int)) (ws : List V), Reps K c ws (zs.map fun z => Vl.lst (z.map .int)) →
    ∃ ad : List Addr, ws = ad.map V.ref ∧ ad.length = (zs.map fun z => z.map V.int).length ∧ ∀ (j : Nat) a z, ad[j]? = some a → (zs.map fun z => z.map V.int)[j]? = some z → c.Hd a = some (.lst z)
  | [], ws, r => by
    cases r
    exact ⟨[], rfl, rfl, fun j a z e => by simp at e⟩
  | z :: zs, ws, r => by
    cases r with
    | cons r1 r2 =>
      obtain ⟨ad, e1, e2, e3⟩ := reps_lsts zs _ r2
      subst e1
      cases r1 with
      | lst h1 hz h2 =>
        rename_i a vs
        have ev := h2.ints_of
        subst ev
        refine ⟨a :: ad, rfl, by simp only [List.length_cons, List.map_cons, e2], fun j b w f1 f2 => ?_⟩
        cases j with
        | zero =>
          cases f1
          cases f2
          exact h1
        | succ j => exact e3 j b w (by simpa using f1) (by simpa using f2)
theorem join_ints (zs : List (List Int)) : (zs.map fun z => z.map V.int).flatten = zs.flatten.map V.int := by rw [List.map_flatten]
theorem sim_sumLL {K : PySem.W.Frag} : SimC K (rSumLL K) fSumL := by
  intro c μ H vs xs Q P R r h k
  obtain ⟨x, zs, e, hx, hsz, q⟩ := h
  subst e
  cases r with
  | cons r1 r2 =>
    cases r2 with
    | cons r3 r4 =>
      cases r4
      obtain ⟨a, ws, e1, hq, hz, r5⟩ := lview_at R r1 hx
      subst e1
      obtain ⟨ad, e2, e3, e4⟩ := reps_lsts zs ws r5
      subst e2
      cases r3 with
      | lst h1 _ h2 =>
        rename_i e0 vs0
        cases h2
        refine ⟨a, _, ad, _, rfl, hq, R.sub _ _ h1, e3, fun j b z f1 f2 => R.sub _ _ (e4 j b z f1 f2), by rw [join_ints, List.length_map]; exact hsz, fun had => ?_, ?_⟩
        · have hzs : zs = [] := by
            subst had
            exact List.length_eq_zero_iff.mp (by simpa using e3.symm)
          subst hzs
          exact k c _ μ _ H (Ext.refl c) R (.lst h1 (Nat.zero_le _) .nil) q
        · rw [join_ints]
          exact sim_newL R (Reps.ints _) (by rw [List.length_map]; exact hsz) (.inl q) k
theorem q_sumL {e e2 : Expr} {p : Pos} (hcm : X.calm = true) (h1 : X.mg "sum" = none) (ha : QA X [e, e2] t d) (g1 : Gl X "sum" := by rfl) (he : starEach [e, e2] X.env = (false, eval e X.env) :: starEach [e2] X.env := by rfl)
    (hpl : (backTo pos (starEach [e2] X.env)).any (·.1) = false := by rfl) :
    QE X (.Call (.Name "sum" p) [e, e2] [] pos) (tCB (rSumLL X.K) t) (dCB fSumL d) :=
  q_callB (cr_sumLL hcm) sim_sumLL h1 (by decide +kernel) ha g1 (by decide) (by decide) he hpl
end
end DL

/-! DLj: floor division by great numbers; sorted(set(ints)). -/
namespace DL
open PySem PySem.Spec L2 StX PyProof.Rows
section
variable {X : Cx} {a b : Expr} {ta tb : TE} {da db : DE} {pos : Pos} {k : Nat}
theorem op_fdivB (hk : 32 ≤ k) (am : AmbX X.prog X.A X.base) (hr : Room k X.A) : OpR X (binaryOp .FloorDiv) (rI (fun _ j => j ≠ 0) fun i j => .int (i.fdiv j)) := by
  intro pins s σ H x y v u Q I rx ry h
  obtain ⟨i, j, e1, e2, hc, q⟩ := h
  subst e1; subst e2
  obtain ⟨t, rfl⟩ := rx
  obtain ⟨t', rfl⟩ := ry
  obtain ⟨env, l, hfr, hgen, hco, hbn, hgl⟩ := am.frames
  refine floordiv_int hc ⟨.int _, H, I.tok _, ⟨_, rfl⟩, q⟩ (.inr (PylongRoom.of I.nolimit ?_ (SeerAt.of (am.seer.keeps I.bk) am.tree hfr hgen hco hbn hgl)))
  have := hr.dp
  show X.A.depth + 100 < _
  omega
abbrev dFdivB : D2 := dI (fun _ j => j ≠ 0) fun i j => .int (i.fdiv j)
theorem q_fdivB (am : AmbX X.prog X.A X.base) (hr : Room k X.A) (ha : QE X a ta da) (hb : QE X b tb db) (hk : 32 ≤ k := by decide) : QE X (.BinOp a .FloorDiv b pos) (tOp (rI (fun _ j => j ≠ 0) fun i j => .int (i.fdiv j)) ta tb) (dOp dFdivB da db) :=
  q_op (op_fdivB hk am hr) (sim_I fun _ _ _ => .int _) ha hb
/-! sorted(set(xs)) of ints -/
def fSortedSet : DC := fun xs μ Q => ∃ (x : Vl) (ns : List Int), xs = [x] ∧ lview μ x = some (ns.map Vl.int) ∧ ns.length < 64 ∧ ∀ out : List Int, out.Pairwise (· < ·) → (∀ k, k ∈ out ↔ k ∈ ns) → newL (out.map .int) μ Q
theorem q_sortedSet {e : Expr} {t : TA} {d : DA} {p p2 pos2 : Pos} (hcm : X.calm = true) (h1 : X.mg "sorted" = none) (h2 : X.mg "set" = none) (ha : QA X [e] t d) (g1 : Gl X "sorted" := by rfl) (g2 : Gl X "set" := by rfl) (he : starEach [e] X.env = (false, eval e X.env) :: starEach [] X.env := by rfl)
    (he2 : starEach [.Call (.Name "set" p2) [e] [] pos2] X.env = (false, eval (.Call (.Name "set" p2) [e] [] pos2) X.env) :: starEach [] X.env := by rfl) :
    QE X (.Call (.Name "sorted" p) [.Call (.Name "set" p2) [e] [] pos2] [] pos) (tCB (rSortedSet X.w) (tCons (tCB (rSetI X.K X.w) t) tNil)) (dCB fSortedSet d) := by
  refine ⟨pe_callB (cr_sortedSet hcm) g1 h1 (by decide +kernel) (pa_cons (pe_callTy (cr_setI hcm) g2 h2 (by decide +kernel) ha.p (by decide) (by decide) he rfl) pa_nil he2) (by decide) (by decide) he2 rfl, fun c ρ μ σ H Q P R S h k => ?_⟩
  refine ha.s c ρ μ σ H _ _ R S h fun c1 xs μ1 vs H1 E1 R1 r1 q1 => ?_
  obtain ⟨x, ns, ex, hx, h64, q⟩ := q1
  subst ex
  obtain ⟨v, e, rv⟩ := reps1 r1
  subst e
  obtain ⟨a, ws, e1, hq, hz, r2⟩ := lview_at R1 rv hx
  subst e1
  rw [r2.ints_of] at hq
  refine ⟨a, ns, rfl, hq, h64, fun p c2 hp hc2 => ?_⟩
  have R2 := R1.junk (o := SetO X.w p (fun j => decide (j ∈ ns)) c2) hp
  refine ⟨p, _, c2, rfl, upd_same, by omega, fun out p2 h1 h2 h3 hp2 => ?_⟩
  exact sim_newL (K := X.K) (c := c1) (μ := μ1) R2 (zs := out.map Vl.int) (vs := out.map V.int) (Reps.ints out) (by rw [List.length_map, sizeLine_eq]; omega) (q out h1 fun k => by rw [h2 k]; simp) (fun c3 z μ3 w H3 E3 => k c3 z μ3 w H3 (E1.trans E3)) p2 hp2
end
end DL

/-! tuples of any length: +, *, slices; min of two -/
namespace DL
open PySem PySem.Spec L2 StX PyProof.Rows
theorem zero_meets (l : Addr) (items : Array Value) (n : Nat) (dd : Option Addr) (sl : Array (Option Value)) (x : Int) (u : Tok) (c0 : (decide (x < -(2 ^ 63)) || decide (x ≥ 2 ^ 63)) = false) (c1 : (items.isEmpty || x == 1) = false) (c2 : (decide (x ≤ 0) || items.isEmpty) = true) :
    Meets (Builtin.«tuple.__mul__» ⟨[.ref l, .int x u], []⟩) (fun _ R s => s.heap.get? l = some { cls := .type "tuple", dict := dd, data := .seq items n, slots := sl } ∧
      R (.ok (.ret (Value.ref s.heap.objs.size))) { s with heap := s.heap.push { cls := Value.type "tuple", data := Data.seq #[] }, toks := s.toks }) :=
  .of_wp fun prog w A R s h => by
    obtain ⟨hp, g, d, tk, os⟩ := s
    obtain ⟨hl, h⟩ := h
    have f1 := AutoSeq1.idx_int
    wp_walk using wpAny_loadPart' hl
    repeat (first
      | (refine wpAny_ite_false (decide_eq_false (by rw [c0]; exact Bool.false_ne_true)) ?_; wp_walk using wpAny_loadPart' hl)
      | (refine wpAny_ite_false (decide_eq_false (by rw [c1]; exact Bool.false_ne_true)) ?_; wp_walk using wpAny_loadPart' hl)
      | (refine wpAny_ite_true (decide_eq_true c2) ?_; wp_walk using wpAny_loadPart' hl)
      | (refine wpAny_ite_true c2 ?_; wp_walk using wpAny_loadPart' hl))
    exact ⟨_, rfl, h⟩
section
variable {X : Cx} {e a b : Expr} {es : List Expr} {te ta tb : TE} {de da db : DE} {pos : Pos} {t : TA} {d : DA} {p : Pos}
/-- t * k, k at most 0 -/
def rZero (K : PySem.W.Frag) : R2 := fun x y H Q => ∃ l k xs, x = .ref l ∧ y = .int k ∧ SqT K H l xs ∧ xs ≠ [] ∧ -1000 ≤ k ∧ k ≤ 0 ∧ ∀ p, H p = none → Q (.ref p) (upd H p (.tup []))
theorem op_zero : OpR X (binaryOp .Mult) (rZero X.K) := by
  intro pins s σ H x y v u Q I rx ry h
  obtain ⟨l, k, xs, rfl, rfl, hT, hne, h1, h2, q⟩ := h
  cases rx
  obtain ⟨t, rfl⟩ := ry
  obtain ⟨its, r, ⟨⟨cls, dd, data, sl⟩, ho, hc, n, hd⟩, hs⟩ := I.tuple hT
  simp only at hc hd
  subst hc hd
  have hle : its.length = xs.length := r.length.symm
  have hn : its ≠ [] := fun e => hne (by
    rw [e] at hle
    exact List.eq_nil_of_length_eq_zero hle.symm)
  have hi : its.toArray.isEmpty = false := by
    cases its with
    | nil => exact absurd rfl hn
    | cons a b => rfl
  have c0 : (decide (k < -(2 ^ 63)) || decide (k ≥ 2 ^ 63)) = false := by
    rw [decide_eq_false (by omega), decide_eq_false (by omega)] <;> rfl
  have c1 : (its.toArray.isEmpty || k == 1) = false := by
    rw [hi, Bool.false_or]
    exact beq_eq_false_iff_ne.mpr (by omega)
  have c2 : (decide (k ≤ 0) || its.toArray.isEmpty) = true := by
    rw [decide_eq_true h2, Bool.true_or]
  refine wpAny_binaryOp_repeat_ref (T := "tuple") (U := "int") (by decide) ⟨_, ho, rfl⟩ (fun s' => typeIs_int s' k t) noFill_tuple_mul F.fills_int_mul F.slot_int_rmul repeat_tuple F.slot_int_index.lookup
    (call_meets F.slot_int_rmul (typeIs_int s k t) F.entry_int_rmul (F.args_int_rmul_2 _ _) (int_rmul_tuple k t l its.toArray n dd sl)
      ⟨ho, rfl, ⟨_, ho, rfl⟩, call_meets F.slot_tuple_mul ⟨_, ho, rfl⟩ F.entry_tuple_mul (F.args_tuple_mul_2 _ _) (zero_meets l its.toArray n dd sl k t c0 c1 c2) ⟨ho, ?_⟩⟩)
  refine ⟨.ref s.heap.objs.size, _, I.laid (t' := s.toks) (o := .tup []) (fun b ob q => Heap.get?_push_of_some _ q) (Nat.le_refl _) ?_, rfl, q _ (I.hok.fresh (Nat.le_refl _))⟩
  exact ⟨by rw [sizeLine_eq]; exact Nat.zero_le _, [], .nil, IsTup.new _ _⟩
def rMulA (K : PySem.W.Frag) : R2 := fun x y H Q => rZero K x y H Q ∨ rMulD K x y H Q
/-- * : ints; a tuple, a list times an int -/
def dMulA : D2 := fun x y μ Q => match x, y with
  | .tup xs, .int k => xs ≠ [] ∧ -1000 ≤ k ∧ k ≤ 1000 ∧ xs.length ≤ 1000 ∧ Q (.tup (List.replicate k.toNat xs).flatten) μ
  | x, y => dMul x y μ Q
theorem sim_mulA {K : PySem.W.Frag} : Sim2 K (rMulA K) dMulA := by
  intro c μ H vx vy x y Q P R rx ry h k
  unfold dMulA at h
  split at h
  · rename_i xs n
    obtain ⟨hne, h0, h2, h3, q⟩ := h
    by_cases hn : 1 ≤ n
    · exact .inr (sim_mul c μ H vx vy (.tup xs) (.int n) Q P R rx ry ⟨hne, hn, h2, h3, q⟩ k)
    · obtain ⟨a, vs, e1, t1, z1, r1⟩ := tup_at R rx
      cases ry
      have e0 : (List.replicate n.toNat xs).flatten = [] := by
        rw [show n.toNat = 0 by omega]; rfl
      rw [e0] at q
      exact .inl ⟨a, n, vs, e1, rfl, t1, fun z => hne (r1.nil_iff.mp z), h0, by omega, sim_newT R .nil (by rw [sizeLine_eq]; exact Nat.zero_le _) q k⟩
  · exact .inr (sim_mul c μ H vx vy x y Q P R rx ry h k)
theorem q_mulA (ha : QE X a ta da) (hb : QE X b tb db) : QE X (.BinOp a .Mult b pos) (tOp (rMulA X.K) ta tb) (dOp dMulA da db) := q_op (opr_or op_zero (opr_or op_mulD (opr_or op_once (opr_or op_repT op_rep)))) sim_mulA ha hb
/-! t + u -/
def rAddA (K : PySem.W.Frag) : R2 := fun x y H Q => rCatA K x y H Q ∨ rAddD K x y H Q
def dAddA : D2 := fun x y μ Q => match x, y with
  | .tup xs, .tup ys => xs.length + ys.length ≤ sizeLine ∧ Q (.tup (xs ++ ys)) μ
  | x, y => dAdd x y μ Q
theorem sim_addA {K : PySem.W.Frag} : Sim2 K (rAddA K) dAddA := by
  intro c μ H vx vy x y Q P R rx ry h k
  unfold dAddA at h
  split at h
  · rename_i xs ys
    obtain ⟨hz, q⟩ := h
    obtain ⟨a, vs, e1, t1, z1, r1⟩ := tup_at R rx
    obtain ⟨b, ws, e2, t2, z2, r2⟩ := tup_at R ry
    refine .inl ⟨a, b, vs, ws, e1, e2, t1, t2, by rw [r1.length, r2.length]; exact hz, fun z => ?_, fun z z' => ?_, fun z z' => ?_⟩
    · have w : xs = [] := r1.nil_iff.mp z
      subst w
      rw [← e2]
      exact k c _ μ _ H (Ext.refl c) R ry q
    · have w : ys = [] := r2.nil_iff.mp z'
      subst w
      rw [List.append_nil] at q
      rw [← e1]
      exact k c _ μ _ H (Ext.refl c) R rx q
    · exact sim_newT R (r1.append r2) (by rw [List.length_append]; exact hz) q k
  · exact .inr (sim_add c μ H vx vy x y Q P R rx ry h k)
theorem q_addA (ha : QE X a ta da) (hb : QE X b tb db) : QE X (.BinOp a .Add b pos) (tOp (rAddA X.K) ta tb) (dOp dAddA da db) := q_op (opr_or op_catA (opr_or op_add (opr_or op_catT op_cat))) sim_addA ha hb
/-! slices -/
def dCutA (x : Vl) (lo hi : Option Int) (μ : Mu) (Q : DK) : Prop := match x with
  | .tup xs => Q (.tup (cutD xs lo hi)) μ
  | x => ∃ xs, lview μ x = some xs ∧ newL (cutD xs lo hi) μ Q
def dSlA (de : DE) (dl dh : DO) : DE := fun ρ μ Q => de ρ μ fun x μ1 => dl ρ μ1 fun l μ2 => dh ρ μ2 fun u μ3 => dCutA x l u μ3 Q
def rSlU (K : PySem.W.Frag) : V → Option Int → Option Int → Hp → VK → Prop := fun x lo hi H Q => rSlL K x lo hi H Q ∨ rSlA K x lo hi H Q
theorem q_slA {lo hi : Option Expr} {tl th : TO} {dl dh : DO} {p2 : Pos} (he : QE X e te de) (hl : QO X lo tl dl) (hh : QO X hi th dh) : QE X (.Subscript e (.Slice lo hi none p2) pos) (tSl (rSlU X.K) te tl th) (dSlA de dl dh) := by
  refine ⟨pe_slice (sl_list.or sl_tupA) he.p hl.p hh.p, fun c ρ μ σ H Q P R S h k => ?_⟩
  refine he.s c ρ μ σ H _ _ R S h fun c1 x μ1 v H1 E1 R1 r1 q1 => ?_
  refine hl.s c1 ρ μ1 σ H1 _ _ R1 (S.up E1.toExt0) q1 fun c2 l μ2 H2 E2 R2 q2 => ?_
  refine hh.s c2 ρ μ2 σ H2 _ _ R2 (S.up (E1.trans E2).toExt0) q2 fun c3 u μ3 H3 E3 R3 q3 => ?_
  have r3 := r1.up (E2.trans E3).toExt0
  have k3 := fun c4 z μ4 v4 H4 (E4 : Ext c3 c4) => k c4 z μ4 v4 H4 (((E1.trans E2).trans E3).trans E4)
  unfold dCutA at q3
  split at q3
  · rename_i xs
    obtain ⟨a, vs, e1, t1, z1, r⟩ := tup_at R3 r3
    refine .inr ⟨a, vs, e1, t1, fun hw => ?_, fun hw => sim_newT R3 (r.cut l u) (Nat.le_trans (cutD_length _ _ _) z1) q3 k3⟩
    rw [← e1]
    have e : cutD xs l u = xs := by
      rw [r.length] at hw
      unfold cutD
      rw [hw.1, hw.2, Nat.sub_zero, List.drop_zero, List.take_of_length_le (Nat.le_refl _)]
    rw [e] at q3
    exact k3 c3 _ μ3 _ H3 (Ext.refl c3) R3 r3 q3
  · obtain ⟨xs, hx, q⟩ := q3
    obtain ⟨a, vs, e1, t1, z1, r⟩ := lview_at R3 r3 hx
    exact .inl ⟨a, vs, e1, t1, sim_newL R3 (r.cut l u) (Nat.le_trans (cutD_length _ _ _) z1) q k3⟩
/-! min of two -/
def fMin2 : DC := fun xs μ Q => match xs with
  | [.int i, .int j] => Q (.int (if j < i then j else i)) μ
  | _ => False
theorem sim_min2 {K : PySem.W.Frag} : SimC K (fun xs H Q => ∃ i j, xs = [.int i, .int j] ∧ Q (.int (if j < i then j else i)) H) fMin2 := by
  intro c μ H vs xs Q P R r h k
  unfold fMin2 at h
  split at h
  · cases r with
    | cons h1 h2 => cases h2 with
      | cons h2 h3 =>
        cases h3; cases h1; cases h2
        exact ⟨_, _, rfl, k c _ μ _ H (Ext.refl c) R (.int _) h⟩
  · exact h.elim
theorem q_min2 {e2 : Expr} (hcm : X.calm = true) (hm : X.mg "min" = none) (ha : QA X [e, e2] t d) (hg : Gl X "min" := by rfl) (he : starEach [e, e2] X.env = (false, eval e X.env) :: starEach [e2] X.env := by rfl) (hpl : (backTo pos (starEach [e2] X.env)).any (·.1) = false := by rfl) : QE X (.Call (.Name "min" p) [e, e2] [] pos) (tCB (fun xs H Q => ∃ i j, xs = [.int i, .int j] ∧ Q (.int (if j < i then j else i)) H) t) (dCB fMin2 d) :=
  q_callB (call_min2 hcm) sim_min2 hm (by decide +kernel) ha hg (by decide) (by decide) he hpl
end
end DL

/-! DLx: defs as they are called by position, of any form: fixed parameters, *args. -/
namespace DL
open PySem PySem.Spec L2 StX PyProof.Rows
/-- what a call by position of the def at f keeps -/
structure FnC (P : Program) (w : World) (K : PySem.W.Frag) (mg : Str → Option Value) (base : Heap) (k : Nat) (f : Addr) (C : Ct) : Prop where
  run : ∀ (A : Around) (outer : List Env) (s : Shared) (H : Hp) (us : List Value) (vs : List V) (Q : VK), Amb P A base → Room k A → Env0 P w K mg base A outer s H → Vals vs us → spOf K C vs H Q →
    codeAny (model P w) A (.call (.ref f) ⟨us, []⟩) (CR CX0 outer P w H s Q E0) s
section
variable {P : Program} {w : World} {K : PySem.W.Frag} {mg : Str → Option Value} {base : Heap}
theorem FnC.mono {j k : Nat} {f : Addr} {C : Ct} (F : FnC P w K mg base j f C) (h : j ≤ k) : FnC P w K mg base k f C := ⟨fun A outer s H us vs Q a hr => F.run A outer s H us vs Q a (hr.mono h)⟩
theorem FnG.toC {k : Nat} {f : Addr} {fd : FuncData} {ps : List Str} {C : Ct} (F : FnG P w K mg base k f fd ps C) (hb : Binds K fd ps []) : FnC P w K mg base k f C :=
  ⟨fun A outer s H us vs Q a hr e0 r h => by
    have hl : (us ++ ([] : List Value)).length = ps.length := by
      rw [List.append_nil, ← r.length]; exact spOf_len F.len h
    have KX : K.In s.heap := e0.mod.kin.keeps fun b o e => (e0.bs b o e).1
    have z := hb s us KX hl
    rw [List.append_nil] at z
    exact F.run A outer s H ⟨us, []⟩ us vs Q a hr e0 z r h⟩
/-- def f(a, .., *v): C over the arguments as they come; Cb over the slots -/
theorem Fun.okStar {x qual : Str} {st : Stmt} {f : Addr} {fd : FuncData} {N ps : List Str} {pv : Str} {k : Nat} {C : Ct} {ds : DS} (F : Fun K x qual st f fd) (S : FnScope N (ps ++ [pv]) (defScope st))
    (hb : ∀ (kV doc pm : Value) (an : Option Addr) (cdv ct : Value) (us rest : List Value), us.length = ps.length → bindArgs (PySem.W.fnOf x qual (defArgs st) (defBody st) (defScope st) .none kV doc pm an cdv ct) ⟨us ++ rest, []⟩ = (newTuple rest >>= fun t => pure (ps.zip us ++ [(pv, t)])))
    (hbody : ∀ (cdv : Value) (A : Around) (outer : List Env) (s : Shared) (H : Hp), Room k (A.deeper (envOfC qual (defScope st) s.heap.objs.size f cdv)) → AmbX P (A.deeper (envOfC qual (defScope st) s.heap.objs.size f cdv)) base →
      ∃ ts : TS, QSs (cxOf CX0 P w K mg base N qual (defScope st) f cdv A outer s H E0).nox (defBody st) ts ds)
    (hC : ∀ xs μ Q, C xs μ Q → ∃ ys zs, xs = ys ++ zs ∧ ys.length = ps.length ∧ zs.length ≤ sizeLine ∧ ds (spEnds Q) (startD N (ys ++ [.tup zs])) μ) : FnC P w K mg base (k + 1) f C := by
  obtain ⟨oc, od, kV, doc, pm, an, cdv, ct, osl, e9, lk, hcd⟩ := F.ex
  subst e9
  refine ⟨fun A outer s H us vs Q am hr e0 r hsp => ?_⟩
  obtain ⟨c, xs, μ, Q0, R, rs, hc, hQ⟩ := hsp
  obtain ⟨ys, zs, exs, hyl, hzl, hds⟩ := hC xs μ Q0 hc
  subst exs
  have hvl : vs.length = ys.length + zs.length := by rw [rs.length, List.length_append]
  have ev : vs = vs.take ys.length ++ vs.drop ys.length := (List.take_append_drop _ _).symm
  have rT : Reps K c (vs.take ys.length) ys := by
    have := rs.take ys.length
    rw [List.take_append_of_le_length (Nat.le_refl _), List.take_of_length_le (Nat.le_refl _)] at this
    exact this
  have rD : Reps K c (vs.drop ys.length) zs := by
    have := rs.drop ys.length
    rw [List.drop_append_of_le_length (Nat.le_refl _), List.drop_of_length_le (Nat.le_refl _), List.nil_append] at this
    exact this
  generalize vs.take ys.length = v1 at ev rT
  generalize vs.drop ys.length = v2 at ev rD
  subst ev
  obtain ⟨u1, u2, eu, r1, r2⟩ := vals_split r
  subst eu
  have hn : H s.heap.objs.size = Option.none := e0.hok.fresh (Nat.le_refl _)
  have hv1 : v1.length = ps.length := by rw [rT.length]; exact hyl
  have hl1 : u1.length = ps.length := by rw [← r1.length]; exact hv1
  have hz2 : v2.length ≤ sizeLine := by rw [rD.length]; exact hzl
  have hl2 : u2.length ≤ sizeLine := by rw [← r2.length]; exact hz2
  refine run_bnd lk hcd S hr e0 (G := fun xs H2 => ∃ p, H p = Option.none ∧ xs = v1 ++ [V.ref p] ∧ H2 = upd H p (.tup v2)) (fun A' Ex Q' h => ?_) fun s2 H2 xs ⟨p, hp, ex, eH⟩ hr' => ?_
  · rw [hb kV doc pm an cdv ct u1 u2 hl1]
    refine wpAny_bind (wpAny_newTuple (wpAny_pure ?_) hl2)
    have new : ObjOk P w (upd H s.heap.objs.size (.tup v2)) (s.heap.push ({ cls := .type "tuple", data := .seq u2.toArray } : Obj)) s.heap.objs.size (.tup v2) := ⟨hz2, u2, r2, ⟨_, Heap.get?_push_size _ rfl, rfl, _, rfl⟩⟩
    have un := un_laid (fs := frs outer) (s := s) (o := ({ cls := .type "tuple", data := .seq u2.toArray } : Obj)) (u := .tup v2) hn
    have z := h _ _ (v1 ++ [V.ref s.heap.objs.size]) (u1 ++ [Value.ref s.heap.objs.size]) (env0_laid e0 new) un rfl (fun e s' z => z.elim) (r1.append (.cons rfl .nil))
      (by rw [List.length_append, List.length_append, hv1] <;> rfl) ⟨_, hn, rfl, rfl⟩
    rw [List.zip_append hl1.symm] at z
    exact z
  · subst ex eH
    have amx : AmbX P (A.deeper (envOfC qual (defScope st) s2.heap.objs.size f cdv)) base := ⟨⟨am.guards, am.seer, am.tree⟩, _, _, Around.frames_deeper e0.frames, S.gen, S.co, rfl, rfl⟩
    obtain ⟨ts, B⟩ := hbody cdv A outer s2 (upd H p (.tup v2)) hr' amx
    refine ⟨ts, B.p.nox, ?_⟩
    obtain ⟨R1, E1⟩ := R.still (o := .tup v2) hp
    have rsA : Reps K _ (v1 ++ [V.ref p]) (ys ++ [Vl.tup zs]) := (rT.up E1.toExt0).append (.cons (.tup (.inl (.inl (by show upd c.Hd p (.tup v2) p = _; exact upd_same))) hzl (rD.up E1.toExt0)) .nil)
    exact B.s _ (startD N (ys ++ [Vl.tup zs])) μ (start N (v1 ++ [V.ref p])) (upd H p (.tup v2)) { nx := fun _ H' => Q .non H', rt := Q } (spEnds Q0) R1 (start_rs rsA)
      ⟨fun c' ρ μ' σ H' E R' S' q => hQ c' .non μ' .non H' (E1.trans E) R' .non q, fun c' x μ' v H' E R' r' q => hQ c' x μ' v H' (E1.trans E) R' r' q, fun c' ρ μ' σ H' E R' S' q => q.elim, fun c' ρ μ' σ H' E R' S' q => q.elim⟩ hds
end
end DL

set_option maxHeartbeats 2000000
/-! DLy: super().m(..) as the first statement of a method. -/
namespace DL
open PySem PySem.Spec L2 StX PyProof.Rows NdefX
/-- a method of class D whose body says super() -/
structure SupF (K : PySem.W.Frag) (x qual : Str) (st : Stmt) (f cc D : Addr) (file : Str) (F : NF) : Prop where
  ex : ∃ (oc : Value) (od : Option Addr) (doc pm ct : Value) (osl : Array (Option Value)), K.lookup f = some ⟨oc, od, .func (F.fd doc pm ct), osl⟩
  eF : F.body = defBody st ∧ F.scope = defScope st ∧ F.params = defArgs st ∧ F.qual = qual ∧ F.cl = [(("__class__" : Str), cc)]
  code : PySem.W.codeIn K (.ref F.c) qual = true
  rcd : ∃ (ccl : Value) (cdd : Option Addr) (vs : Array Value) (ccs : Array (Option Value)) (tf : Tok), K.lookup F.c = some ⟨ccl, cdd, .fields vs, ccs⟩ ∧ vs[2]? = some (.str file tf)
  cell : ∃ (cl : Value) (cld : Option Addr) (csl : Array (Option Value)), K.lookup cc = some ⟨cl, cld, .cell (some (.ref D)), csl⟩
  cls : ∃ cd, PySem.W.clsIn K D = some cd
  kp : PySem.W.keepIn K (.ref f) = true
/-- what super() asks of the module -/
structure SupM (P : Program) (K : PySem.W.Frag) (mg : Str → Option Value) (file : Str) : Prop where
  fl : ((P.main.file : Str) == file) = true
  top : (P.main.scope.names.lookup ("super" : Str)).isSome = false
  sup : mg "super" = none
  opq : PySem.W.nsIn K cStatics "thirdparty.any" = some none
/-- the next m above D, of C -/
structure SupT (K : PySem.W.Frag) (C D : Addr) (m : Str) (f2 : Addr) : Prop where
  sub : PySem.W.mroIn K C (.ref D) = some true
  at_ : PySem.W.ks_superIn K C D m = some (some (.ref f2))
  ty : PySem.W.typeIn K (.ref f2) = some (.type "function")
  fn : PySem.W.fnIn K f2 = true
section
variable {X : Cx} {x qual : Str} {st : Stmt} {f cc D : Addr} {file : Str} {F : NF} {p0 p1 p2 p3 p4 : Pos} {m : Str} {ar : Arg} {e : Expr} {es : List Expr} {ta : TA} {k : Nat} {f2 : Addr} {C2 : Ct}
theorem super_step (SF : SupF X.K x qual st f cc D file F) (SM : SupM X.prog X.K X.mg file) (eE : X.env = envF F f X.env.locals) (hks : F.scope.names.lookup ("super" : Str) = some .globalImplicit) (hkc : F.scope.names.lookup ("__class__" : Str) = some .free) (hat : (m == ("__class__" : Str)) = false)
    (hp : (F.params.posonlyargs ++ F.params.args).head? = some ar) (hN : X.N[0]? = some ar.arg) (hka : F.scope.names.lookup ar.arg = some .local) (F2 : FnC X.prog X.w X.K X.mg X.base k f2 C2) (am : Amb X.prog X.A X.base) (hr : Room k X.A) (ha : PA X (e :: es) ta)
    {a C dx : Addr} {fs : List (Str × V)} {σ : L2.St} {H : Hp} {s : Shared} {Q : VK} {R : Flow → Shared → Prop} (ST : SupT X.K C D m f2) (I : Inv X [] σ H s) (hσ : σ[0]? = some (some (.ref a))) (hH : H a = some (.ins C dx fs))
    (h : ta σ H fun vs H1 => spOf X.K C2 (.ref a :: vs) H1 Q) (hq : ∀ v H2 s2, Inv X [] σ H2 s2 → Q v H2 → R .next s2)
    (hb : bootBuiltins "super" = some (.type "super") := by first | rfl | decide +kernel)
    (hi : interactive X.env = false := by rfl) (hs : swapsWith (.Call (.Attribute (.Call (.Name "super" p0) [] [] p1) m p2) (e :: es) [] p3) none p4.line X.env = pure false := by rfl) {pl : Sem Bool}
    (he : eval (.Call (.Attribute (.Call (.Name "super" p0) [] [] p1) m p2) (e :: es) [] p3) X.env = (do
      let ov ← attributeBase (.Call (.Name "super" p0) [] [] p1) m X.env (eval (.Call (.Name "super" p0) [] [] p1) X.env)
      standAt p2.atName
      let (f, first) ← holding [ov] (getMethod ov m pl)
      callWith p3 f first (backTo p3 (starEach (e :: es) X.env)) []) := by rfl)
    (hst : starEach (e :: es) X.env = (false, eval e X.env) :: starEach es X.env := by rfl) (hpl : (backTo p3 (starEach es X.env)).any (·.1) = false := by rfl) :
    _root_.PySem.wpAt (model X.prog X.w) X.A (.func F.body X.env) (exec (.Expr (.Call (.Attribute (.Call (.Name "super" p0) [] [] p1) m p2) (e :: es) [] p3) p4) X.env) R X.xe s := by
  refine ks_wpAt_Expr_any (ks_wpAt_MethodCall (pl := pl) ?_ he) hi hs
  obtain ⟨oc, od, doc, pm, ct, osl, lk⟩ := SF.ex
  obtain ⟨ccl, cdd, vs, ccs, tf, lkc, hvs⟩ := SF.rcd
  obtain ⟨cl, cld, csl, lcc⟩ := SF.cell
  obtain ⟨cdD, hcD⟩ := SF.cls
  obtain ⟨e1, e2, e3, e4, e5⟩ := SF.eF
  have hk : X.env.scope.kind = .function := I.ok.kind
  have kS : X.env.kindOf "super" = some .globalImplicit := by rw [eE]; exact hks
  have kC : X.env.kindOf "__class__" = some .free := by rw [eE]; exact hkc
  have kA : X.env.kindOf ar.arg = some .local := by rw [eE]; exact hka
  obtain ⟨hh, g, dd, t, os⟩ := s
  have KX : X.K.In hh := I.kIn
  obtain ⟨oD, hD1, hD2⟩ : ∃ oD, hh.get? D = some oD ∧ oD.data = .cls cdD := by
    unfold PySem.W.clsIn at hcD
    split at hcD
    · rename_i c d cd' sl ho
      cases hcD
      exact ⟨_, KX _ _ ho, rfl⟩
    · cases hcD
  obtain ⟨mA, O, _⟩ := ins_get I.hok hH
  obtain ⟨odI, J, _⟩ := O.look
  obtain ⟨mb, b1, b2⟩ := I.mod.blt
  obtain ⟨mL, nL, lL⟩ := I.loc
  obtain ⟨uS, rS, lookS⟩ := lL 0 ar.arg (.ref a) hN hσ (.inl (by rw [eE]; exact hka))
  have eS : uS = Value.ref a := rS
  subst eS
  have vS : mL ar.arg = some (Value.ref a) := by
    rcases lookS with ⟨_, z⟩ | ⟨z, _⟩
    · exact z
    · rw [kA] at z
      rcases z with z | z <;> cases z
  refine ks_wpAt_super_base (env := X.env) kS kC hat (by rw [eE]) (KX _ _ lk) rfl hp (by rw [eE]) (KX _ _ lkc) rfl hvs SM.fl SM.top ?_
  refine PySem.W.ks_loadName_global hk kS (Calls.loadGlobal_builtin (by rw [I.ok.glob]; exact I.mod.glob.keeps I.bk) SM.sup (by rw [I.ok.blt]; exact b1.keeps I.bk) ((b2 _ (by decide)).trans hb) ⟨rfl, ?_⟩)
  refine wpAny_loadName_free hk kC (by rw [eE]; show F.cl.lookup _ = _; rw [e5]; rfl) ⟨_, KX _ _ lcc, rfl⟩ ?_
  refine wpAny_loadName_local hk kA nL vS ?_
  refine ks_wpAny_isType_cls hD1 hD2 ⟨rfl, ?_⟩
  refine ks_wpAny_call_super hD1 hD2 J.at_ J.cls (fun c z => ?_) (PySem.W.looks_mroIn KX ST.sub) (fun h' eo kp => ?_)
  · have := J.no
    unfold PySem.W.notCls at this
    rw [z] at this
    exact Bool.noConfusion this
  have I1 : Inv X [] σ H ⟨h', g, dd, t, os⟩ := I.kept kp
  have KX1 : X.K.In h' := I1.kIn
  have hlt : hh.objs.size < h'.objs.size := Heap.lt_size eo
  cases hc : PySem.W.clsIn X.K C with
  | none =>
    have z := ST.at_
    unfold PySem.W.ks_superIn at z
    rw [hc] at z; cases z
  | some cd =>
    have z := ST.at_
    unfold PySem.W.ks_superIn at z
    rw [hc] at z
    obtain ⟨of, hof, hofc⟩ : ∃ of, h'.get? f2 = some of ∧ of.cls = .type "function" := by
      have ht' : (X.K.lookup f2).map (·.cls) = some (.type "function") := ST.ty
      cases y : X.K.lookup f2 with
      | none => rw [y] at ht'; cases ht'
      | some of => rw [y] at ht'; exact ⟨of, KX1 _ _ y, Option.some.inj ht'⟩
    refine ks_wpAny_getMethod_super eo (PySem.W.looks_opaque KX1 SM.opq) (l₀ := cd.mro) ?_ rfl KX1 z hof hofc (PySem.W.ks_ne KX J hc) hat ?_
    · exact fun A Q E s k q => wpAny_bind ((PySem.W.looks_clsIn KX1 hc) A _ E s k (wpAny_pure q))
    have I2 : Inv X [] σ H ⟨h'.push (PySem.W.methodObj (.ref f2) (.ref a)), g, dd, t + 1, os⟩ := I1.kept fun b o y => Heap.get?_push_of_some _ y
    have hget : (h'.push (PySem.W.methodObj (.ref f2) (.ref a))).get? h'.objs.size = some (PySem.W.methodObj (.ref f2) (.ref a)) := Heap.get?_push_at rfl rfl
    have hnone : H h'.objs.size = none := I1.hok.fresh (Nat.le_refl _)
    have I3 : Inv X [(h'.objs.size, PySem.W.methodObj (.ref f2) (.ref a))] σ H ⟨h'.push (PySem.W.methodObj (.ref f2) (.ref a)), g, dd, t + 1, os⟩ := I2.pins_of fun p hp' => by
        have ep := List.mem_singleton.mp hp'
        subst ep
        exact ⟨hget, hnone, fun z => absurd I1.lt (by rw [← z]; exact Nat.lt_irrefl _), I1.nofs (Nat.le_refl _), fun v z => nomatch z⟩
    show wpAny _ _ (callWith p3 (.ref h'.objs.size) [] (backTo p3 (starEach (e :: es) X.env)) []) _ _ _
    have hrun := thn (ha.run p3 _ _ σ H _ I3 h) (Q' := fun vs s₁ => PySem.W.MethP X.K h'.objs.size f2 (.ref a) s₁.heap ∧ wpAny (model X.prog X.w) X.A (call (.ref h'.objs.size) ([] ++ vs)) (fun _ => R .next) X.xe s₁) fun us s3 ⟨vs3, H3, I4, r3, q3⟩ => by
      have hm := (I4.pin (h'.objs.size, PySem.W.methodObj (.ref f2) (.ref a)) (List.mem_append_right _ List.mem_cons_self)).1
      refine ⟨⟨hm, I4.kIn⟩, ?_⟩
      refine wpAny_call (ks_codeAny_call_bound hm (codeAny_mono (F2.run X.A X.stack s3 H3 (.ref a :: us) (.ref a :: vs3) Q am hr I4.env0 (.cons rfl r3) q3) fun r s' hq' => ?_))
      cases r with
      | error e => exact hq'.elim
      | ok fl =>
        cases fl with
        | ret u =>
          obtain ⟨v, H', I5, rv, q5⟩ := I4.after hq'
          exact hq v H' s' (I5.pins_of fun p hp' => by cases hp') q5
        | next => exact hq'.elim
        | brk => exact hq'.elim
        | cont => exact hq'.elim
    rw [hst] at hrun ⊢
    exact PySem.W.callWith_of (by show ((false || (backTo p3 (starEach es X.env)).any (·.1)) || false) = false; rw [hpl]; rfl) (PySem.W.keeps_M ST.fn) (Calls.evalArgs_plain hrun)
end
end DL

set_option maxHeartbeats 2000000
/-! DLz: a method whose first statement is super().m(..), as a def over data. -/
namespace DL
open PySem PySem.Spec L2 StX PyProof.Rows NdefX
theorem startF_eq {N : List Str} {vs : List V} (h : vs.length + 1 ≤ N.length) : startF N vs [none] = L2.start N vs := by
  unfold startF L2.start
  obtain ⟨n, e⟩ : ∃ n, N.length - vs.length = n + 1 := ⟨N.length - vs.length - 1, by omega⟩
  show List.map some vs ++ ([none] ++ List.replicate (N.length - vs.length - 1) none) = _
  rw [e, Nat.add_sub_cancel, List.replicate_succ]; rfl
section
variable {P : Program} {w : World} {K : PySem.W.Frag} {mg : Str → Option Value} {base : Heap}
theorem SupF.ok {x qual : Str} {st : Stmt} {f cc D : Addr} {file : Str} {F : NF} {N ps : List Str} {k : Nat} {C C2 : Ct} {ds : DS} {d : DA} {m : Str} {ar : Arg} {e : Expr} {es : List Expr} {rest : List Stmt} {p0 p1 p2 p3 p4 : Pos} {f2 CC : Addr}
    (SF : SupF K x qual st f cc D file F) (SM : SupM P K mg file) (S : NScope N ps [("__class__" : Str)] F.scope) (hbody : F.body = .Expr (.Call (.Attribute (.Call (.Name "super" p0) [] [] p1) m p2) (e :: es) [] p3) p4 :: rest)
    (hb : ∀ (doc pm ctv : Value) (us : List Value), us.length = ps.length → bindArgs (F.fd doc pm ctv) ⟨us, []⟩ = pure (ps.zip us)) (len : ∀ xs μ Q, C xs μ Q → xs.length = ps.length)
    (hks : F.scope.names.lookup ("super" : Str) = some .globalImplicit) (hat : (m == ("__class__" : Str)) = false) (hp : (F.params.posonlyargs ++ F.params.args).head? = some ar) (hN : N[0]? = some ar.arg) (hp0 : ps[0]? = some ar.arg)
    (F2 : FnC P w K mg base k f2 C2) (ST : SupT K CC D m f2)
    (hq : ∀ (A : Around) (outer : List Env) (s : Shared) (H : Hp), Room k (A.deeper (envF F f s.heap.objs.size)) → AmbX P (A.deeper (envF F f s.heap.objs.size)) base →
      (∃ ta : TA, QA (ncx CX0 P w K mg base N F f A outer s H E0).nox (e :: es) ta d) ∧ ∃ ts : TS, QSs (ncx CX0 P w K mg base N F f A outer s H E0).nox rest ts ds)
    (he : ∀ (L : Addr), ∃ pl : Sem Bool, eval (.Call (.Attribute (.Call (.Name "super" p0) [] [] p1) m p2) (e :: es) [] p3) (envF F f L) = (do
      let ov ← attributeBase (.Call (.Name "super" p0) [] [] p1) m (envF F f L) (eval (.Call (.Name "super" p0) [] [] p1) (envF F f L))
      standAt p2.atName
      let (f9, first) ← holding [ov] (getMethod ov m pl)
      callWith p3 f9 first (backTo p3 (starEach (e :: es) (envF F f L))) []))
    (hi : ∀ L : Addr, interactive (envF F f L) = false) (hs : ∀ L : Addr, swapsWith (.Call (.Attribute (.Call (.Name "super" p0) [] [] p1) m p2) (e :: es) [] p3) none p4.line (envF F f L) = pure false)
    (hst : ∀ L : Addr, starEach (e :: es) (envF F f L) = (false, eval e (envF F f L)) :: starEach es (envF F f L)) (hpl : ∀ L : Addr, (backTo p3 (starEach es (envF F f L))).any (·.1) = false)
    (hC : ∀ xs μ Q, C xs μ Q → ∃ (k0 : Nat) (xs' : List Vl) (fs : List (Str × Vl)), xs = .ref k0 :: xs' ∧ μ[k0]? = some (.ins CC fs) ∧ d (startD N xs) μ fun ys μ1 => C2 (.ref k0 :: ys) μ1 fun _ μ2 => ds (spEnds Q) (startD N xs) μ2) : FnC P w K mg base (k + 1) f C := by
  refine ⟨fun A outer s H us vs Q am hr e0 r hsp => ?_⟩
  obtain ⟨c, xs, μ, Q0, R, rs, hc, hQ⟩ := hsp
  have hl : vs.length = ps.length := rs.length.trans (len _ _ _ hc)
  obtain ⟨k0, xs', fs, exs, hk0, hd⟩ := hC xs μ Q0 hc
  obtain ⟨oc, od, doc, pm, ct, osl, lk⟩ := SF.ex
  obtain ⟨cl, cld, csl, lcc⟩ := SF.cell
  obtain ⟨e1, e2, e3, e4, e5⟩ := SF.eF
  have KX : K.In s.heap := e0.mod.kin.keeps fun b o e => (e0.bs b o e).1
  have lim : s.heap.NoLimit := e0.mod.nolimit.keeps fun b o e => (e0.bs b o e).1
  have hN1 : ps.length + 1 ≤ N.length := by
    have q := congrArg List.length S.pre
    rw [List.length_take, List.length_append] at q
    simp at q
    omega
  have Cc : CellsAt F.cl [("__class__" : Str)] [none] s.heap H := by
    rw [e5]
    have hcell : K.lookup cc = some ⟨cl, cld, .cell (some (.ref D)), csl⟩ := lcc
    refine ⟨rfl, fun y c' e => ?_, fun y z c' q1 q2 => ?_, fun i y e => ?_⟩
    · have ec : c' = cc := by
        by_cases hy : y = ("__class__" : Str)
        · subst hy; simpa [List.lookup] using e.symm
        · have : ((y == ("__class__" : Str)) = false) := by simpa using hy
          simp [List.lookup, this] at e
      subst ec
      exact ⟨(e0.bs _ _ (e0.mod.kin _ _ hcell)).2, _, _, KX _ _ hcell, rfl⟩
    · have one : ∀ y : Str, List.lookup y [(("__class__" : Str), cc)] = some c' → y = "__class__" := fun y e => by
        by_cases hy : y = ("__class__" : Str)
        · exact hy
        · have : ((y == ("__class__" : Str)) = false) := by simpa using hy
          simp [List.lookup, this] at e
      rw [one y q1, one z q2]
    · cases i with
      | zero =>
        have ey : ("__class__" : Str) = y := by simpa using e
        subst ey
        exact ⟨cc, by simp [List.lookup], fun v ev => by simp at ev⟩
      | succ i => simp at e
  refine codeAny_call_function hr.depth (KX _ _ lk) rfl S.co S.gen rfl (PySem.W.codeRec_of KX (by show PySem.W.codeIn K (.ref F.c) F.qual = true; rw [e4]; exact SF.code)) ?_
  rw [hb doc pm ct us (by rw [← r.length]; exact hl)]
  refine wpAny_pure (wpAny_newFunctionEnv S.nocell (fun ⟨n, _⟩ hy => S.par n (List.of_mem_zip hy).1) (fun h₁ hns hsb => ⟨lim.fresh _ hsb, ?_⟩) S.kind)
  show codeAny _ _ (.func F.body (envF F f s.heap.objs.size)) _ _
  have kp : ∀ b o, s.heap.get? b = some o → h₁.get? b = some o := fun b o e => hsb.extBut b o (Nat.ne_of_lt (Heap.lt_size e)) (Heap.get?_push_of_some _ e)
  have I0 : Inv (ncx CX0 P w K mg base N F f A outer s H E0) [] (startF N vs [none]) H { s with heap := h₁, toks := s.toks + (ps.zip us).length } := inv_startN S hr.hd e0 hl r Cc hns kp
  rw [startF_eq (by omega)] at I0
  have I : Inv (ncx CX0 P w K mg base N F f A outer s H E0).nox [] (L2.start N vs) H { s with heap := h₁, toks := s.toks + (ps.zip us).length } := I0.wish _
  have amx : AmbX P (A.deeper (envF F f s.heap.objs.size)) base := ⟨⟨am.guards, am.seer, am.tree⟩, _, _, Around.frames_deeper e0.frames, S.gen, S.co, rfl, rfl⟩
  obtain ⟨⟨ta, QAa⟩, ts, B⟩ := hq A outer s H (hr.deeper _) amx
  obtain ⟨pl, hev⟩ := he s.heap.objs.size
  subst exs
  obtain ⟨a, v', ev⟩ : ∃ a v', vs = V.ref a :: v' ∧ c.al[k0]? = some a := by
    cases rs with
    | cons q1 q2 =>
      cases q1 with
      | ref q => exact ⟨_, _, rfl, q⟩
  obtain ⟨ev, hal⟩ := ev
  obtain ⟨_, dx, fv, hHa, _⟩ := R.obj k0 a _ hal hk0
  have hσ : (L2.start N vs)[0]? = some (some (V.ref a)) := by rw [ev]; rfl
  have hks' : F.scope.names.lookup ("__class__" : Str) = some .free := S.frk _ (by simp)
  have hka : F.scope.names.lookup ar.arg = some .local := S.par _ (List.mem_of_getElem? hp0)
  refine ks_codeAny_funcAt ?_
  rw [hbody]
  refine ks_wpAt_execs_cons ?_
  rw [← hbody]
  have step := super_step (X := (ncx CX0 P w K mg base N F f A outer s H E0).nox) (p0 := p0) (p1 := p1) (p2 := p2) (p3 := p3) (p4 := p4) (e := e) (es := es) SF SM rfl hks hks' hat hp hN hka F2 amx.toAmb (hr.deeper _) QAa.p ST I hσ hHa
    (Q := fun _ H2 => ∃ c2 μ2, Ext c c2 ∧ RM K c2 μ2 H2 ∧ ds (spEnds Q0) (startD N (.ref k0 :: xs')) μ2)
    (R := fun fl s' => match fl with
      | .next => _root_.PySem.wpAt (model P w) (A.deeper (envF F f s.heap.objs.size)) (.func F.body (envF F f s.heap.objs.size)) (execs rest (envF F f s.heap.objs.size)) (fun fl s' => CR CX0 outer P w H s Q E0 (.ok (.ret (match fl with | .ret v => v | _ => .none))) s') (fun _ _ => False) s'
      | fl => CR CX0 outer P w H s Q E0 (.ok (.ret (match fl with | .ret v => v | _ => .none))) s')
    (QAa.s c _ μ _ H _ _ R (start_rs rs) hd fun c1 ys μ1 ws H1 E1 R1 r1 q1 => ⟨c1, .ref k0 :: ys, μ1, _, R1, .cons (by rw [ev] at rs; cases rs with | cons q1' q2' => exact q1'.up E1.toExt0) r1, q1, fun c2 z μ2 v2 H2 E2 R2 r2 q2 => ⟨c2, μ2, E1.trans E2, R2, q2⟩⟩)
    (fun v H2 s2 I2 ⟨c2, μ2, E2, R2, q2⟩ => ?_) (hi := hi _) (hs := hs _) (pl := pl) (he := hev) (hst := hst _) (hpl := hpl _)
  · refine ks_wpAt_mono step (fun fl s' h => ?_) fun _ _ h => False.elim h
    cases fl with
    | next => exact ks_wpAt_mono h (fun fl _ h => h) fun _ _ h => False.elim h
    | ret u => exact h
    | brk => exact h
    | cont => exact h
  · refine wpAt_of_wpAny ?_
    have go := B.s c2 (startD N (.ref k0 :: xs')) μ2 (L2.start N vs) H2 { nx := fun _ H' => Q .non H', rt := Q } (spEnds Q0) R2 ((start_rs rs).up E2.toExt0)
      ⟨fun c' ρ μ' σ H' E R' S' q => hQ c' .non μ' .non H' (E2.trans E) R' .non q, fun c' x μ' v H' E R' r' q => hQ c' x μ' v H' (E2.trans E) R' r' q, fun c' ρ μ' σ H' E R' S' q => False.elim q, fun c' ρ μ' σ H' E R' S' q => False.elim q⟩ q2
    refine wpAny_mono (B.p.run [] s2 (L2.start N vs) H2 _ I2 go) (fun fl s' hs => ?_) fun e s' hs => False.elim hs
    have fin : ∀ {σ' : L2.St} {H' : Hp} {v : V} {u : Value}, Inv (ncx CX0 P w K mg base N F f A outer s H E0).nox [] σ' H' s' → L2.RelV v u → Q v H' → CE outer P w H s Q u s' :=
      fun {σ' H' v u} J rv q => ⟨v, H', J.os, J.bare, J.base, J.hok, rv, q⟩
    cases fl with
    | ret u =>
      obtain ⟨v, σ', H', J, rv, q⟩ := hs
      exact fin J rv q
    | next =>
      obtain ⟨σ', H', J, q⟩ := hs
      exact fin (v := V.non) (u := Value.none) J rfl q
    | brk =>
      obtain ⟨_, _, _, q⟩ := hs
      exact False.elim q
    | cont =>
      obtain ⟨_, _, _, q⟩ := hs
      exact False.elim q
end
end DL

set_option maxHeartbeats 2000000
/-! DMa: dead statements, names of the module, isinstance. -/
namespace DL
open PySem PySem.Spec L2 StX PyProof.Rows
section
variable {X : Cx} {st : Stmt} {e : Expr} {es : List Expr} {te : TE} {de : DE} {ta : TA} {da : DA} {x : Str} {pos p : Pos}
/-! ### a statement that nobody comes to -/
def tDead : TS := fun _ _ _ => False
def dDead : DS := fun _ _ _ => False
theorem qs_dead : QS X st tDead dDead := ⟨⟨fun _ _ _ _ _ _ h => False.elim h⟩, fun _ _ _ _ _ _ _ _ _ _ h => False.elim h⟩

/-! ### names of the module -/
theorem q_gc {v : V} {y : Vl} (h : ∃ u, X.mg x = some u ∧ RelV v u) (hv : ∀ c, Rep X.K c v y) (hg : Gl X x := by rfl) (hd : (x == ("__debug__" : Str)) = false := by decide) : QE X (.Name x pos) (tC v) (dC y) := ⟨(let ⟨_, hm, r⟩ := h; pe_glob hg hm r hd), sim_c hv⟩
/-- a constant of the module -/
structure GcI (K : PySem.W.Frag) (mg : Str → Option Value) (x : Str) (i : Int) : Prop where
  at_ : ∃ t, mg x = some (.int i t)
structure GcS (K : PySem.W.Frag) (mg : Str → Option Value) (x : Str) (y : Str) : Prop where
  at_ : ∃ t, mg x = some (.str y t)
/-- a tuple of the module -/
structure GcT (K : PySem.W.Frag) (mg : Str → Option Value) (x : Str) (ys : List Vl) : Prop where
  at_ : ∃ (a : Addr) (o : Obj) (its : Array Value) (n : Nat) (vs : List V), mg x = some (.ref a) ∧ K.lookup a = some o ∧ o.cls = .type "tuple" ∧ o.data = .seq its n ∧ its.size ≤ sizeLine ∧ Vals vs its.toList ∧ ∀ c, Reps K c vs ys
theorem q_gi {i : Int} (g : GcI X.K X.mg x i) (hg : Gl X x := by rfl) (hd : (x == ("__debug__" : Str)) = false := by decide) : QE X (.Name x pos) (tC (.int i)) (dC (.int i)) :=
  q_gc (let ⟨t, h⟩ := g.at_; ⟨_, h, t, rfl⟩) (fun _ => .int i) hg hd
theorem q_gs {y : Str} (g : GcS X.K X.mg x y) (hg : Gl X x := by rfl) (hd : (x == ("__debug__" : Str)) = false := by decide) : QE X (.Name x pos) (tC (.str y)) (dC (.str y)) :=
  q_gc (let ⟨t, h⟩ := g.at_; ⟨_, h, t, rfl⟩) (fun _ => .str y) hg hd
theorem q_gtx {ys : List Vl} (g : GcT X.K X.mg x ys) (hg : Gl X x := by rfl) (hd : (x == ("__debug__" : Str)) = false := by decide) : ∃ te, QE X (.Name x pos) te (dC (.tup ys)) := by
  obtain ⟨a, o, its, n, vs, hm, hl, hc, hda, hz, hv, hr⟩ := g.at_
  refine ⟨_, q_gc (v := .ref a) ⟨_, hm, rfl⟩ (fun c => .tup (.inr ⟨o, its, n, hl, hc, hda, hz, hv⟩) ?_ (hr c)) hg hd⟩
  have := (hr ⟨[], fun _ => none, fun _ => none⟩).length
  rw [← this, hv.length, Array.length_toList]; exact hz
theorem q_gtC {ys : List Vl} (g : GcT X.K X.mg x ys) (hg : Gl X x := by rfl) (hd : (x == ("__debug__" : Str)) = false := by decide) : QE X (.Name x pos) (canE X.K (dC (.tup ys))) (dC (.tup ys)) :=
  ⟨pe_can (q_gtx g hg hd), can_e⟩
/-- a class that is built in, as a value -/
theorem q_ty {n : String} (hm : X.mg x = none) (hv : bootBuiltins x = some (.type n)) (hg : Gl X x := by rfl) (hn : x ≠ "__name__" := by decide) (hd : (x == ("__debug__" : Str)) = false := by decide) : QE X (.Name x pos) (tC (.ty n)) (dC (.op (.ty n))) :=
  ⟨pe_bltn hg hm hv rfl hn hd, sim_c fun _ => .op _⟩
/-- an own class, as a value -/
theorem q_own {C : Addr} (hm : X.mg x = some (.ref C)) (hg : Gl X x := by rfl) (hd : (x == ("__debug__" : Str)) = false := by decide) : QE X (.Name x pos) (tC (.ref C)) (dC (.op (.ref C))) :=
  ⟨pe_glob hg hm rfl hd, sim_c fun _ => .op _⟩
end

/-! ### what a value is -/
/-- an own class whose instances isinstance may be asked of -/
structure InsK (K : PySem.W.Frag) (C : Addr) : Prop where
  cl : Cls K C
  ha : PySem.W.findIn K (.ref C) "__class__" = some (some (.builtin "object.__class__"))
  hn : PySem.W.specialIn K (.builtin "object.__class__") "__get__" = some (some (.builtin "getset_descriptor.__get__"))
  htk : PySem.W.takesIn K (.builtin "object.__class__") = some true
  hm : PySem.W.mroIn K C (.type "object") = some true
inductive Kn where
  | non | bl | int | str | tup | lst | dict | own (C : Addr)
def Kn.v : Kn → Value
  | .non => .type "NoneType"
  | .bl => .type "bool"
  | .int => .type "int"
  | .str => .type "str"
  | .tup => .type "tuple"
  | .lst => .type "list"
  | .dict => .type "dict"
  | .own C => .ref C
def knOf (μ : Mu) : Vl → Option Kn
  | .non => some .non
  | .bl _ => some .bl
  | .int _ => some .int
  | .str _ => some .str
  | .tup _ => some .tup
  | .lst _ => some .lst
  | .frl _ => some .lst
  | .ref k => match μ[k]? with
    | some (.lst _) => some .lst
    | some (.dict _) => some .dict
    | some (.fdict _ _ _) => some .dict
    | some (.ins C _) => some (.own C)
    | _ => none
  | .op _ => none
theorem sqT_ty {K : PySem.W.Frag} {H : Hp} {a : Addr} {xs : List V} (h : SqT K H a xs) : TyX K H (.ref a) (.type "tuple") := by
  rcases h with (h | ⟨o, h⟩) | ⟨o, its, n, h, hc, _⟩
  · exact .base (.tup h)
  · exact .fTuple h
  · exact .kTuple h hc
theorem sqL_ty {K : PySem.W.Frag} {H : Hp} {a : Addr} {xs : List V} (h : SqL K H a xs) : TyX K H (.ref a) (.type "list") := by
  rcases h with (h | ⟨o, h⟩) | ⟨o, its, n, h, hc, _⟩
  · exact .base (.lst h)
  · exact .base (.frz h)
  · exact .kList h hc
theorem kn_ty {K : PySem.W.Frag} {c : Cf} {μ : Mu} {H : Hp} {v : V} {x : Vl} {t : Kn} (R : RM K c μ H) (r : Rep K c v x) (h : knOf μ x = some t) (hI : ∀ C, t = .own C → InsK K C) : TyX K H v t.v := by
  cases x with
  | non => cases r; cases h; exact .base .non
  | bl b => cases r; cases h; exact .base (.bl b)
  | int i => cases r; cases h; exact .base (.int i)
  | str y => cases r; cases h; exact .base (.str y)
  | tup xs =>
    cases h
    cases r with
    | tup h1 _ _ => exact sqT_ty (same_t R.sub h1)
  | lst xs =>
    cases h
    cases r with
    | lst h1 _ _ => exact .base (.lst (R.sub _ _ h1))
  | frl xs =>
    cases h
    cases r with
    | frl h1 _ _ => exact sqL_ty (same_l R.sub h1)
  | op w => cases h
  | ref k =>
    have h : (match μ[k]? with
      | some (.lst _) => some Kn.lst
      | some (.dict _) => some Kn.dict
      | some (.fdict _ _ _) => some Kn.dict
      | some (.ins C _) => some (Kn.own C)
      | _ => none) = some t := h
    cases e : μ[k]? with
    | none => rw [e] at h; cases h
    | some m =>
      rw [e] at h
      cases m with
      | dead => cases h
      | lst xs =>
        cases h
        obtain ⟨a, e1, _, vs, e2, _⟩ := ref_at R r e
        subst e1
        exact .base (.lst e2)
      | dict xs =>
        cases h
        obtain ⟨a, e1, _, vs, e2, _⟩ := ref_at R r e
        subst e1
        exact .base (.dK e2)
      | fdict o vs xs =>
        cases h
        obtain ⟨a, e1, _, e2, _⟩ := ref_at R r e
        subst e1
        exact .fDict e2
      | ins C fs =>
        cases h
        obtain ⟨a, e1, _, dx, vs, e2, _⟩ := ref_at R r e
        subst e1
        have I := hI C rfl
        exact .base (.ins e2 I.cl I.ha I.hn I.htk I.hm)
/-- the answers of isinstance by a class -/
abbrev An := Kn → Option Bool
structure AnOk (K : PySem.W.Frag) (ans : An) (c : Value) : Prop where
  ok : ∀ t b, ans t = some b → PySem.W.kitOne K t.v c = some b
  ins : ∀ C b, ans (.own C) = some b → InsK K C
def anT (n : String) : An
  | .non => some false
  | .bl => some (n == "bool" || n == "int")
  | .int => some (n == "int")
  | .str => some (n == "str")
  | .tup => some (n == "tuple")
  | .lst => some (n == "list")
  | .dict => some (n == "dict")
  | .own _ => none
def anC (subs : List (Addr × Bool)) : An
  | .own C => subs.lookup C
  | _ => some false
def anOr (a b : An) : An := fun t => match a t with
  | some true => some true
  | some false => b t
  | none => none
theorem anT_ok {K : PySem.W.Frag} {n : String} (h : n ∈ ["bool", "int", "str", "tuple", "list", "dict"]) : AnOk K (anT n) (.type n) := by
  refine ⟨fun t b e => ?_, fun C b e => nomatch e⟩
  have all : ∀ m ∈ ["bool", "int", "str", "tuple", "list", "dict"], kitB "NoneType" m = some false ∧ kitB "bool" m = some (m == "bool" || m == "int") ∧ kitB "int" m = some (m == "int") ∧ kitB "str" m = some (m == "str") ∧
    kitB "tuple" m = some (m == "tuple") ∧ kitB "list" m = some (m == "list") ∧ kitB "dict" m = some (m == "dict") := by decide +kernel
  obtain ⟨h1, h2, h3, h4, h5, h6, h7⟩ := all n h
  cases t with
  | own C => cases e
  | non => cases e; exact kit_ty h1
  | bl => cases e; exact kit_ty h2
  | int => cases e; exact kit_ty h3
  | str => cases e; exact kit_ty h4
  | tup => cases e; exact kit_ty h5
  | lst => cases e; exact kit_ty h6
  | dict => cases e; exact kit_ty h7
/-- no built-in value is of an own class -/
structure NoBl (K : PySem.W.Frag) (C : Addr) : Prop where
  non : PySem.W.kitOne K (.type "NoneType") (.ref C) = some false
  bl : PySem.W.kitOne K (.type "bool") (.ref C) = some false
  int : PySem.W.kitOne K (.type "int") (.ref C) = some false
  str : PySem.W.kitOne K (.type "str") (.ref C) = some false
  tup : PySem.W.kitOne K (.type "tuple") (.ref C) = some false
  lst : PySem.W.kitOne K (.type "list") (.ref C) = some false
  dict : PySem.W.kitOne K (.type "dict") (.ref C) = some false
theorem anC_ok {K : PySem.W.Frag} {C : Addr} {subs : List (Addr × Bool)} (n : NoBl K C) (h : ∀ D b, subs.lookup D = some b → PySem.W.kitOne K (.ref D) (.ref C) = some b ∧ InsK K D) : AnOk K (anC subs) (.ref C) := by
  refine ⟨fun t b e => ?_, fun D b e => (h D b e).2⟩
  cases t with
  | own D => exact (h D b e).1
  | non => cases e; exact n.non
  | bl => cases e; exact n.bl
  | int => cases e; exact n.int
  | str => cases e; exact n.str
  | tup => cases e; exact n.tup
  | lst => cases e; exact n.lst
  | dict => cases e; exact n.dict
def fIsi (ans : An) (cv : V) : DC := fun xs μ Q => ∃ x t b, xs = [x, .op cv] ∧ knOf μ x = some t ∧ ans t = some b ∧ Q (.bl b) μ
theorem sim_isi {K : PySem.W.Frag} {ans : An} {cv : V} {u : Value} (k : ClsV cv u) (ok : AnOk K ans u) : SimC K (rIsi K) (fIsi ans cv) := by
  intro c μ H vs xs Q P R r h kk
  obtain ⟨x, t, b, e, ht, hb, q⟩ := h
  subst e
  cases r with
  | cons r1 r2 =>
    obtain ⟨v2, e2, r3⟩ := reps1 r2
    subst e2
    cases r3
    exact ⟨_, cv, t.v, u, b, rfl, k, kn_ty R r1 ht (fun C e => ok.ins C b (by rw [← e]; exact hb)), ok.ok t b hb, kk c _ μ _ H (Ext.refl c) R (.bl b) q⟩
section
variable {X : Cx} {e : Expr} {es : List Expr} {te : TE} {de : DE} {ta : TA} {da : DA} {x : Str} {pos p p1 p2 p3 : Pos}
theorem q_isi {e2 : Expr} {ans : An} {cv : V} {u : Value} (k : ClsV cv u) (ok : AnOk X.K ans u) (hm : X.mg "isinstance" = none) (ha : QA X [e, e2] ta da) (hg : Gl X "isinstance" := by rfl) (he : starEach [e, e2] X.env = (false, eval e X.env) :: starEach [e2] X.env := by rfl) (hpl : (backTo pos (starEach [e2] X.env)).any (·.1) = false := by rfl) :
    QE X (.Call (.Name "isinstance" p) [e, e2] [] pos) (tCB (rIsi X.K) ta) (dCB (fIsi ans cv) da) :=
  q_callB call_isi (sim_isi k ok) hm (by decide +kernel) ha hg (by decide) (by decide) he hpl
/-- isinstance(e, (c1, c2)), the tuple laid there and then -/
def dIsi2 (ans : An) (de : DE) : DE := fun ρ μ Q => de ρ μ fun x μ1 => ∃ t b, knOf μ1 x = some t ∧ ans t = some b ∧ Q (.bl b) μ1
theorem q_isi2 {x1 x2 : Str} {n1 n2 : String} {k : Nat} (h1 : n1 ∈ ["bool", "int", "str", "tuple", "list", "dict"]) (h2 : n2 ∈ ["bool", "int", "str", "tuple", "list", "dict"]) (hm : X.mg "isinstance" = none) (m1 : X.mg x1 = none) (m2 : X.mg x2 = none) (v1 : bootBuiltins x1 = some (.type n1)) (v2 : bootBuiltins x2 = some (.type n2)) (ha : QE X e te de)
    (hg : Gl X "isinstance" := by rfl) (g1 : Gl X x1 := by rfl) (g2 : Gl X x2 := by rfl) (d1 : x1 ≠ "__name__" := by decide) (d2 : x2 ≠ "__name__" := by decide) (b1 : (x1 == ("__debug__" : Str)) = false := by decide) (b2 : (x2 == ("__debug__" : Str)) = false := by decide)
    (hs1 : starEach [.Name x1 p1, .Name x2 p2] X.env = (false, eval (.Name x1 p1) X.env) :: starEach [.Name x2 p2] X.env := by rfl) (hs2 : starEach [.Name x2 p2] X.env = (false, eval (.Name x2 p2) X.env) :: starEach [] X.env := by rfl)
    (ht : starEach [.Tuple [.Name x1 p1, .Name x2 p2] k p3] X.env = (false, eval (.Tuple [.Name x1 p1, .Name x2 p2] k p3) X.env) :: starEach [] X.env := by rfl)
    (he : starEach [e, .Tuple [.Name x1 p1, .Name x2 p2] k p3] X.env = (false, eval e X.env) :: starEach [.Tuple [.Name x1 p1, .Name x2 p2] k p3] X.env := by rfl) (hpl : (backTo pos (starEach [.Tuple [.Name x1 p1, .Name x2 p2] k p3] X.env)).any (·.1) = false := by rfl) :
    QE X (.Call (.Name "isinstance" p) [e, .Tuple [.Name x1 p1, .Name x2 p2] k p3] [] pos) (tCB (rIsiT X.K) (tCons te (tCons (tTup (tCons (tC (.ty n1)) (tCons (tC (.ty n2)) tNil))) tNil))) (dIsi2 (anOr (anT n1) (anT n2)) de) := by
  have pt : PE X (.Tuple [.Name x1 p1, .Name x2 p2] k p3) (tTup (tCons (tC (.ty n1)) (tCons (tC (.ty n2)) tNil))) := pe_tup (pa_cons (pe_bltn g1 m1 v1 rfl d1 b1) (pa_cons (pe_bltn g2 m2 v2 rfl d2 b2) pa_nil hs2) hs1)
  refine ⟨pe_callB call_isiT hg hm (by decide +kernel) (pa_cons ha.p (pa_cons pt pa_nil ht) he) (by decide) (by decide) he hpl, fun c ρ μ σ H Q P R S h kk => ?_⟩
  refine ha.s c ρ μ σ H _ _ R S h fun c1 x μ1 v H1 E1 R1 r1 q1 => ?_
  obtain ⟨t, b, hk, hb, q⟩ := q1
  refine ⟨by show 2 ≤ sizeLine; rw [sizeLine_eq]; decide, fun tp htp => ?_⟩
  obtain ⟨R2, E2⟩ := R1.still (o := .tup [.ty n1, .ty n2]) htp
  have own : ∀ C, t = .own C → InsK X.K C := fun C e => by rw [e] at hb; cases hb
  have k1 : PySem.W.kitAny X.K t.v [.type n1, .type n2] = some b := by
    unfold anOr at hb
    split at hb
    · rename_i hb1
      cases hb
      exact kitAny_cons ((anT_ok h1).ok t true hb1) (fun z => nomatch z) (fun _ => rfl)
    · rename_i hb1
      exact kitAny_cons ((anT_ok h1).ok t false hb1) (fun _ => kitAny_cons ((anT_ok h2).ok t b hb) (fun z => by rw [z]; exact kitAny_nil) (fun z => z)) (fun z => nomatch z)
    · cases hb
  exact ⟨v, tp, [.ty n1, .ty n2], t.v, [.type n1, .type n2], b, rfl, upd_same, .cons (.ty n1) (.cons (.ty n2) .nil), kn_ty R2 (r1.up E2.toExt0) hk own, k1, kk _ _ μ1 _ _ (E1.trans E2) R2 (.bl b) q⟩
end
end DL

set_option maxHeartbeats 2000000
/-! DMb: {k: v for a in .. for b in ..}, at the machine. -/
namespace DL
open PySem PySem.Spec L2 StX PyProof.Rows
section
variable {M : Program} {w : World} {A : Around} {R : Result → Shared → Prop} {s : Shared} {ke ve ta sa tb sb : Expr} {bs : Scope} {pz : Pos} {iv : Value} {L : Addr} {en : Env}
/-- the comprehension told of -/
abbrev dcE (ke ve ta sa tb sb : Expr) (bs : Scope) (pz : Pos) : Expr := .DictComp ke ve [⟨ta, sa, [], 0⟩, ⟨tb, sb, [], 0⟩] bs pz
theorem dc_turn0 : compTurn (dcE ke ve ta sa tb sb bs pz) 0 iv (.ref L) en = (do
    standAt sa.pos
    match ← pyNext iv with
    | none => pure (.done .next)
    | some v =>
      letOwnedTupleGo ta iv v
      assign ta en v
      let x ← eval sb en
      standAt sb.pos
      let x ← foldedSetIterable sb en x
      let _ ← runOwn (.compStart (dcE ke ve ta sa tb sb bs pz) 1 (← holding [x] (pyIter x)) (.ref L) en) en
      again (.compLoop (dcE ke ve ta sa tb sb bs pz) 0 iv (.ref L) en)) := by rfl
theorem dc_turn1 : compTurn (dcE ke ve ta sa tb sb bs pz) 1 iv (.ref L) en = (do
    standAt sb.pos
    match ← pyNext iv with
    | none => pure (.done .next)
    | some v =>
      letOwnedTupleGo tb iv v
      assign tb en v
      (do
        let kv ← eval ke en
        let vv ← holding [kv] (eval ve en)
        standAt { ke.pos with endLine := ve.pos.endLine, endCol := ve.pos.endCol }
        holding [kv, vv] (dictSet L kv vv))
      again (.compLoop (dcE ke ve ta sa tb sb bs pz) 1 iv (.ref L) en)) := by rfl
abbrev NoX : Value → Shared → Prop := fun _ _ => False
theorem nox_all {P : Value → Shared → Prop} : ∀ e s, NoX e s → P e s := fun _ _ h => False.elim h
/-- both loops, nothing raised in them -/
theorem dc_loop0 (hf : ∀ x, foldedSetIterable sb en x = pure x) (J : Nat → Shared → Prop)
    (one : ∀ n s, J n s → wpAny (model M w) A (pyNext iv) (fun r s1 => match r with
      | none => R (.ok .next) s1
      | some v => wpAny (model M w) A (letOwnedTupleGo ta iv v) (fun _ s2 => wpAny (model M w) A (assign ta en v) (fun _ s3 => wpAny (model M w) A (eval sb en) (fun x s4 => wpAny (model M w) A (pyIter x) (fun i1 s5 =>
          codeAny (model M w) A (.compStart (dcE ke ve ta sa tb sb bs pz) 1 i1 (.ref L) en) (fun r s' => match r with
            | .ok _ => ∃ m, m < n ∧ J m s'
            | .error _ => False) s5) NoX s4) NoX s3) NoX s2) NoX s1) NoX s) (n : Nat) (h : J n s) :
    codeAny (model M w) A (.compLoop (dcE ke ve ta sa tb sb bs pz) 0 iv (.ref L) en) R s := by
  refine codeAny_loop rfl J (fun n s hJ => ?_) n h
  show wpAny _ A ((compTurn (dcE ke ve ta sa tb sb bs pz) 0 iv (.ref L) en).onRaise (fun x => do noteFrame x en; theTreesLotGoes x)) _ _ s
  refine wpAny_noted ?_
  rw [dc_turn0]
  refine wpAny_bind (wpAny_standAt (wpAny_bind (wpAny_mono (one n s hJ) (fun r s1 h1 => ?_) nox_all)))
  cases r with
  | none => exact wpAny_pure h1
  | some v =>
    refine wpAny_bind (wpAny_mono h1 (fun _ s2 h2 => ?_) nox_all)
    refine wpAny_bind (wpAny_mono h2 (fun _ s3 h3 => ?_) nox_all)
    refine wpAny_bind (wpAny_mono h3 (fun x s4 h4 => ?_) nox_all)
    refine wpAny_bind (wpAny_standAt (wpAny_bind (wpAny_of_eq (hf x) (wpAny_bind (wpAny_holding (wpAny_mono h4 (fun i1 s5 h5 => ?_) nox_all))))))
    refine wpAny_bind (wpAny_runOwn ?_)
    rw [Around.mark_none]
    refine codeAny_mono h5 fun r s' hr => ?_
    cases r with
    | error e => exact False.elim hr
    | ok f =>
      first
        | exact wpAny_pure ⟨rfl, hr⟩
        | exact wpAny_bind (wpAny_pure (wpAny_pure ⟨rfl, hr⟩))
theorem dc_loop1 (J : Nat → Shared → Prop)
    (one : ∀ n s, J n s → wpAny (model M w) A (pyNext iv) (fun r s1 => match r with
      | none => R (.ok .next) s1
      | some v => wpAny (model M w) A (letOwnedTupleGo tb iv v) (fun _ s2 => wpAny (model M w) A (assign tb en v) (fun _ s3 => wpAny (model M w) A (eval ke en) (fun kv s4 => wpAny (model M w) A (eval ve en) (fun vv s5 =>
          wpAny (model M w) A (dictSet L kv vv) (fun _ s6 => ∃ m, m < n ∧ J m s6) NoX s5) NoX s4) NoX s3) NoX s2) NoX s1) NoX s) (n : Nat) (h : J n s) :
    codeAny (model M w) A (.compLoop (dcE ke ve ta sa tb sb bs pz) 1 iv (.ref L) en) R s := by
  refine codeAny_loop rfl J (fun n s hJ => ?_) n h
  show wpAny _ A ((compTurn (dcE ke ve ta sa tb sb bs pz) 1 iv (.ref L) en).onRaise (fun x => do noteFrame x en; theTreesLotGoes x)) _ _ s
  refine wpAny_noted ?_
  rw [dc_turn1]
  refine wpAny_bind (wpAny_standAt (wpAny_bind (wpAny_mono (one n s hJ) (fun r s1 h1 => ?_) nox_all)))
  cases r with
  | none => exact wpAny_pure h1
  | some v =>
    refine wpAny_bind (wpAny_mono h1 (fun _ s2 h2 => ?_) nox_all)
    refine wpAny_bind (wpAny_mono h2 (fun _ s3 h3 => ?_) nox_all)
    refine wpAny_bind (wpAny_bind (wpAny_mono h3 (fun kv s4 h4 => ?_) nox_all))
    refine wpAny_bind (wpAny_holding (wpAny_mono h4 (fun vv s5 h5 => ?_) nox_all))
    exact wpAny_bind (wpAny_standAt (wpAny_holding (wpAny_mono h5 (fun _ s6 h6 => wpAny_pure ⟨rfl, h6⟩) nox_all)))
theorem dc_start1 (h0 : codeAny (model M w) A (.compLoop (dcE ke ve ta sa tb sb bs pz) 1 iv (.ref L) en) R s)
    (h : wpAny (model M w) A (pyIter iv) (fun i' s' => codeAny (model M w) A (.compLoop (dcE ke ve ta sa tb sb bs pz) 1 i' (.ref L) en) R s') (notedBy (model M w) A en fun x s' => R (.error x) s') s) :
    codeAny (model M w) A (.compStart (dcE ke ve ta sa tb sb bs pz) 1 iv (.ref L) en) R s := by
  refine codeAny_of_tree ?_
  show wpAny _ _ ((compStart (dcE ke ve ta sa tb sb bs pz) 1 iv (.ref L) en).onRaise (fun x => do noteFrame x en; standAt theWindowsPlace)) _ _ s
  refine wpAny_notedAt ?_
  unfold compStart
  show wpAny _ _ (ask >>= _) _ _ s
  refine wpAny_bind (wpAny_askSetting (wpAny_ite ?_))
  split
  · first
      | exact wpAny_pure (And.intro rfl h0)
      | exact wpAny_bind (wpAny_pure (wpAny_pure (And.intro rfl h0)))
  · refine wpAny_bind (wpAny_rule ?_)
    show wpAny _ _ (standAt sb.pos >>= _) _ _ s
    exact wpAny_bind (wpAny_standAt (wpAny_bind (wpAny_mono h (fun _ _ h' => wpAny_pure (And.intro rfl h')) fun _ _ x => x)))
end
theorem wipe_off {σ : L2.St} {i : Nat} {vs : List Nat} (h : i ∉ vs) : (L2.wipe σ vs)[i]? = σ[i]? := by rw [wipe_get, if_neg h]
theorem thnY {α : Type} {Y : Cx} {m : Sem α} {Q Q' : α → Shared → Prop} {E : Value → Shared → Prop} {s : Shared} (eX : Y.xe = NoX) (h : wpAny (model Y.prog Y.w) Y.A m Q Y.xe s) (k : ∀ v s', Q v s' → Q' v s') : wpAny (model Y.prog Y.w) Y.A m Q' E s := by
  rw [eX] at h
  exact wpAny_mono h k nox_all
section
variable {X : Cx}
/-- the second clause's loop: D the new dict; what comes when it ends -/
def tDcIn (g : TG) (tk tv : TE) (vs2 : List Nat) (D : Addr) (σ : L2.St) (J : It) (H : Hp) (N : Hp → Prop) : Prop := ∃ W : Nat → Nat → Hp → Prop, (∃ m, W 0 m H) ∧ ∀ i m H, W i m H →
  (J.stop i H ∧ N H) ∨ (J.go i H ∧ ∃ Nx : Hp → Prop, (∀ H', Nx H' → ∃ m', m' < m ∧ W (i + 1) m' H') ∧ ∀ x H', J.yld i H x H' → g x (L2.wipe σ vs2) H' fun σ3 H3 => L2.wipe σ3 vs2 = L2.wipe σ vs2 ∧ tk σ3 H3 fun y H4 => tv σ3 H4 fun z H5 =>
    ∃ kvs k, y = kV k ∧ H5 D = some (.dK kvs) ∧ kvs.length < sizeLine ∧ Nx (upd H5 D (.dK (L2.putK kvs k z))))
def tDc2 (wi : TI) (g : TG) (wi2 : TI) (g2 : TG) (tk tv : TE) (vs vs2 : List Nat) : TE := fun σ H Q => wi σ H fun J H1 => ∀ D, H1 D = none → ∃ W : Nat → Nat → Hp → Prop, (∃ m, W 0 m (upd H1 D (.dK []))) ∧ ∀ i m H, W i m H →
  (J.stop i H ∧ Q (.ref D) H) ∨ (J.go i H ∧ ∃ Nx : Hp → Prop, (∀ H', Nx H' → ∃ m', m' < m ∧ W (i + 1) m' H') ∧ ∀ x H', J.yld i H x H' → g x (L2.wipe σ vs) H' fun σ2 H2 => L2.wipe σ2 vs = L2.wipe σ vs ∧ wi2 σ2 H2 fun J2 H3 => tDcIn g2 tk tv vs2 D σ2 J2 H3 Nx)
theorem pe_dc2 {ke ve ta sa tb sb : Expr} {bs : Scope} {pz : Pos} {own : List (Str × Nat)} {vs2 : List Nat} {wi wi2 : TI} {g g2 : TG} {tk tv : TE} (hc : X.calm = true) (hN : X.N.Nodup) (hi : PI X ta sa wi) (ok : BlkOk X.N X.env.scope bs own) (hv : ∀ i ∈ vs2, i ∈ own.map (·.2))
    (hin : ∀ (s : Shared) (H : Hp) (C : Addr) (cl : List (Str × Addr)) (fp : List Addr), PG (X.blk s H bs (compEnvC bs cl C X.env) fp) ta g ∧ PI (X.blk s H bs (compEnvC bs cl C X.env) fp) tb sb wi2 ∧ PG (X.blk s H bs (compEnvC bs cl C X.env) fp) tb g2 ∧ PE (X.blk s H bs (compEnvC bs cl C X.env) fp) ke tk ∧ PE (X.blk s H bs (compEnvC bs cl C X.env) fp) ve tv)
    (hs : ∀ x, foldedSetIterable sa X.env x = pure x := by intro _; rfl) (hs2 : ∀ en x, foldedSetIterable sb en x = pure x := by intro _ _; rfl) : PE X (dcE ke ve ta sa tb sb bs pz) (tDc2 wi g wi2 g2 tk tv (own.map (·.2)) vs2) := by
  refine ⟨fun pins s σ H Q I h => ?_⟩
  rw [arm_eval_DictComp]
  refine wpAny_comprehension_free (use := none) rfl hs (closure_ok fun y hy e => (ok.free y hy e).elim (fun k => I.ok.has _ (.inl k)) fun k => I.ok.has _ (.inr k)) ok.kind (fun y hy e => by rw [ok.uniq y hy, e])
    (thn (hi.run pins s σ H _ I h) fun xv s1 hx => thn hx fun itv s2 ⟨it, fp, tn, J, H2, e, I2, T, st2, f2, q⟩ => ?_)
  subst e
  refine wpAny_newObj_type (newEnv_comp ?_)
  -- the new dict lies at D
  obtain ⟨D, hD⟩ : ∃ D, s2.heap.objs.size = D := ⟨_, rfl⟩
  rw [hD]
  have hDn : H2 D = none := I2.hok.fresh (Nat.le_of_eq hD)
  obtain ⟨W, ⟨m0, w0⟩, turn⟩ := q D hDn
  obtain ⟨s3, hs3⟩ : ∃ s3 : Shared, ({ s2 with heap := s2.heap.push { cls := .type "dict", data := .dict #[] } } : Shared) = s3 := ⟨_, rfl⟩
  have hp3 : s3.heap = s2.heap.push { cls := .type "dict", data := .dict #[] } := by rw [← hs3]
  have I3 : L2.Inv X pins σ (upd H2 D (.dK [])) s3 := by
    rw [← hs3]
    refine I2.laid (t' := s2.toks) (fun b o e => Heap.get?_push_of_some _ e) (Nat.le_of_eq hD) ?_
    rw [← hD]; exact dk_empty s2.heap I2.big
  have f3 : ∀ b ∈ fp, FpOk X pins (upd H2 D (.dK [])) b ∧ b < s3.heap.objs.size := fun b hb => by
    obtain ⟨o, e, _⟩ := T.obj _ _ st2 b hb
    have hlt := Heap.lt_size e
    refine ⟨⟨?_, (f2 b hb).2⟩, by rw [hp3, Heap.size_push]; exact Nat.lt_succ_of_lt hlt⟩
    rw [upd_ne (by rw [← hD]; exact Nat.ne_of_lt hlt)]
    exact (f2 b hb).1
  have st3 : tn 0 s3.heap := T.keep _ _ _ st2 fun b _ o e => by rw [hp3]; exact Heap.get?_push_of_some _ e
  have I4 := block_start I3 ok hN f3
  obtain ⟨pg, pi2, pg2, pk, pv⟩ := hin s3 (upd H2 D (.dK [])) s3.heap.objs.size (cellsFrom (s3.heap.objs.size + 1) bs.names (cloFrom X.env.cells bs.names [])) fp
  rw [hs3]
  have goal : codeAny (model X.prog X.w) X.A (.compStart (dcE ke ve ta sa tb sb bs pz) 0 (.ref it) (.ref D) (compEnvC bs (cellsFrom (s3.heap.objs.size + 1) bs.names (cloFrom X.env.cells bs.names [])) s3.heap.objs.size X.env))
      (compPost (model X.prog X.w) X.A X.xe none (EP X pins σ Q) (.ref D) s3.heap.objs.size) { s3 with heap := pushCells (s3.heap.push { cls := .type "dict", data := .dict #[] }) bs.names } := by
    have n3 : ∀ b ∈ fp, (upd H2 D (.dK [])) b = none := fun b hb => (f3 b hb).1.1
    generalize hce : compEnvC bs (cellsFrom (s3.heap.objs.size + 1) bs.names (cloFrom X.env.cells bs.names [])) s3.heap.objs.size X.env = ce at I4 pg pi2 pg2 pk pv ⊢
    have cL : ce.locals = s3.heap.objs.size := by rw [← hce]; rfl
    generalize upd H2 D (.dK []) = H3 at I3 I4 pg pi2 pg2 pk pv w0 n3 f3
    have st4 : tn 0 (pushCells (s3.heap.push { cls := .type "dict", data := .dict #[] }) bs.names) := T.keep _ _ _ st3 fun b _ o e => pushCells_keeps _ _ _ _ (Heap.get?_push_of_some _ e)
    generalize hs4 : ({ s3 with heap := pushCells (s3.heap.push { cls := .type "dict", data := .dict #[] }) bs.names } : Shared) = s4 at I4 ⊢
    have st4 : tn 0 s4.heap := by rw [← hs4]; exact st4
    -- the block
    generalize hY : X.blk s3 H3 bs ce fp = Y at I4 pg pi2 pg2 pk pv
    have eP : Y.prog = X.prog := by rw [← hY]
    have eW : Y.w = X.w := by rw [← hY]
    have eK : Y.K = X.K := by rw [← hY]
    have eA : Y.A = X.A := by rw [← hY]
    have eC : Y.calm = true := by rw [← hY]; exact hc
    have eX : Y.xe = NoX := by rw [← hY]
    have eE : Y.env = ce := by rw [← hY]
    have stat : ∀ {σ' : L2.St} {H' : Hp} {s' : Shared}, L2.Inv Y [] σ' H' s' → (∀ b ∈ fp, H' b = none) → ∀ b ∈ fp, FpOk Y [] H' b := by
      subst hY
      exact fun {σ' H' s'} I' hn b hb => ⟨hn b hb, (I'.ok.exf b hb).1, I'.ok.exfs b hb, .inl hb, fun x c e => (I'.ok.exf b hb).2 x c e, fun p hp => absurd (show p ∈ ([] : List (Addr × Obj)) ++ [] from hp) (by simp)⟩
    have back : ∀ {σ' : L2.St} {H' : Hp} {s' : Shared}, L2.Inv Y [] σ' H' s' → Q (.ref D) H' → compPost (model X.prog X.w) X.A X.xe none (EP X pins σ Q) (.ref D) s3.heap.objs.size (.ok .next) s' := by
      subst hY
      intro σ' H' s' I' qq
      have I7 : L2.Inv X pins σ H' s' := I3.call' (ch := fp) I'.os I'.base I'.hok I'.bare fun b hb => ⟨(f3 b hb).1.2.2.2.1, (f3 b hb).1.2.1, (f3 b hb).1.2.2.2.2.1, (f3 b hb).1.2.2.2.2.2⟩
      have nC : H' s3.heap.objs.size = none := by have z : H' ce.locals = none := I'.free; rw [cL] at z; exact z
      obtain ⟨m, hn, _⟩ := I'.loc
      have hn : s'.heap.Ns ce.locals m := hn
      rw [cL] at hn
      obtain ⟨g0, g1, g2, g3, g4, g5⟩ := I3.fpOk (Nat.le_refl _) nC
      exact ⟨m, hn, fun h'' sb => ⟨.ref D, H', I7.turned (t' := s'.toks) (fun b o hb e => (sb.2 b hb).trans e) g0 g1 g3 g4 g5, rfl, qq⟩⟩
    clear hY
    obtain ⟨pP, pw, pK, pA, pC, pE⟩ : Y.prog = X.prog ∧ Y.w = X.w ∧ Y.K = X.K ∧ Y.A = X.A ∧ Y.calm = true ∧ Y.env = ce := ⟨eP, eW, eK, eA, eC, eE⟩
    rw [← pP, ← pw, ← pA] at back ⊢
    have T : Turn Y.prog Y.w Y.K ta J fp it tn := by rw [pP, pw, pK]; exact T
    have go : codeAny (model Y.prog Y.w) Y.A (.compLoop (dcE ke ve ta sa tb sb bs pz) 0 (.ref it) (.ref D) Y.env) (compPost (model Y.prog Y.w) Y.A X.xe none (EP X pins σ Q) (.ref D) s3.heap.objs.size) s4 := by
      refine dc_loop0 (hs2 _) (fun n s' => ∃ i H', L2.Inv Y [] (L2.wipe σ (own.map (·.2))) H' s' ∧ tn i s'.heap ∧ (∀ b ∈ fp, H' b = none) ∧ W i n H') ?_ m0 ⟨0, H3, I4, st4, n3, w0⟩
      rintro n s5 ⟨i, H5, I5, st5, n5, w5⟩
      rcases turn i n H5 w5 with ⟨stop, qq⟩ | ⟨goes, Nx, hNx, step⟩
      · refine thnF (T.done Y rfl rfl rfl pC i [] s5 _ H5 (fun _ _ => False) I5 (stat I5 n5) st5 stop) fun r s6 ⟨hr, I6⟩ => ?_
        subst hr
        exact back I6 qq
      refine thnF (T.item Y rfl rfl rfl pC i [] s5 _ H5 (fun _ _ => False) I5 (stat I5 n5) st5 goes) fun r s6 ⟨u, hr, h6⟩ => ?_
      subst hr
      refine thnF h6 fun _ s7 ⟨x, H7, I7, r7, y7, st7, n7⟩ => ?_
      refine thnY eX (pg.run _ s7 _ H7 x u _ (I7.pinned (stat I7 n7) (T.obj _ _ st7)) r7 (step x H7 y7)) fun _ s8 ⟨σ8, H8, I8, hw8, q8⟩ => ?_
      refine thnY eX (pi2.run _ s8 σ8 H8 _ I8 q8) fun xv s10 hx => thnY eX hx fun itv s11 ⟨it1, fp1, tn1, J1, H11, e1, I11, T1, st11, f11, W1, ⟨m1, w1⟩, turn1⟩ => ?_
      subst e1
      have stat1 : ∀ {H' : Hp}, (∀ b ∈ fp1, H' b = none) → ∀ b ∈ fp1, FpOk Y ([] ++ pinsAt fp s7.heap) H' b := fun hn b hb => ⟨hn b hb, (f11 b hb).2⟩
      have inner : codeAny (model Y.prog Y.w) Y.A (.compLoop (dcE ke ve ta sa tb sb bs pz) 1 (.ref it1) (.ref D) Y.env) (fun r s' => match r with
          | .ok _ => ∃ m, m < n ∧ ∃ i H', L2.Inv Y [] (L2.wipe σ (own.map (·.2))) H' s' ∧ tn i s'.heap ∧ (∀ b ∈ fp, H' b = none) ∧ W i m H'
          | .error _ => False) s11 := by
        refine dc_loop1 (fun k s' => ∃ j H', L2.Inv Y ([] ++ pinsAt fp s7.heap) (L2.wipe σ8 vs2) H' s' ∧ tn1 j s'.heap ∧ (∀ b ∈ fp1, H' b = none) ∧ W1 j k H') ?_ m1 ⟨0, H11, I11.weak (wipe_length _ _) (fun j v e => (wipe_some e).1), st11, fun b hb => (f11 b hb).1, w1⟩
        rintro k s12 ⟨j, H12, I12, st12, n12, w12⟩
        rcases turn1 j k H12 w12 with ⟨stop1, nx1⟩ | ⟨goes1, Nx1, hNx1, step1⟩
        · refine thnF (T1.done Y rfl rfl rfl pC j _ s12 (L2.wipe σ8 vs2) H12 (fun _ _ => False) I12 (stat1 n12) st12 stop1) fun r s13 ⟨hr, I13⟩ => ?_
          subst hr
          obtain ⟨m', hm, w'⟩ := hNx H12 nx1
          have keep : ∀ b ∈ fp, ∀ o, s7.heap.get? b = some o → s13.heap.get? b = some o ∧ H12 b = none := fun b hb o e =>
            have z := I13.pin (b, o) (List.mem_append_right _ (List.mem_append_right _ (mem_pinsAt hb e)))
            ⟨z.1, z.2.1⟩
          have I14 : L2.Inv Y [] (L2.wipe σ (own.map (·.2))) H12 s13 := by
            refine (I13.unpinned (pins := [])).weak (by rw [← hw8, wipe_length, wipe_length]) fun j v e => ?_
            rw [← hw8] at e
            obtain ⟨a1, a2⟩ := wipe_some e
            rw [wipe_off fun z => a2 (hv j z)]
            exact a1
          exact ⟨m', hm, i + 1, H12, I14, T.keep _ _ _ st7 fun b hb o e => (keep b hb o e).1, fun b hb => (let ⟨o, e, _⟩ := T.obj _ _ st7 b hb; (keep b hb o e).2), w'⟩
        refine thnF (T1.item Y rfl rfl rfl pC j _ s12 (L2.wipe σ8 vs2) H12 (fun _ _ => False) I12 (stat1 n12) st12 goes1) fun r s13 ⟨u1, hr, h13⟩ => ?_
        subst hr
        refine thnF h13 fun _ s14 ⟨x1, H14, I14, r14, y14, st14, n14⟩ => ?_
        refine thnY eX (pg2.run _ s14 (L2.wipe σ8 vs2) H14 x1 u1 _ (I14.pinned (stat1 n14) (T1.obj _ _ st14)) r14 (step1 x1 H14 y14)) fun _ s15 ⟨σ15, H15, I15, hw15, q15⟩ => ?_
        refine thnY eX (pk.run _ s15 σ15 H15 _ I15 q15) fun kv s16 ⟨yk, H16, I16, r16, q16⟩ => ?_
        refine thnY eX (pv.run _ s16 σ15 H16 _ I16 q16) fun vv s17 ⟨yv, H17, I17, r17, kvs, ky, ek, hD17, hz17, nx⟩ => ?_
        subst ek
        refine d_dictSet (X := Y) I17 hD17 hz17 r16 r17 fun s18 I18 => ?_
        obtain ⟨m', hm, w'⟩ := hNx1 _ nx
        have keep : ∀ b ∈ fp1, ∀ o, s14.heap.get? b = some o → s18.heap.get? b = some o ∧ (upd H17 D (.dK (L2.putK kvs ky yv))) b = none := fun b hb o e =>
          have z := I18.pin (b, o) (List.mem_append_right _ (List.mem_append_right _ (mem_pinsAt hb e)))
          ⟨z.1, z.2.1⟩
        exact ⟨m', hm, j + 1, _, I18.unpinned.weak (by rw [← hw15, wipe_length]) (fun j v e => by rw [← hw15] at e; exact (wipe_some e).1), T1.keep _ _ _ st14 fun b hb o e => (keep b hb o e).1,
          fun b hb => (let ⟨o, e, _⟩ := T1.obj _ _ st14 b hb; (keep b hb o e).2), w'⟩
      exact dc_start1 inner (T1.self Y.A 0 _ _ _ st11 inner)
    rw [← pE]
    exact codeAny_compStart_dict go (T.self Y.A 0 _ _ _ st4 go)
  exact goal
end
end DL

set_option maxHeartbeats 2000000
/-! DMc: dict comprehensions over data; dicts that stay. -/
namespace DL
open PySem PySem.Spec L2 StX PyProof.Rows
theorem w_it {J : It} {n : Nat} {Gh : Hp → Prop} {Y : Nat → Hp → V → Hp → Prop} {H0 : Hp} {Stop : Hp → Prop} {Step : (Hp → Prop) → V → Hp → Prop} (wk : Walk J n Gh Y) (Pv : Nat → Hp → Prop) (h0 : Pv 0 H0) (hG : ∀ i H, i ≤ n → Pv i H → Gh H)
    (hs : ∀ i x H H', i < n → Pv i H → Y i H x H' → Step (Pv (i + 1)) x H') (hd : ∀ H, Pv n H → Stop H) :
    ∃ W : Nat → Nat → Hp → Prop, (∃ m, W 0 m H0) ∧ ∀ i m H, W i m H → (J.stop i H ∧ Stop H) ∨ (J.go i H ∧ ∃ Nx : Hp → Prop, (∀ H', Nx H' → ∃ m', m' < m ∧ W (i + 1) m' H') ∧ ∀ x H', J.yld i H x H' → Step Nx x H') := by
  refine ⟨fun i m H => m = n - i ∧ i ≤ n ∧ Pv i H, ⟨n, by simp, Nat.zero_le _, h0⟩, ?_⟩
  rintro i m H ⟨rfl, hi, p⟩
  by_cases hlt : i < n
  · exact .inr ⟨wk.goes i H hlt (hG i H hi p), Pv (i + 1), fun H' p' => ⟨n - (i + 1), by omega, rfl, hlt, p'⟩, fun x H' y => hs i x H H' hlt p (wk.yields i H x H' hlt (hG i H hi p) y)⟩
  · have e : i = n := by omega
    subst e
    exact .inl ⟨wk.stops H (hG i H hi p), hd H p⟩
/-! ### data -/
/-- the second clause's turns: k what comes behind them -/
def dcIn (G : Mu → Prop) (g : DG) (dk dv : DE) (ρ : Rho) (k : List (Key × Vl) → Mu → Prop) : List Vl → List (Key × Vl) → Mu → Prop
  | [], acc, μ => G μ ∧ k acc μ
  | x :: r, acc, μ => G μ ∧ g x ρ μ fun ρ2 μ2 => dk ρ2 μ2 fun y μ3 => dv ρ2 μ3 fun z μ4 => ∃ ky, keyV y = some ky ∧ acc.length < sizeLine ∧ dcIn G g dk dv ρ k r (putK' acc ky z) μ4
def dcOut (G : Mu → Prop) (g : DG) (di2 : DI) (g2 : DG) (dk dv : DE) (vs2 : List Nat) (ρ : Rho) (k : List (Key × Vl) → Mu → Prop) : List Vl → List (Key × Vl) → Mu → Prop
  | [], acc, μ => G μ ∧ k acc μ
  | x :: r, acc, μ => G μ ∧ g x ρ μ fun ρ2 μ2 => di2 ρ2 μ2 fun ys G2 μ3 => dcIn G2 g2 dk dv (wipeD ρ2 vs2) (fun acc' μ4 => dcOut G g di2 g2 dk dv vs2 ρ k r acc' μ4) ys acc μ3
def newD (acc : List (Key × Vl)) (μ : Mu) (Q : DK) : Prop := Q (.ref μ.length) (μ ++ [.dict acc])
def dDc2 (di : DI) (g : DG) (di2 : DI) (g2 : DG) (dk dv : DE) (vs vs2 : List Nat) : DE := fun ρ μ Q => di ρ μ fun xs G μ1 => dcOut G g di2 g2 dk dv vs2 (wipeD ρ vs) (fun acc μ2 => newD acc μ2 Q) xs [] μ1
def dDc (di : DI) (g : DG) (dk dv : DE) (vs : List Nat) : DE := fun ρ μ Q => di ρ μ fun xs G μ1 => dcIn G g dk dv (wipeD ρ vs) (fun acc μ2 => newD acc μ2 Q) xs [] μ1
theorem RepF.putK_length {K : PySem.W.Frag} {c : Cf} {ws : List (Key × V)} {acc : List (Key × Vl)} (r : RepF K c ws acc) : ws.length = acc.length := r.length
/-- what stands while the dict at D grows: from c1 on -/
def Grow (K : PySem.W.Frag) (c1 : Cf) (D : Addr) (T : List (Key × Vl) → Mu → Prop) (H : Hp) : Prop := ∃ c2 μ2 acc ws, Ext0 c1 c2 ∧ c2.Fr = upd c1.Fr D (.dK ws) ∧ RM K c2 μ2 H ∧ RepF K c2 ws acc ∧ T acc μ2
section
variable {K : PySem.W.Frag} {tk tv : TE} {dk dv : DE} {tg2 : TG} {dg2 : DG} {vs2 : List Nat}
/-- a loop of pairs: from any heap where the dict stands -/
theorem sim_dcIn (hg : SimG K tg2 dg2) (hw : InSlots tg2 vs2) (hk : SimE K tk dk) (hv : SimE K tv dv) {c1 c2 : Cf} {ρ : Rho} {σ : L2.St} {D : Addr} {μ : Mu} {H : Hp} {ws : List (Key × V)} {acc : List (Key × Vl)} {ys : List Vl} {G : Mu → Prop} {J : It} {T : List (Key × Vl) → Mu → Prop}
    (E2 : Ext0 c1 c2) (f2 : c2.Fr = upd c1.Fr D (.dK ws)) (R2 : RM K c2 μ H) (r2 : RepF K c2 ws acc) (S2 : RS K c2 ρ (L2.wipe σ vs2)) (wd : WalkD K c2 J ys G) (q : dcIn G dg2 dk dv ρ T ys acc μ) : tDcIn tg2 tk tv vs2 D σ J H (Grow K c1 D T) := by
  obtain ⟨Gh, Y, wk, hG, hY⟩ := wd
  refine w_it (Step := fun Nx x H' => tg2 x (L2.wipe σ vs2) H' fun σ3 H3 => L2.wipe σ3 vs2 = L2.wipe σ vs2 ∧ tk σ3 H3 fun y H4 => tv σ3 H4 fun z H5 => ∃ kvs k, y = kV k ∧ H5 D = some (.dK kvs) ∧ kvs.length < sizeLine ∧ Nx (upd H5 D (.dK (L2.putK kvs k z)))) wk
    (fun j H => ∃ c3 μ3 acc3 ws3, Ext0 c2 c3 ∧ Ext0 c1 c3 ∧ c3.Fr = upd c1.Fr D (.dK ws3) ∧ RM K c3 μ3 H ∧ RepF K c3 ws3 acc3 ∧ dcIn G dg2 dk dv ρ T (ys.drop j) acc3 μ3) ⟨c2, μ, acc, ws, Ext0.refl _, E2, f2, R2, r2, q⟩ (fun j H hj pv => ?_) (fun j v H H' hj pv y => ?_) fun H pv => ?_
  · obtain ⟨c3, μ3, acc3, ws3, E23, E3, f3, R3, r3, q3⟩ := pv
    refine hG c3 μ3 H E23 R3 ?_
    cases hx : ys.drop j with
    | nil => rw [hx] at q3; exact q3.1
    | cons z r => rw [hx] at q3; exact q3.1
  · obtain ⟨c3, μ3, acc3, ws3, E23, E3, f3, R3, r3, q3⟩ := pv
    rw [List.drop_eq_getElem_cons hj] at q3
    obtain ⟨g, q3⟩ := q3
    obtain ⟨c4, x, E4, R4, e4, r4⟩ := hY j H v H' c3 μ3 hj E23 R3 g y
    rw [List.getElem?_eq_getElem hj] at e4
    have e4 := Option.some.inj e4
    subst e4
    refine hw v (L2.wipe σ vs2) H' _ _ (fun σ5 H5 e5 q5 => ⟨e5.trans wipe_wipe, q5⟩) ?_
    refine hg c4 ρ μ3 _ H' v _ _ _ R4 ((S2.up E23).up E4.toExt0) r4 q3 fun c5 ρ5 μ5 σ5 H5 E5 R5 S5 q5 => ?_
    refine hk c5 ρ5 μ5 σ5 H5 _ _ R5 S5 q5 fun c6 y6 μ6 u6 H6 E6 R6 r6 q6 => ?_
    refine hv c6 ρ5 μ6 σ5 H6 _ _ R6 (S5.up E6.toExt0) q6 fun c7 z7 μ7 u7 H7 E7 R7 r7 q7 => ?_
    obtain ⟨ky, hky, hz, q8⟩ := q7
    obtain ⟨f6, hD6⟩ : c7.Fr = upd c1.Fr D (.dK ws3) ∧ c7.Fr D = some (.dK ws3) := by
      have f6 : c7.Fr = upd c1.Fr D (.dK ws3) := (((E4.trans E5).trans E6).trans E7).fr.trans f3
      exact ⟨f6, by rw [f6]; exact upd_same⟩
    have E37 := ((E4.trans E5).trans E6).trans E7
    have E79 : Ext0 c7 ⟨c7.al, c7.Hd, upd c7.Fr D (.dK (L2.putK ws3 ky u7))⟩ := ⟨fun _ _ z => z, Same.refl _⟩
    refine ⟨ws3, ky, keyV_rep r6 hky, R7.fsb _ _ hD6, by rw [r3.length]; exact hz, ?_⟩
    refine ⟨⟨c7.al, c7.Hd, upd c7.Fr D (.dK (L2.putK ws3 ky u7))⟩, μ7, putK' acc3 ky z7, L2.putK ws3 ky u7, (E23.trans E37.toExt0).trans E79, (E3.trans E37.toExt0).trans E79, ?_, R7.asideW hD6, ?_, q8⟩
    · show upd c7.Fr D _ = _
      rw [f6, upd_upd]
    · exact RepF.up E79 (RepF.putK r7 (RepF.up E37.toExt0 r3))
  · obtain ⟨c3, μ3, acc3, ws3, E23, E3, f3, R3, r3, q3⟩ := pv
    rw [List.drop_length] at q3
    exact ⟨c3, μ3, acc3, ws3, E3, f3, R3, r3, q3.2⟩
/-- the dict is done -/
theorem Grow.done {c c1 : Cf} {D : Addr} {Q : DK} {P : VK} {H : Hp} (E1 : Ext c c1) (hF : c1.Fr D = none) (g : Grow K c1 D (fun acc μ2 => newD acc μ2 Q) H) (k : ∀ c' x μ' v H', Ext c c' → RM K c' μ' H' → Rep K c' v x → Q x μ' → P v H') : P (.ref D) H := by
  obtain ⟨c2, μ2, acc, ws, E2, f2, R2, r2, q2⟩ := g
  have hD2 : c2.Fr D = some (.dK ws) := by rw [f2]; exact upd_same
  have hF2 : ∀ b u, c1.Fr b = some u → c2.Fr b = some u := fun b u e => by
    rw [f2, upd_ne (ne_of_none e hF)]; exact e
  have E9 : Ext0 c2 ⟨c2.al ++ [D], c2.Hd, c1.Fr⟩ := ⟨fun k a h => by
    show (c2.al ++ [D])[k]? = some a
    rw [List.getElem?_append_left (List.getElem?_eq_some_iff.mp h).1]; exact h, Same.refl _⟩
  obtain ⟨R9, _⟩ := R2.asideFresh (m := .dict acc) hD2 hF hF2 ⟨ws, rfl, RepF.up E9 r2⟩
  refine k _ _ _ _ _ ⟨(E1.toExt0.trans E2).trans E9, E1.fr⟩ R9 (.ref ?_) q2
  show (c2.al ++ [D])[μ2.length]? = some D
  rw [← R2.len]; simp
theorem Grow.begin {c1 : Cf} {D : Addr} {T : List (Key × Vl) → Mu → Prop} {μ : Mu} {H : Hp} (R : RM K c1 μ H) (hD : H D = none) (t : T [] μ) : Grow K c1 D T (upd H D (.dK [])) :=
  ⟨⟨c1.al, c1.Hd, upd c1.Fr D (.dK [])⟩, μ, [], [], ⟨fun _ _ z => z, Same.refl _⟩, rfl, R.aside hD, .nil, t⟩
theorem sim_dc2 {wi wi2 : TI} {di di2 : DI} {tg : TG} {dg : DG} {vs : List Nat} (hi : SimI K wi di) (hg : SimG K tg dg) (hw : InSlots tg vs) (hi2 : SimI K wi2 di2) (hg2 : SimG K tg2 dg2) (hw2 : InSlots tg2 vs2) (hk : SimE K tk dk) (hv : SimE K tv dv) :
    SimE K (tDc2 wi tg wi2 tg2 tk tv vs vs2) (dDc2 di dg di2 dg2 dk dv vs vs2) := by
  intro c ρ μ σ H Q P R S h k
  refine hi c ρ μ σ H _ _ R S h fun c1 xs G μ1 J H1 E1 R1 hz wd q1 => ?_
  obtain ⟨Gh, Y, wk, hG, hY⟩ := wd
  intro D hD
  have hF : c1.Fr D = none := R1.fsb.free hD
  have Sw : RS K c1 (wipeD ρ vs) (L2.wipe σ vs) := (S.up E1.toExt0).wipe vs
  refine w_it (Step := fun Nx x H' => tg x (L2.wipe σ vs) H' fun σ2 H2 => L2.wipe σ2 vs = L2.wipe σ vs ∧ wi2 σ2 H2 fun J2 H3 => tDcIn tg2 tk tv vs2 D σ2 J2 H3 Nx) wk
    (fun i H => Grow K c1 D (fun acc μ2 => dcOut G dg di2 dg2 dk dv vs2 (wipeD ρ vs) (fun acc μ2 => newD acc μ2 Q) (xs.drop i) acc μ2) H) (Grow.begin R1 hD q1) (fun i H hi pv => ?_) (fun i v H H' hi pv y => ?_) fun H pv => ?_
  · obtain ⟨c2, μ2, acc, ws, E2, f2, R2, r2, q2⟩ := pv
    refine hG c2 μ2 H E2 R2 ?_
    cases hx : xs.drop i with
    | nil => rw [hx] at q2; exact q2.1
    | cons z r => rw [hx] at q2; exact q2.1
  · obtain ⟨c2, μ2, acc, ws, E2, f2, R2, r2, q2⟩ := pv
    rw [List.drop_eq_getElem_cons hi] at q2
    obtain ⟨g, q2⟩ := q2
    obtain ⟨c3, x, E3, R3, e3, r3⟩ := hY i H v H' c2 μ2 hi E2 R2 g y
    rw [List.getElem?_eq_getElem hi] at e3
    have e3 := Option.some.inj e3
    subst e3
    refine hw v (L2.wipe σ vs) H' _ _ (fun σ4 H4 e4 q4 => ⟨e4.trans wipe_wipe, q4⟩) ?_
    refine hg c3 _ μ2 _ H' v _ _ _ R3 ((Sw.up E2).up E3.toExt0) r3 q2 fun c4 ρ4 μ4 σ4 H4 E4 R4 S4 q4 => ?_
    refine hi2 c4 ρ4 μ4 σ4 H4 _ _ R4 S4 q4 fun c5 ys G2 μ5 J2 H5 E5 R5 hz5 wd5 q5 => ?_
    have E25 := (E3.trans E4).trans E5
    exact sim_dcIn hg2 hw2 hk hv (E2.trans E25.toExt0) (E25.fr.trans f2) R5 (RepF.up E25.toExt0 r2) ((S4.up E5.toExt0).wipe vs2) wd5 q5
  · rw [List.drop_length] at pv
    obtain ⟨c2, μ2, acc, ws, E2, f2, R2, r2, g, q2⟩ := pv
    exact Grow.done E1 hF ⟨c2, μ2, acc, ws, E2, f2, R2, r2, q2⟩ k
end
section
variable {X : Cx} {ke ve ta sa tb sb : Expr} {bs : Scope} {pz : Pos} {own : List (Str × Nat)} {vs2 : List Nat} {wi : TI} {di di2 : DI} {dg dg2 : DG} {dk dv : DE}
def canI (K : PySem.W.Frag) (di : DI) : TI := fun σ H P => ∃ c ρ μ Q, RM K c μ H ∧ RS K c ρ σ ∧ di ρ μ Q ∧ ∀ c' xs G μ' J H', Ext c c' → RM K c' μ' H' → xs.length ≤ sizeLine → WalkD K c' J xs G → Q xs G μ' → P J H'
theorem can_i {K : PySem.W.Frag} {di : DI} : SimI K (canI K di) di := fun c ρ μ σ H Q P R S h k => ⟨c, ρ, μ, Q, R, S, h, k⟩
theorem pi_can {tg it : Expr} {di : DI} (h : ∃ wi, QI X tg it wi di) : PI X tg it (canI X.K di) := by
  obtain ⟨wi, h⟩ := h
  exact ⟨fun pins s σ H P I ⟨c, ρ, μ, Q, R, S, q, k⟩ => h.p.run pins s σ H P I (h.s c ρ μ σ H Q P R S q k)⟩
theorem q_dc2 (own : List (Str × Nat)) (vs2 : List Nat) (hc : X.calm = true) (hN : X.N.Nodup) (hi : QI X ta sa wi di) (ok : BlkOk X.N X.env.scope bs own) (hv : ∀ i ∈ vs2, i ∈ own.map (·.2))
    (hg : ∀ (s : Shared) (H : Hp) (C : Addr) (cl : List (Str × Addr)) (fp : List Addr), ∃ tg, QG (X.blk s H bs (compEnvC bs cl C X.env) fp) ta tg dg ∧ InSlots tg (own.map (·.2)))
    (hi2 : ∀ (s : Shared) (H : Hp) (C : Addr) (cl : List (Str × Addr)) (fp : List Addr), ∃ wi2, QI (X.blk s H bs (compEnvC bs cl C X.env) fp) tb sb wi2 di2)
    (hg2 : ∀ (s : Shared) (H : Hp) (C : Addr) (cl : List (Str × Addr)) (fp : List Addr), ∃ tg, QG (X.blk s H bs (compEnvC bs cl C X.env) fp) tb tg dg2 ∧ InSlots tg vs2)
    (hk : ∀ (s : Shared) (H : Hp) (C : Addr) (cl : List (Str × Addr)) (fp : List Addr), ∃ te, QE (X.blk s H bs (compEnvC bs cl C X.env) fp) ke te dk)
    (hw : ∀ (s : Shared) (H : Hp) (C : Addr) (cl : List (Str × Addr)) (fp : List Addr), ∃ te, QE (X.blk s H bs (compEnvC bs cl C X.env) fp) ve te dv)
    (hs : ∀ x, foldedSetIterable sa X.env x = pure x := by intro _; rfl) (hs2 : ∀ en x, foldedSetIterable sb en x = pure x := by intro _ _; rfl) :
    QE X (dcE ke ve ta sa tb sb bs pz) (tDc2 wi (canG X.K dg (own.map (·.2))) (canI X.K di2) (canG X.K dg2 vs2) (canE X.K dk) (canE X.K dv) (own.map (·.2)) vs2) (dDc2 di dg di2 dg2 dk dv (own.map (·.2)) vs2) :=
  ⟨pe_dc2 hc hN hi.p ok hv (fun s H C cl fp => ⟨pg_can (hg s H C cl fp), pi_can (hi2 s H C cl fp), pg_can (hg2 s H C cl fp), pe_can (hk s H C cl fp), pe_can (hw s H C cl fp)⟩) hs hs2,
    sim_dc2 hi.s can_g can_is can_i can_g can_is can_e can_e⟩
end
end DL

set_option maxHeartbeats 2000000
/-! DMd: dicts over data: one clause, dicts that stay, what is asked of them. -/
namespace DL
open PySem PySem.Spec L2 StX PyProof.Rows
section
variable {X : Cx} {ke ve ta sa e a b o i : Expr} {es : List Expr} {te to ti tb : TE} {de do_ di db : DE} {bs : Scope} {pz pos p : Pos} {own : List (Str × Nat)} {wi : TI} {dii : DI} {dg : DG} {dk dv : DE} {t : TA} {d : DA} {k : Nat}
theorem sim_dc1 {K : PySem.W.Frag} {tg : TG} {dg : DG} {tk tv : TE} {vs : List Nat} (hi : SimI K wi dii) (hg : SimG K tg dg) (hw : InSlots tg vs) (hk : SimE K tk dk) (hv : SimE K tv dv) : SimE K (tDc wi tg tYes tk tv vs) (dDc dii dg dk dv vs) := by
  intro c ρ μ σ H Q P R S h k
  refine hi c ρ μ σ H _ _ R S h fun c1 xs G μ1 J H1 E1 R1 hz wd q1 => ?_
  intro D hD
  have hF : c1.Fr D = none := R1.fsb.free hD
  have Sw : RS K c1 (wipeD ρ vs) (L2.wipe σ vs) := (S.up E1.toExt0).wipe vs
  have E0 : Ext0 c1 ⟨c1.al, c1.Hd, upd c1.Fr D (.dK [])⟩ := ⟨fun _ _ z => z, Same.refl _⟩
  have wd' : WalkD K ⟨c1.al, c1.Hd, upd c1.Fr D (.dK [])⟩ J xs G := by
    obtain ⟨Gh, Y, wk, hG, hY⟩ := wd
    exact ⟨Gh, Y, wk, fun c2 μ2 H2 E => hG c2 μ2 H2 (E0.trans E), fun i H2 v H3 c2 μ2 hi E => hY i H2 v H3 c2 μ2 hi (E0.trans E)⟩
  have z := sim_dcIn hg hw hk hv (c1 := c1) (D := D) (μ := μ1) (H := upd H1 D (.dK [])) (ws := []) (acc := []) (T := fun acc μ2 => newD acc μ2 Q) E0 rfl (R1.aside hD) .nil (Sw.up E0) wd' q1
  obtain ⟨W, ⟨m, w0⟩, turn⟩ := z
  refine ⟨W, ⟨m, w0⟩, fun i m H w => ?_⟩
  rcases turn i m H w with ⟨st, g⟩ | ⟨go, Nx, hn, step⟩
  · exact .inl ⟨st, Grow.done E1 hF g k⟩
  · refine .inr ⟨go, Nx, hn, fun x H' y => ?_⟩
    exact step x H' y
theorem q_dc1 (own : List (Str × Nat)) (hc : X.calm = true) (hN : X.N.Nodup) (hi : QI X ta sa wi dii) (ok : BlkOk X.N X.env.scope bs own)
    (hg : ∀ (s : Shared) (H : Hp) (C : Addr) (cl : List (Str × Addr)) (fp : List Addr), ∃ tg, QG (X.blk s H bs (compEnvC bs cl C X.env) fp) ta tg dg ∧ InSlots tg (own.map (·.2)))
    (hk : ∀ (s : Shared) (H : Hp) (C : Addr) (cl : List (Str × Addr)) (fp : List Addr), ∃ te, QE (X.blk s H bs (compEnvC bs cl C X.env) fp) ke te dk)
    (hw : ∀ (s : Shared) (H : Hp) (C : Addr) (cl : List (Str × Addr)) (fp : List Addr), ∃ te, QE (X.blk s H bs (compEnvC bs cl C X.env) fp) ve te dv)
    (hs : ∀ x, foldedSetIterable sa X.env x = pure x := by intro _; rfl) :
    QE X (.DictComp ke ve [⟨ta, sa, [], 0⟩] bs pz) (tDc wi (canG X.K dg (own.map (·.2))) tYes (canE X.K dk) (canE X.K dv) (own.map (·.2))) (dDc dii dg dk dv (own.map (·.2))) :=
  ⟨pe_dc hc hN hi.p ok (fun s H C cl fp => pg_can (hg s H C cl fp)) (fun s H C cl fp => pts_nil) (fun s H C cl fp => pe_can (hk s H C cl fp)) (fun s H C cl fp => pe_can (hw s H C cl fp)) hs, sim_dc1 hi.s can_g can_is can_e can_e⟩
/-! ### a dict that stays -/
def tFrz (te : TE) : TE := fun σ H Q => te σ H fun x H1 => ∃ a kvs, x = .ref a ∧ H1 a = some (.dK kvs) ∧ ∀ o, Q x (upd H1 a (.frz o (.dK kvs)))
def dFrz (de : DE) : DE := fun ρ μ Q => de ρ μ fun x μ1 => ∃ (k : Nat) (kvs : List (Key × Vl)), x = .ref k ∧ μ1[k]? = some (.dict kvs) ∧ ∀ o vs, Q x (μ1.set k (.fdict o vs kvs))
theorem q_frz (h : QE X e te de) : QE X e (tFrz te) (dFrz de) := by
  refine ⟨⟨fun pins s σ H Q I hw => ?_⟩, fun c ρ μ σ H Q P R S hw k => ?_⟩
  · refine thn (h.p.run pins s σ H _ I hw) fun v s1 ⟨x, H1, I1, r, a, kvs, ex, ha, q⟩ => ?_
    obtain ⟨o, I2⟩ := I1.lock ha True.intro
    exact ⟨x, _, I2, r, q o⟩
  · refine h.s c ρ μ σ H _ _ R S hw fun c1 x μ1 v H1 E1 R1 r1 q1 => ?_
    obtain ⟨j, kvs, ex, hj, q⟩ := q1
    subst ex
    obtain ⟨a, vs, e2, hk, h2, rf⟩ := dict_at R1 r1 hj
    exact ⟨a, vs, e2, h2, fun o => k c1 _ _ v _ E1 (R1.write (m := .fdict o vs kvs) hk ⟨rfl, rf⟩) r1 (q o vs)⟩
theorem fdict_at {K : PySem.W.Frag} {c : Cf} {μ : Mu} {H : Hp} {v : V} {k : Nat} {o : Obj} {vs : List (Key × V)} {fs : List (Key × Vl)} (R : RM K c μ H) (r : Rep K c v (.ref k)) (h : μ[k]? = some (.fdict o vs fs)) : ∃ a, v = .ref a ∧ c.al[k]? = some a ∧ H a = some (.frz o (.dK vs)) ∧ RepF K c vs fs := by
  obtain ⟨a, e, hk, h1, h2⟩ := ref_at R r h
  exact ⟨a, e, hk, h1, h2⟩
/-- the pairs of a dict -/
def dpairs (μ : Mu) : Vl → Option (List (Key × Vl))
  | .ref k => match μ[k]? with
    | some (.dict fs) => some fs
    | some (.fdict _ _ fs) => some fs
    | _ => none
  | _ => none
theorem dpairs_at {K : PySem.W.Frag} {c : Cf} {μ : Mu} {H : Hp} {v : V} {x : Vl} {fs : List (Key × Vl)} (R : RM K c μ H) (r : Rep K c v x) (h : dpairs μ x = some fs) : ∃ a vs, v = .ref a ∧ Rd H a (.dK vs) ∧ RepF K c vs fs := by
  cases x with
  | ref k =>
    have h : (match μ[k]? with
      | some (.dict fs) => some fs
      | some (.fdict _ _ fs) => some fs
      | _ => none) = some fs := h
    cases e : μ[k]? with
    | none => rw [e] at h; cases h
    | some m =>
      rw [e] at h
      cases m with
      | dict fs' =>
        cases h
        obtain ⟨a, vs, e2, _, h2, rf⟩ := dict_at R r e
        exact ⟨a, vs, e2, .inl h2, rf⟩
      | fdict o vs fs' =>
        cases h
        obtain ⟨a, e2, _, h2, rf⟩ := fdict_at R r e
        exact ⟨a, vs, e2, .inr ⟨o, h2⟩, rf⟩
      | _ => cases h
  | _ => cases h
def dDInA (neg : Bool) (di do_ : DE) : DE := fun ρ μ Q => di ρ μ fun y μ1 => do_ ρ μ1 fun x μ2 => ∃ (fs : List (Key × Vl)) (ky : Key), dpairs μ2 x = some fs ∧ keyV y = some ky ∧ Q (.bl ((valD fs ky).isSome != neg)) μ2
theorem sim_dinA {K : PySem.W.Frag} (hi : SimE K ti di) (ho : SimE K to do_) : SimE K (tDIn ti to) (dDInA false di do_) := by
  intro c ρ μ σ H Q P R S h kk
  refine hi c ρ μ σ H _ _ R S h fun c1 y μ1 v H1 E1 R1 r1 q1 => ?_
  refine ho c1 ρ μ1 σ H1 _ _ R1 (S.up E1.toExt0) q1 fun c2 x μ2 v2 H2 E2 R2 r2 q2 => ?_
  obtain ⟨fs, ky, hj, hy, q⟩ := q2
  obtain ⟨ad, vs, e2, h2, rf⟩ := dpairs_at R2 r2 hj
  refine ⟨ad, valV vs ky, e2, by rw [keyV_rep r1 hy]; exact .inl ⟨vs, ky, h2, rfl, rfl⟩, kk c2 _ μ2 _ H2 (E1.trans E2) R2 (.bl _) ?_⟩
  rw [show ((valD fs ky).isSome != false) = (valV vs ky).isSome from by rw [valK_some rf]; cases (valD fs ky).isSome <;> rfl] at q
  exact q
theorem sim_dnotinA {K : PySem.W.Frag} (hi : SimE K ti di) (ho : SimE K to do_) : SimE K (tDNotIn ti to) (dDInA true di do_) := by
  intro c ρ μ σ H Q P R S h kk
  refine hi c ρ μ σ H _ _ R S h fun c1 y μ1 v H1 E1 R1 r1 q1 => ?_
  refine ho c1 ρ μ1 σ H1 _ _ R1 (S.up E1.toExt0) q1 fun c2 x μ2 v2 H2 E2 R2 r2 q2 => ?_
  obtain ⟨fs, ky, hj, hy, q⟩ := q2
  obtain ⟨ad, vs, e2, h2, rf⟩ := dpairs_at R2 r2 hj
  refine ⟨ad, valV vs ky, e2, by rw [keyV_rep r1 hy]; exact .inl ⟨vs, ky, h2, rfl, rfl⟩, kk c2 _ μ2 _ H2 (E1.trans E2) R2 (.bl _) ?_⟩
  rw [show ((valD fs ky).isSome != true) = !(valV vs ky).isSome from by rw [valK_some rf]; cases (valD fs ky).isSome <;> rfl] at q
  exact q
theorem q_dinA (hr : Room k X.A) (hi : QE X i ti di) (ho : QE X o to do_) (hm : behindInMarks .In o = false := by rfl) : QE X (.Compare i [.In] [o] pos) (tDIn ti to) (dDInA false di do_) := ⟨pe_cmp (pc_din (by have := hr.units; omega) hi.p ho.p) hm, sim_dinA hi.s ho.s⟩
theorem q_dnotinA (hr : Room k X.A) (hi : QE X i ti di) (ho : QE X o to do_) (hm : behindInMarks .NotIn o = false := by rfl) : QE X (.Compare i [.NotIn] [o] pos) (tDNotIn ti to) (dDInA true di do_) := ⟨pe_cmp (pc_dnotin (by have := hr.units; omega) hi.p ho.p) hm, sim_dnotinA hi.s ho.s⟩
theorem qt_dinA (hr : Room k X.A) (hi : QE X i ti di) (ho : QE X o to do_) (hm : behindInMarks .In o = false := by rfl) : QT X (.Compare i [.In] [o] pos) (tB (tDIn ti to)) (dTest (dDInA false di do_)) := ⟨pt_cmp (pc_din (by have := hr.units; omega) hi.p ho.p) hm, sim_testB (sim_dinA hi.s ho.s)⟩
theorem qt_dnotinA (hr : Room k X.A) (hi : QE X i ti di) (ho : QE X o to do_) (hm : behindInMarks .NotIn o = false := by rfl) : QT X (.Compare i [.NotIn] [o] pos) (tB (tDNotIn ti to)) (dTest (dDInA true di do_)) := ⟨pt_cmp (pc_dnotin (by have := hr.units; omega) hi.p ho.p) hm, sim_testB (sim_dnotinA hi.s ho.s)⟩
/-! ### sorted(d), list(d), len(d), for k in d -/
def vKey : Key → Vl
  | .inl i => .int i
  | .inr x => .str x
theorem vKey_rep {K : PySem.W.Frag} {c : Cf} : ∀ ky : Key, Rep K c (kV ky) (vKey ky)
  | .inl i => .int i
  | .inr x => .str x
theorem RepF.keys {K : PySem.W.Frag} {c : Cf} {κ : Type} : ∀ {fs : List (κ × Vl)} {vs : List (κ × V)}, RepF K c vs fs → vs.map (·.1) = fs.map (·.1)
  | [], _, r => by cases r; rfl
  | _ :: _, _, r => by
    cases r with
    | cons r1 r2 => exact congrArg _ (RepF.keys r2)
theorem reps_keys {K : PySem.W.Frag} {c : Cf} : ∀ ks : List Key, Reps K c (ks.map kV) (ks.map vKey)
  | [] => .nil
  | k :: ks => .cons (vKey_rep k) (reps_keys ks)
def fSortedD : DC := fun xs μ Q => ∃ (x : Vl) (fs : List (Key × Vl)) (ks : List Int), xs = [x] ∧ dpairs μ x = some fs ∧ fs.map (·.1) = ks.map Sum.inl ∧ ks.length < 64 ∧ ∀ ys : List Int, ys.Perm ks → ys.Pairwise (· ≤ ·) → newL (ys.map .int) μ Q
theorem q_sortedD (hc : X.calm = true) (hm : X.mg "sorted" = none) (ha : QA X [e] t d) (hg : Gl X "sorted" := by rfl) (he : starEach [e] X.env = (false, eval e X.env) :: starEach [] X.env := by rfl) :
    QE X (.Call (.Name "sorted" p) [e] [] pos) (tCB (fun xs H Q => ∃ (a : Addr) (kvs : List (Key × V)) (ks : List Int), xs = [.ref a] ∧ Rd H a (.dK kvs) ∧ kvs.map (·.1) = ks.map Sum.inl ∧ ks.length < 64 ∧
    ∀ (ys : List Int) (p : Addr), ys.Perm ks → ys.Pairwise (· ≤ ·) → H p = none → Q (.ref p) (upd H p (.lst (ys.map V.int)))) t) (dCB fSortedD d) := by
  refine q_callB (call_sortedDI hc) ?_ hm (by decide +kernel) ha hg (by decide) (by decide) he rfl
  intro c μ H vs xs Q P R r h kk
  obtain ⟨x, fs, ks, ex, hx, hk, hl, q⟩ := h
  subst ex
  obtain ⟨v, ev, r1⟩ := reps1 r
  subst ev
  obtain ⟨ad, ws, e2, h2, rf⟩ := dpairs_at R r1 hx
  subst e2
  refine ⟨ad, ws, ks, rfl, h2, (RepF.keys rf).trans hk, hl, fun ys p h3 h4 hp => ?_⟩
  exact sim_newL R (Reps.ints ys) (by rw [List.length_map, h3.length_eq, sizeLine_eq]; omega) (q ys h3 h4) kk p hp
def fListD : DC := fun xs μ Q => ∃ (x : Vl) (fs : List (Key × Vl)), xs = [x] ∧ dpairs μ x = some fs ∧ fs.length ≤ sizeLine ∧ newL (fs.map fun f => vKey f.1) μ Q
theorem q_listD (hc : X.calm = true) (hm : X.mg "list" = none) (ha : QA X [e] t d) (hg : Gl X "list" := by rfl) (he : starEach [e] X.env = (false, eval e X.env) :: starEach [] X.env := by rfl) :
    QE X (.Call (.Name "list" p) [e] [] pos) (tCB (fun xs H Q => ∃ (a : Addr) (kvs : List (Key × V)), xs = [.ref a] ∧ Rd H a (.dK kvs) ∧ ∀ p, H p = none → Q (.ref p) (upd H p (.lst (kvs.map fun kv => kV kv.1)))) t) (dCB fListD d) := by
  refine q_callTy (call_listD hc) ?_ hm (by decide +kernel) ha hg (by decide) (by decide) he rfl
  intro c μ H vs xs Q P R r h kk
  obtain ⟨x, fs, ex, hx, hl, q⟩ := h
  subst ex
  obtain ⟨v, ev, r1⟩ := reps1 r
  subst ev
  obtain ⟨ad, ws, e2, h2, rf⟩ := dpairs_at R r1 hx
  subst e2
  refine ⟨ad, ws, rfl, h2, fun p hp => ?_⟩
  have e3 : (ws.map fun kv => kV kv.1) = (fs.map (·.1)).map kV := by rw [← RepF.keys rf, List.map_map]; rfl
  have e4 : (fs.map fun f => vKey f.1) = (fs.map (·.1)).map vKey := by rw [List.map_map]; rfl
  rw [e3]
  rw [e4] at q
  exact sim_newL R (reps_keys _) (by rw [List.length_map, List.length_map]; exact hl) q kk p hp
def fLenD : DC := fun xs μ Q => ∃ (k : Nat) (fs : List (Key × Vl)), xs = [.ref k] ∧ μ[k]? = some (.dict fs) ∧ Q (.int (fs.length : Int)) μ
theorem q_lenD (hm : X.mg "len" = none) (ha : QA X [e] t d) (hg : Gl X "len" := by rfl) (he : starEach [e] X.env = (false, eval e X.env) :: starEach [] X.env := by rfl) :
    QE X (.Call (.Name "len" p) [e] [] pos) (tCB (fun xs H Q => ∃ a kvs, xs = [V.ref a] ∧ H a = some (.dK kvs) ∧ Q (.int kvs.length) H) t) (dCB fLenD d) := by
  refine q_callB call_lenD ?_ hm PySem.boot_len ha hg (by decide) (by decide) he rfl
  intro c μ H vs xs Q P R r h kk
  obtain ⟨k, fs, ex, hx, q⟩ := h
  subst ex
  obtain ⟨v, ev, r1⟩ := reps1 r
  subst ev
  obtain ⟨a, ws, e2, hk, h2, rf⟩ := dict_at R r1 hx
  subst e2
  exact ⟨a, ws, rfl, h2, kk c _ μ _ H (Ext.refl c) R (by rw [rf.length]; exact .int _) q⟩
def dKeys (de : DE) : DI := fun ρ μ Q => de ρ μ fun x μ1 => ∃ (k : Nat) (o : Obj) (vs : List (Key × V)) (fs : List (Key × Vl)), x = .ref k ∧ μ1[k]? = some (.fdict o vs fs) ∧ fs.length ≤ sizeLine ∧ Q (fs.map fun f => vKey f.1) (fun μ2 => μ2[k]? = some (.fdict o vs fs)) μ1
theorem qi_keys {tg : Expr} (he : QE X e te de) : QI X tg e (iKeys te) (dKeys de) := by
  refine ⟨pi_keys he.p, fun c ρ μ σ H Q P R S h kk => ?_⟩
  refine he.s c ρ μ σ H _ _ R S h fun c1 x μ1 v H1 E1 R1 r1 q1 => ?_
  obtain ⟨j, o, vs, fs, ex, hj, hl, q⟩ := q1
  subst ex
  obtain ⟨a, e2, hk, h2, rf⟩ := fdict_at R1 r1 hj
  refine ⟨a, o, e2, .inl ⟨vs, h2, ?_⟩⟩
  have hlen : (fs.map fun f => vKey f.1).length = vs.length := by rw [List.length_map, rf.length]
  refine kk c1 _ _ μ1 _ H1 E1 R1 (by rw [List.length_map]; exact hl) ⟨fun H => H a = some (.frz o (.dK vs)), fun i H x H' => H' = H ∧ ∃ k v, vs[i]? = some (k, v) ∧ x = kV k, ?_, fun c2 μ2 H2 E R2 g => ?_, fun i H2 v H3 c2 μ2 hi E R2 g y => ?_⟩ q
  · rw [hlen]; exact walk_keys
  · obtain ⟨_, h4⟩ := R2.obj j a _ (E.al _ _ hk) g
    exact h4.1
  · obtain ⟨e3, ky, w, h4, h5⟩ := y
    subst e3; subst h5
    refine ⟨c2, vKey ky, Ext.refl c2, R2, ?_, vKey_rep ky⟩
    have e5 : (fs.map (·.1))[i]? = some ky := by rw [← RepF.keys rf, List.getElem?_map, h4]; rfl
    have e4 : (fs.map fun f => vKey f.1) = (fs.map (·.1)).map vKey := by rw [List.map_map]; rfl
    rw [e4, List.getElem?_map, e5]; rfl
end
end DL

set_option maxHeartbeats 2000000
/-! DMe: zip of three. -/
namespace DL
open PySem L2 StX PyProof.Rows
def ItZ3 (K : PySem.W.Frag) (k1 k2 k3 : Kd) (a b d : Addr) : It :=
  ⟨fun i H => ∃ xs ys zs x y z, Sq K k1 H a xs ∧ Sq K k2 H b ys ∧ Sq K k3 H d zs ∧ xs[i]? = some x ∧ ys[i]? = some y ∧ zs[i]? = some z,
    fun i H v H' => ∃ T x y z, v = .ref T ∧ H T = none ∧ H' = upd H T (.tup [x, y, z]) ∧ (∀ xs, Sq K k1 H a xs → xs[i]? = some x) ∧ (∀ ys, Sq K k2 H b ys → ys[i]? = some y) ∧ ∀ zs, Sq K k3 H d zs → zs[i]? = some z,
    fun i H => ∃ xs ys zs, Sq K k1 H a xs ∧ Sq K k2 H b ys ∧ Sq K k3 H d zs ∧ i ≤ xs.length ∧ i ≤ ys.length ∧ i ≤ zs.length ∧ (i = xs.length ∨ i = ys.length ∨ i = zs.length)⟩
theorem turn_Z3 {P : Program} {w : World} {K : PySem.W.Frag} {elts : List Expr} {kk : Nat} {tpos : Pos} {k1 k2 k3 : Kd} {a b d z TI TO i1 i2 i3 : Addr} (S : ZipSep3 z TI TO i1 i2 i3 [i1, a] [i2, b] [i3, d]) (ha : a ≠ i1) (hb : b ≠ i2) (hd : d ≠ i3) :
    Turn P w K (.Tuple elts kk tpos) (ItZ3 K k1 k2 k3 a b d) [z, TI, TO, i1, i2, i3] z (fun i h => IsZip h z TI TO .none ∧ IsTupOf3 h TI (.ref i1) (.ref i2) (.ref i3) ∧ (∃ x y z, IsTupOf3 h TO x y z) ∧ itS k1 h i1 a i ∧ itS k2 h i2 b i ∧ itS k3 h i3 d i) where
  mem := by simp
  obj := fun i h st c hc => by
    obtain ⟨hz, hTI, ⟨x, y, w, hTO⟩, h1, h2, h3⟩ := st
    have e' : c = z ∨ c = TI ∨ c = TO ∨ c = i1 ∨ c = i2 ∨ c = i3 := by simpa using hc
    rcases e' with q | q | q | q | q | q
    · rw [q]; exact ⟨_, hz, fun v q => nomatch q⟩
    · rw [q]; exact ⟨_, hTI, fun v q => nomatch q⟩
    · rw [q]; exact ⟨_, hTO, fun v q => nomatch q⟩
    · rw [q]; exact h1.look
    · rw [q]; exact h2.look
    · rw [q]; exact h3.look
  keep := fun i h h' st k => by
    obtain ⟨hz, hTI, ⟨x, y, w, hTO⟩, h1, h2, h3⟩ := st
    exact ⟨k z (by simp) _ hz, k TI (by simp) _ hTI, ⟨x, y, w, k TO (by simp) _ hTO⟩, h1.keep fun o q => k i1 (by simp) o q, h2.keep fun o q => k i2 (by simp) o q, h3.keep fun o q => k i3 (by simp) o q⟩
  item := by
    intro X hP hw hK hc i pins s σ H E I hf st hg
    subst hP hw hK
    obtain ⟨hz, hTI, ⟨x0, y0, z0, hTO⟩, h1, h2, h3⟩ := st
    obtain ⟨xs, ys, zs, x, y, v, hqx, hqy, hqz, hx, hy, hv⟩ := hg
    obtain ⟨its, rv, pl, _⟩ := inv_S I hqx
    obtain ⟨its2, rv2, pl2, _⟩ := inv_S I hqy
    obtain ⟨its3, rv3, pl3, _⟩ := inv_S I hqz
    obtain ⟨u, hu, ru⟩ := rv.get hx
    obtain ⟨u2, hu2, ru2⟩ := rv2.get hy
    obtain ⟨u3, hu3, ru3⟩ := rv3.get hv
    have hzl : z < s.heap.objs.size := Heap.lt_size hz
    have n1 : i < its.toArray.size := by rw [List.size_toArray]; exact (List.getElem?_eq_some_iff.mp hu).1
    have n2 : i < its2.toArray.size := by rw [List.size_toArray]; exact (List.getElem?_eq_some_iff.mp hu2).1
    have n3 : i < its3.toArray.size := by rw [List.size_toArray]; exact (List.getElem?_eq_some_iff.mp hu3).1
    have hh : X.A.in1.handled = none := I.ok.hd hc
    refine wpAny_pyNext_zipD3_item S (draws_S (prog := X.prog) (w := X.w) hh k1 i1 a ha its.toArray) (draws_S (prog := X.prog) (w := X.w) hh k2 i2 b hb its2.toArray) (draws_S (prog := X.prog) (w := X.w) hh k3 i3 d hd its3.toArray) hz hTI hTO ⟨h1, pl⟩ ⟨h2, pl2⟩ ⟨h3, pl3⟩ n1 n2 n3 fun p1 p2 p3 h' tk e1 e2 e3 z' TO' s1' s2' s3' hT hsz hk => ?_
    have q1 : its.toArray[i]? = some p1 := e1
    have q2 : its2.toArray[i]? = some p2 := e2
    have q3 : its3.toArray[i]? = some p3 := e3
    rw [List.getElem?_toArray, hu] at q1
    rw [List.getElem?_toArray, hu2] at q2
    rw [List.getElem?_toArray, hu3] at q3
    have q1 := Option.some.inj q1
    have q2 := Option.some.inj q2
    have q3 := Option.some.inj q3
    subst q1; subst q2; subst q3
    refine ⟨_, rfl, wpAny_letOwnedTupleGo_zip (s := { s with heap := h', toks := tk }) z' fun h'' z'' sb => ?_⟩
    have hT2 : h''.get? s.heap.objs.size = some { cls := .type "tuple", data := .seq #[u, u2, u3] } := (sb.2 _ (Nat.ne_of_gt hzl)).trans hT
    have new : ObjOk X.prog X.w (upd H s.heap.objs.size (.tup [x, y, v])) h'' s.heap.objs.size (.tup [x, y, v]) :=
      ⟨by show 3 ≤ sizeLine; decide, [u, u2, u3], .cons ru (.cons ru2 (.cons ru3 .nil)), ⟨_, hT2, rfl, _, rfl⟩⟩
    have I1 : L2.Inv X pins σ (upd H s.heap.objs.size (.tup [x, y, v])) { s with heap := h'', toks := tk } :=
      I.turnedNew (ch := [z, TI, TO, i1, i2, i3]) (fun c o hb q => (sb.2 c (fun q' => hb (by simp [q']))).trans (hk c o (fun q' => hb (by simp [q'])) (fun q' => hb (by simp [q'])) (fun q' => hb (by simp [q'])) (fun q' => hb (by simp [q'])) (fun q' => hb (by simp [q'])) q)) hf (Nat.le_refl _) new
    refine ⟨.ref s.heap.objs.size, _, I1, rfl, ⟨_, x, y, v, rfl, I.hok.fresh (Nat.le_refl _), rfl, fun l hl => by rw [inj_S I hl hqx]; exact hx, fun l hl => by rw [inj_S I hl hqy]; exact hy, fun l hl => by rw [inj_S I hl hqz]; exact hv⟩, ⟨z'', ?_, ⟨u, u2, u3, ?_⟩, ?_, ?_, ?_⟩, fun c hcm => ?_⟩
    · exact (sb.2 _ S.TIz).trans (hk _ _ S.TIz S.TITO S.TIi1 S.TIi2 S.TIi3 hTI)
    · exact (sb.2 _ S.TOz).trans TO'
    · exact s1'.1.keep fun o q => (sb.2 _ fun e => S.zf1 (by simp [← e])).trans q
    · exact s2'.1.keep fun o q => (sb.2 _ fun e => S.zf2 (by simp [← e])).trans q
    · exact s3'.1.keep fun o q => (sb.2 _ fun e => S.zf3 (by simp [← e])).trans q
    · have hlt : c < s.heap.objs.size := by
        have e' : c = z ∨ c = TI ∨ c = TO ∨ c = i1 ∨ c = i2 ∨ c = i3 := by simpa using hcm
        rcases e' with q | q | q | q | q | q
        · rw [q]; exact hzl
        · rw [q]; exact Heap.lt_size hTI
        · rw [q]; exact Heap.lt_size hTO
        · rw [q]; obtain ⟨_, e1, _⟩ := h1.look; exact Heap.lt_size e1
        · rw [q]; obtain ⟨_, e2, _⟩ := h2.look; exact Heap.lt_size e2
        · rw [q]; obtain ⟨_, e3, _⟩ := h3.look; exact Heap.lt_size e3
      rw [upd_ne (Nat.ne_of_lt hlt)]
      exact (hf c hcm).1
  done := by
    intro X hP hw hK hc i pins s σ H E I hf st hg
    subst hP hw hK
    obtain ⟨hz, hTI, ⟨x0, y0, z0, hTO⟩, h1, h2, h3⟩ := st
    obtain ⟨xs, ys, zs, hqx, hqy, hqz, l1, l2, l3, hend⟩ := hg
    obtain ⟨its, rv, pl, _⟩ := inv_S I hqx
    obtain ⟨its2, rv2, pl2, _⟩ := inv_S I hqy
    obtain ⟨its3, rv3, pl3, _⟩ := inv_S I hqz
    have hh : X.A.in1.handled = none := I.ok.hd hc
    have m1 := rv.length
    have m2 := rv2.length
    have m3 := rv3.length
    refine wpAny_pyNext_zipD3_end S (draws_S (prog := X.prog) (w := X.w) hh k1 i1 a ha its.toArray) (draws_S (prog := X.prog) (w := X.w) hh k2 i2 b hb its2.toArray) (draws_S (prog := X.prog) (w := X.w) hh k3 i3 d hd its3.toArray) hz hTI hTO ⟨h1, pl⟩ ⟨h2, pl2⟩ ⟨h3, pl3⟩ (by rw [List.size_toArray]; omega) (by rw [List.size_toArray]; omega) (by rw [List.size_toArray]; omega) (by rw [List.size_toArray, List.size_toArray, List.size_toArray]; omega) fun h' tk hk => ?_
    exact ⟨rfl, I.turnedL (t' := tk) (ch := [z, TI, TO, i1, i2, i3]) (fun c o hb q => hk c o (fun q' => hb (by simp [q'])) (fun q' => hb (by simp [q'])) (fun q' => hb (by simp [q'])) (fun q' => hb (by simp [q'])) (fun q' => hb (by simp [q'])) q) hf⟩
  self := fun A i s Q E st h => wpAny_pyIter_zip st.1 h
def iZip3 (K : PySem.W.Frag) (ta : TA) : TI := fun σ H R => ta σ H fun vs H1 => ∃ (a b d : Addr) (k1 k2 k3 : Kd), vs = [.ref a, .ref b, .ref d] ∧ (∃ xs, Sq K k1 H1 a xs) ∧ (∃ ys, Sq K k2 H1 b ys) ∧ (∃ zs, Sq K k3 H1 d zs) ∧ R (ItZ3 K k1 k2 k3 a b d) H1
theorem pi_zip3 {X : Cx} {e e2 e3 : Expr} {ta : TA} {p pos tpos : Pos} {elts : List Expr} {kk : Nat} (hg : Gl X "zip") (hm : X.mg "zip" = none) (ha : PA X [e, e2, e3] ta)
    (hs : starEach [e, e2, e3] X.env = (false, eval e X.env) :: starEach [e2, e3] X.env := by rfl) (hpl : (backTo pos (starEach [e2, e3] X.env)).any (·.1) = false := by rfl) :
    PI X (.Tuple elts kk tpos) (.Call (.Name "zip" p) [e, e2, e3] [] pos) (iZip3 X.K ta) := by
  refine ⟨fun pins s σ H R I h => ?_⟩
  refine Call_ (ld_blt I hg hm PyProof.Rows.boot_zip (PyProof.Rows.callWith_type1 (thn (ha.run pos pins s σ H _ I h) fun us s1 ⟨vs, H1, I1, r1, q1⟩ => ?_) hs hpl))
  obtain ⟨a, b, d, k1, k2, k3, ex, ⟨xs, hqx⟩, ⟨ys, hqy⟩, ⟨zs, hqz⟩, q⟩ := q1
  subst ex
  cases r1 with
  | cons r rr =>
    cases rr with
    | cons r' rr =>
      cases rr with
      | cons r'' rr =>
        cases rr
        cases r
        cases r'
        cases r''
        obtain ⟨its, rv, pl, _⟩ := inv_S I1 hqx
        obtain ⟨its2, rv2, pl2, _⟩ := inv_S I1 hqy
        obtain ⟨its3, rv3, pl3, _⟩ := inv_S I1 hqz
        have la := pl.lt
        have lb := pl2.lt
        have ld := pl3.lt
        refine zip_begins3 (begins_S k1 a its.toArray) (begins_S k2 b its2.toArray) (begins_S k3 d its3.toArray) pl pl2 pl3 fun h' hz hTI hTO h1 h2 h3 hsz hk => wpAny_pyIter_zip hz ?_
        have I2 : L2.Inv X pins σ H1 { s1 with heap := h' } := I1.kept (t' := s1.toks) hk
        have S := zip_sep3 (N := s1.heap.objs.size) (fp1 := [a]) (fp2 := [b]) (fp3 := [d]) (fun c hc => by rw [List.mem_singleton.mp hc]; exact la) (fun c hc => by rw [List.mem_singleton.mp hc]; exact lb) (fun c hc => by rw [List.mem_singleton.mp hc]; exact ld)
        refine ⟨s1.heap.objs.size + 5, [s1.heap.objs.size + 5, s1.heap.objs.size + 3, s1.heap.objs.size + 4, s1.heap.objs.size, s1.heap.objs.size + 1, s1.heap.objs.size + 2], _, _, H1, rfl, I2, turn_Z3 S (Nat.ne_of_lt la) (Nat.ne_of_lt (Nat.lt_succ_of_lt lb)) (Nat.ne_of_lt (Nat.lt_succ_of_lt (Nat.lt_succ_of_lt ld))), ⟨hz, hTI, ⟨_, _, _, hTO⟩, obS_it h1, obS_it h2, obS_it h3⟩, fun c hcm => ?_, q⟩
        have e' : c = s1.heap.objs.size + 5 ∨ c = s1.heap.objs.size + 3 ∨ c = s1.heap.objs.size + 4 ∨ c = s1.heap.objs.size ∨ c = s1.heap.objs.size + 1 ∨ c = s1.heap.objs.size + 2 := by simpa using hcm
        have hle : s1.heap.objs.size ≤ c := by
          rcases e' with z | z | z | z | z | z
          · rw [z]; exact Nat.le_add_right _ _
          · rw [z]; exact Nat.le_add_right _ _
          · rw [z]; exact Nat.le_add_right _ _
          · rw [z]; exact Nat.le_refl _
          · rw [z]; exact Nat.le_add_right _ _
          · rw [z]; exact Nat.le_add_right _ _
        exact I1.fpOk hle (I1.hok.fresh hle)
def tripD (p : Vl × Vl × Vl) : Vl := .tup [p.1, p.2.1, p.2.2]
def zip3D (xs ys zs : List Vl) : List Vl := (xs.zip (ys.zip zs)).map tripD
theorem zip3D_len {xs ys zs : List Vl} : (zip3D xs ys zs).length = min xs.length (min ys.length zs.length) := by simp [zip3D]
theorem zip3D_get {xs ys zs : List Vl} {i : Nat} {x y z : Vl} (h1 : xs[i]? = some x) (h2 : ys[i]? = some y) (h3 : zs[i]? = some z) : (zip3D xs ys zs)[i]? = some (.tup [x, y, z]) := by
  unfold zip3D
  have e : (xs.zip (ys.zip zs))[i]? = some (x, y, z) := List.getElem?_zip_eq_some.mpr ⟨h1, List.getElem?_zip_eq_some.mpr ⟨h2, h3⟩⟩
  rw [List.getElem?_map, e]
  rfl
theorem trip_still {K : PySem.W.Frag} {c : Cf} {μ : Mu} {H : Hp} {T : Addr} {v u t : V} {x y z : Vl} (R : RM K c μ H) (hT : H T = none) (r1 : Rep K c v x) (r2 : Rep K c u y) (r3 : Rep K c t z) : ∃ c3, Ext c c3 ∧ RM K c3 μ (upd H T (.tup [v, u, t])) ∧ Rep K c3 (.ref T) (.tup [x, y, z]) := by
  obtain ⟨R1, E1⟩ := R.still (o := .tup [v, u, t]) hT
  refine ⟨_, E1, R1, .tup (vs := [v, u, t]) (.inl (.inl ?_)) (by show 3 ≤ sizeLine; decide) (.cons (r1.up E1.toExt0) (.cons (r2.up E1.toExt0) (.cons (r3.up E1.toExt0) .nil)))⟩
  show upd c.Hd T _ T = _
  exact upd_same
def dZip3 (d : DA) : DI := fun ρ μ Q => d ρ μ fun xs μ1 => ∃ x x' x'' ys zs ws, xs = [x, x', x''] ∧ sview μ1 x = some ys ∧ sview μ1 x' = some zs ∧ sview μ1 x'' = some ws ∧ Q (zip3D ys zs ws) (fun μ => asLong ys x μ ∧ asLong zs x' μ ∧ asLong ws x'' μ) μ1
theorem qi_zip3 {X : Cx} {e e2 e3 : Expr} {ta : TA} {da : DA} {p pos tpos : Pos} {elts : List Expr} {kk : Nat} (hm : X.mg "zip" = none) (ha : QA X [e, e2, e3] ta da) (hg : Gl X "zip" := by rfl)
    (hs : starEach [e, e2, e3] X.env = (false, eval e X.env) :: starEach [e2, e3] X.env := by rfl) (hpl : (backTo pos (starEach [e2, e3] X.env)).any (·.1) = false := by rfl) :
    QI X (.Tuple elts kk tpos) (.Call (.Name "zip" p) [e, e2, e3] [] pos) (iZip3 X.K ta) (dZip3 da) := by
  refine ⟨pi_zip3 hg hm ha.p hs hpl, fun c ρ μ σ H Q P R S h k => ?_⟩
  refine ha.s c ρ μ σ H _ _ R S h fun c1 xs μ1 vs H1 E1 R1 r1 q1 => ?_
  obtain ⟨x, x', x'', ys, zs, ws, e, hx, hx', hx'', q⟩ := q1
  subst e
  cases r1 with
  | cons r1 r2 =>
    cases r2 with
    | cons r2 r3 =>
      obtain ⟨v, e, rv⟩ := reps1 r3
      subst e
      obtain ⟨a, va, k1, e1, hz, hl, st, hq⟩ := stays_at R1 r1 hx
      obtain ⟨b, vb, k2, e2, hz', hl', st', hq'⟩ := stays_at R1 r2 hx'
      obtain ⟨d, vd, k3, e3, hz'', hl'', st'', hq''⟩ := stays_at R1 rv hx''
      subst e1; subst e2; subst e3
      have wk : Walk (ItZ3 X.K k1 k2 k3 a b d) (min ys.length (min zs.length ws.length)) (fun H => ∃ v1 v2 v3, Sq X.K k1 H a v1 ∧ Sq X.K k2 H b v2 ∧ Sq X.K k3 H d v3 ∧ v1.length = ys.length ∧ v2.length = zs.length ∧ v3.length = ws.length)
          (fun i H v H' => ∃ T x y z, v = .ref T ∧ H T = none ∧ H' = upd H T (.tup [x, y, z]) ∧ (∀ xs, Sq X.K k1 H a xs → xs[i]? = some x) ∧ (∀ ys, Sq X.K k2 H b ys → ys[i]? = some y) ∧ ∀ zs, Sq X.K k3 H d zs → zs[i]? = some z) := by
        refine ⟨fun i H hi g => ?_, fun H g => ?_, fun i H x H' hi g y => y⟩
        · obtain ⟨v1, v2, v3, q1, q2, q3, n1, n2, n3⟩ := g
          exact ⟨v1, v2, v3, v1[i]'(by omega), v2[i]'(by omega), v3[i]'(by omega), q1, q2, q3, by simp [show i < v1.length by omega], by simp [show i < v2.length by omega], by simp [show i < v3.length by omega]⟩
        · obtain ⟨v1, v2, v3, q1, q2, q3, n1, n2, n3⟩ := g
          exact ⟨v1, v2, v3, q1, q2, q3, by omega, by omega, by omega, by omega⟩
      refine ⟨a, b, d, k1, k2, k3, rfl, ⟨va, hq⟩, ⟨vb, hq'⟩, ⟨vd, hq''⟩, k c1 _ _ μ1 _ H1 E1 R1 (by rw [zip3D_len]; omega) ⟨_, _, by rw [zip3D_len]; exact wk, fun c2 μ2 H2 E R2 g => ?_, fun i H2 v H3 c2 μ2 hi E R2 g y => ?_⟩ q⟩
      · obtain ⟨v1, q1, s1⟩ := st c2 μ2 H2 E R2 g.1
        obtain ⟨v2, q2, s2⟩ := st' c2 μ2 H2 E R2 g.2.1
        obtain ⟨v3, q3, s3⟩ := st'' c2 μ2 H2 E R2 g.2.2
        exact ⟨v1, v2, v3, q1, q2, q3, s1.length, s2.length, s3.length⟩
      · obtain ⟨T, u, u', u'', e2, hT, e3, y, y', y''⟩ := y
        subst e2; subst e3
        obtain ⟨v1, q1, s1⟩ := st c2 μ2 H2 E R2 g.1
        obtain ⟨v2, q2, s2⟩ := st' c2 μ2 H2 E R2 g.2.1
        obtain ⟨v3, q3, s3⟩ := st'' c2 μ2 H2 E R2 g.2.2
        obtain ⟨z, e4, rz⟩ := s1.getV (y v1 q1)
        obtain ⟨z', e4', rz'⟩ := s2.getV (y' v2 q2)
        obtain ⟨z'', e4'', rz''⟩ := s3.getV (y'' v3 q3)
        obtain ⟨c3, E3, R3, r3⟩ := trip_still R2 hT rz rz' rz''
        exact ⟨c3, _, E3, R3, zip3D_get e4 e4' e4'', r3⟩
end DL

set_option maxHeartbeats 2000000
/-! DMf: all, in, texts, list(range), sorted, max of three, targets that are fields or lists, repr of lists of lists, making of instances with any __init__. -/
namespace DL
open PySem PySem.Spec L2 StX PyProof.Rows
section
variable {X : Cx} {e a b o i : Expr} {es : List Expr} {te to ti ta tb : TE} {de do_ di da db : DE} {pos p pos' : Pos} {t : TA} {d : DA} {k : Nat}
/-! ### all of bools -/
theorem Reps.bls_of {K : PySem.W.Frag} {c : Cf} : ∀ {bs : List Bool} {vs : List V}, Reps K c vs (bs.map Vl.bl) → vs = bs.map V.bl
  | [], _, h => by cases h; rfl
  | b :: bs, _, h => by
    cases h with
    | cons h1 h2 =>
      cases h1
      rw [Reps.bls_of h2]; rfl
def fAll : DC := fun xs μ Q => ∃ (x : Vl) (bs : List Bool), xs = [x] ∧ lview μ x = some (bs.map Vl.bl) ∧ Q (.bl (bs.all id)) μ
theorem q_all (hc : X.calm = true) (hm : X.mg "all" = none) (ha : QA X [e] t d) (hg : Gl X "all" := by rfl) (he : starEach [e] X.env = (false, eval e X.env) :: starEach [] X.env := by rfl) : QE X (.Call (.Name "all" p) [e] [] pos) (tCB (rAll X.K) t) (dCB fAll d) := by
  refine q_callB (cr_all hc) ?_ hm (by decide +kernel) ha hg (by decide) (by decide) he rfl
  intro c μ H vs xs Q P R r h kk
  obtain ⟨x, bs, ex, hx, q⟩ := h
  subst ex
  obtain ⟨v, ev, r1⟩ := reps1 r
  subst ev
  obtain ⟨ad, ws, e1, hq, hz, r2⟩ := lview_at R r1 hx
  subst e1
  rw [r2.bls_of] at hq
  exact ⟨ad, bs, rfl, hq, kk c _ μ _ H (Ext.refl c) R (.bl _) q⟩
/-! ### in a list or a tuple of flat things -/
def flV : Vl → Option V
  | .non => some .non
  | .bl b => some (.bl b)
  | .int i => some (.int i)
  | .str x => some (.str x)
  | _ => none
def flVs : List Vl → Option (List V)
  | [] => some []
  | x :: xs => match flV x, flVs xs with
    | some v, some vs => some (v :: vs)
    | _, _ => none
theorem flV_rep {K : PySem.W.Frag} {c : Cf} {v w : V} {x : Vl} (r : Rep K c v x) (h : flV x = some w) : v = w ∧ flatV w = true := by
  cases x <;> first | (cases h; cases r; exact ⟨rfl, rfl⟩) | cases h
theorem flVs_rep {K : PySem.W.Frag} {c : Cf} : ∀ {xs : List Vl} {vs ws : List V}, Reps K c vs xs → flVs xs = some ws → vs = ws ∧ ws.all flatV = true
  | [], _, ws, r, h => by
    cases r; cases h; exact ⟨rfl, rfl⟩
  | x :: xs, _, ws, r, h => by
    cases r with
    | cons r1 r2 =>
      unfold flVs at h
      split at h
      · rename_i u us h1 h2
        cases h
        obtain ⟨e1, f1⟩ := flV_rep r1 h1
        obtain ⟨e2, f2⟩ := flVs_rep r2 h2
        subst e1; subst e2
        exact ⟨rfl, by rw [List.all_cons, f1, f2]; rfl⟩
      · cases h
theorem flVs_ints : ∀ ns : List Int, flVs (ns.map .int) = some (ns.map .int)
  | [] => rfl
  | n :: ns => by
    show (match flV (.int n), flVs (ns.map .int) with
      | some v, some vs => some (v :: vs)
      | _, _ => none) = _
    rw [flVs_ints ns]; rfl
theorem inV_ints (n : Int) : ∀ ns : List Int, inV (.int n) (ns.map .int) = decide (n ∈ ns)
  | [] => rfl
  | m :: ns => by
    show (eqV (.int m) (.int n) || inV (.int n) (ns.map .int)) = _
    rw [inV_ints n ns]
    show ((m == n) || decide (n ∈ ns)) = _
    by_cases h : m = n
    · subst h; simp
    · have h' : ¬ n = m := fun z => h z.symm
      simp [h, h']
def dInS (neg : Bool) : D2 := fun x y μ Q => ∃ (ys : List Vl) (v : V) (vs : List V), sview μ y = some ys ∧ flV x = some v ∧ flVs ys = some vs ∧ Q (.bl (inV v vs != neg)) μ
theorem sim_inS {K : PySem.W.Frag} {neg : Bool} : Sim2 K (rIn K neg) (dInS neg) := by
  intro c μ H vx vy x y Q P R rx ry h kk
  obtain ⟨ys, v, vs, hy, hv, hvs, q⟩ := h
  obtain ⟨ad, ws, e1, hq, hz, r2⟩ := sview_at R ry hy
  obtain ⟨e2, f1⟩ := flV_rep rx hv
  obtain ⟨e3, f2⟩ := flVs_rep r2 hvs
  subst e2; subst e3
  refine ⟨ad, ws, e1, hq, f1, f2, kk c _ μ _ H (Ext.refl c) R (.bl _) ?_⟩
  cases neg <;> simpa using q
theorem q_inS (ha : QE X a ta da) (hb : QE X b tb db) (hm : behindInMarks .In b = false := by rfl) : QE X (.Compare a [.In] [b] pos) (tOp (rIn X.K false) ta tb) (dOp (dInS false) da db) := q_cmp op_in_seq sim_inS ha hb hm
theorem q_notinS (ha : QE X a ta da) (hb : QE X b tb db) (hm : behindInMarks .NotIn b = false := by rfl) : QE X (.Compare a [.NotIn] [b] pos) (tOp (rIn X.K true) ta tb) (dOp (dInS true) da db) := q_cmp op_notIn_seq sim_inS ha hb hm
theorem qt_inS (ha : QE X a ta da) (hb : QE X b tb db) (hm : behindInMarks .In b = false := by rfl) : QT X (.Compare a [.In] [b] pos) (tTest (tOp (rIn X.K false) ta tb)) (dTest (dOp (dInS false) da db)) := qt_cmp op_in_seq sim_inS ha hb hm
theorem qt_notinS (ha : QE X a ta da) (hb : QE X b tb db) (hm : behindInMarks .NotIn b = false := by rfl) : QT X (.Compare a [.NotIn] [b] pos) (tTest (tOp (rIn X.K true) ta tb)) (dTest (dOp (dInS true) da db)) := qt_cmp op_notIn_seq sim_inS ha hb hm
/-! ### texts -/
def rSg (neg : Bool) : R2 := fun x y H Q => ∃ (c : Nat) (z : Str), x = .str ⟨#[c]⟩ ∧ y = .str z ∧ Q (.bl (if neg then !decide (c ∈ z.cps.toList) else decide (c ∈ z.cps.toList))) H
def dSg (neg : Bool) : D2 := fun x y μ Q => ∃ (c : Nat) (z : Str), x = .str ⟨#[c]⟩ ∧ y = .str z ∧ Q (.bl (decide (c ∈ z.cps.toList) != neg)) μ
theorem sim_sg {K : PySem.W.Frag} {neg : Bool} : Sim2 K (rSg neg) (dSg neg) := by
  intro c μ H vx vy x y Q P R rx ry h kk
  obtain ⟨cp, z, e1, e2, q⟩ := h
  subst e1; subst e2
  cases rx; cases ry
  refine ⟨cp, z, rfl, rfl, kk c _ μ _ H (Ext.refl c) R (.bl _) ?_⟩
  cases neg <;> simpa using q
theorem op_sgIn : OpR X (compareOp .In) (rSg false) := fun pins s σ H x y v u Q I rx ry h => op_in_sign pins s σ H x y v u Q I rx ry h
theorem op_sgNot : OpR X (compareOp .NotIn) (rSg true) := fun pins s σ H x y v u Q I rx ry h => op_notIn_sign pins s σ H x y v u Q I rx ry h
theorem q_inG (ha : QE X a ta da) (hb : QE X b tb db) (hm : behindInMarks .In b = false := by rfl) : QE X (.Compare a [.In] [b] pos) (tOp (rSg false) ta tb) (dOp (dSg false) da db) := q_cmp op_sgIn sim_sg ha hb hm
theorem q_notinG (ha : QE X a ta da) (hb : QE X b tb db) (hm : behindInMarks .NotIn b = false := by rfl) : QE X (.Compare a [.NotIn] [b] pos) (tOp (rSg true) ta tb) (dOp (dSg true) da db) := q_cmp op_sgNot sim_sg ha hb hm
theorem qt_inG (ha : QE X a ta da) (hb : QE X b tb db) (hm : behindInMarks .In b = false := by rfl) : QT X (.Compare a [.In] [b] pos) (tTest (tOp (rSg false) ta tb)) (dTest (dOp (dSg false) da db)) := qt_cmp op_sgIn sim_sg ha hb hm
theorem qt_notinG (ha : QE X a ta da) (hb : QE X b tb db) (hm : behindInMarks .NotIn b = false := by rfl) : QT X (.Compare a [.NotIn] [b] pos) (tTest (tOp (rSg true) ta tb)) (dTest (dOp (dSg true) da db)) := qt_cmp op_sgNot sim_sg ha hb hm
def dIxS : D2 := fun x y μ Q => ∃ (z : Str) (i : Int) (c : Nat), x = .str z ∧ y = .int i ∧ z.length ≤ sizeLine ∧ atI z.cps.toList i = some c ∧ Q (.str ⟨#[c]⟩) μ
theorem q_ixS (ha : QE X a ta da) (hb : QE X b tb db) (hs : PlainIx b := by intro _ _; rfl) : QE X (.Subscript a b pos) (tOp rIxS ta tb) (dOp dIxS da db) := by
  refine ⟨pe_ix ix_str ha.p hb.p hs, sim_op ?_ ha.s hb.s⟩
  intro c μ H vx vy x y Q P R rx ry h kk
  obtain ⟨z, i, cp, e1, e2, hz, hc, q⟩ := h
  subst e1; subst e2
  cases rx; cases ry
  exact ⟨z, i, cp, rfl, rfl, hz, hc, kk c _ μ _ H (Ext.refl c) R (.str _) q⟩
def fLenS : DC := fun xs μ Q => ∃ z : Str, xs = [.str z] ∧ z.length ≤ sizeLine ∧ Q (.int (z.length : Int)) μ
theorem q_lenS (hm : X.mg "len" = none) (ha : QA X [e] t d) (hg : Gl X "len" := by rfl) (he : starEach [e] X.env = (false, eval e X.env) :: starEach [] X.env := by rfl) :
    QE X (.Call (.Name "len" p) [e] [] pos) (tCB (fun xs H Q => ∃ z, xs = [.str z] ∧ z.length ≤ sizeLine ∧ Q (.int z.length) H) t) (dCB fLenS d) := by
  refine q_callB call_len_str ?_ hm PySem.boot_len ha hg (by decide) (by decide) he rfl
  intro c μ H vs xs Q P R r h kk
  obtain ⟨z, ex, hz, q⟩ := h
  subst ex
  obtain ⟨v, ev, r1⟩ := reps1 r
  subst ev
  cases r1
  exact ⟨z, rfl, hz, kk c _ μ _ H (Ext.refl c) R (.int _) q⟩
def signs (z : Str) : List Vl := z.cps.toList.map fun c => .str ⟨#[c]⟩
def dSigns (de : DE) : DI := fun ρ μ Q => de ρ μ fun x μ1 => ∃ z : Str, x = .str z ∧ z.cps.size ≤ sizeLine ∧ Q (signs z) (fun _ => True) μ1
theorem qi_signs {tg : Expr} (he : QE X e te de) : QI X tg e (iStr te) (dSigns de) := by
  refine ⟨pi_str he.p, fun c ρ μ σ H Q P R S h kk => ?_⟩
  refine he.s c ρ μ σ H _ _ R S h fun c1 x μ1 v H1 E1 R1 r1 q1 => ?_
  obtain ⟨z, ex, hz, q⟩ := q1
  subst ex
  cases r1
  have hl : (signs z).length = z.cps.size := by simp [signs]
  refine ⟨z, rfl, kk c1 _ _ μ1 _ H1 E1 R1 (by rw [hl]; exact hz) ⟨_, _, by rw [hl]; exact walk_str, fun _ _ _ _ _ _ => trivial, fun i H2 v H3 c2 μ2 hi E R2 g y => ?_⟩ q⟩
  obtain ⟨e3, cp, h4, h5⟩ := y
  subst e3; subst h5
  refine ⟨c2, .str ⟨#[cp]⟩, Ext.refl c2, R2, ?_, .str _⟩
  have h4' : z.cps.toList[i]? = some cp := by rw [Array.getElem?_toList]; exact h4
  show (z.cps.toList.map _)[i]? = _
  rw [List.getElem?_map, h4']; rfl
/-! ### list(range(..)), tuple(range(..)) -/
theorem rgV_rep {K : PySem.W.Frag} {c : Cf} {a b : Int} : Reps K c (rgV a b) (rngD a (b - a).toNat) := by
  unfold rgV rngD
  have : ∀ ns : List Nat, Reps K c (ns.map fun (i : Nat) => V.int (a + (i : Int))) (ns.map fun (i : Nat) => Vl.int (a + (i : Int))) := by
    intro ns
    induction ns with
    | nil => exact .nil
    | cons n ns ih => exact .cons (.int _) ih
  exact this _
def dListRg (da : DE) : DE := fun ρ μ Q => da ρ μ fun x μ1 => ∃ n : Int, x = .int n ∧ RgOk 0 n ∧ newL (rngD 0 n.toNat) μ1 Q
def dTupRg (da : DE) : DE := fun ρ μ Q => da ρ μ fun x μ1 => ∃ n : Int, x = .int n ∧ RgOk 0 n ∧ Q (.tup (rngD 0 n.toNat)) μ1
theorem rg_small {n : Int} (h : RgOk 0 n) : (rngD 0 n.toNat).length ≤ sizeLine := by
  rw [rngD_len, sizeLine_eq]
  obtain ⟨_, _, _, _, h⟩ := h
  rw [Int.sub_zero] at h
  omega
theorem q_listRg {p2 pos2 : Pos} (hc : X.calm = true) (hm : X.mg "list" = none) (hr : X.mg "range" = none) (ha : QE X a ta da) (hg : Gl X "list" := by rfl) (hg2 : Gl X "range" := by rfl) (na : starEach [.Call (.Name "range" p2) [a] [] pos2] X.env = (false, eval (.Call (.Name "range" p2) [a] [] pos2) X.env) :: starEach [] X.env := by rfl) (na2 : starEach [a] X.env = (false, eval a X.env) :: starEach [] X.env := by rfl) :
    QE X (.Call (.Name "list" p) [.Call (.Name "range" p2) [a] [] pos2] [] pos) (tLstRg (tRg1 ta)) (dListRg da) := by
  refine ⟨pe_listRg hc hg hm (prg_1 hg2 hr ha.p na2) na, fun c ρ μ σ H Q P R S h kk => ?_⟩
  refine ha.s c ρ μ σ H _ _ R S h fun c1 x μ1 v H1 E1 R1 r1 q1 => ?_
  obtain ⟨n, ex, ok, q⟩ := q1
  subst ex
  cases r1
  have rr : Reps X.K c1 (rgV 0 n) (rngD 0 n.toNat) := by have := rgV_rep (K := X.K) (c := c1) (a := 0) (b := n); rwa [Int.sub_zero] at this
  exact ⟨n, rfl, ok, fun q' hq' => sim_newL R1 rr (rg_small ok) q (fun c2 z μ2 v2 H2 E2 => kk c2 z μ2 v2 H2 (E1.trans E2)) q' hq'⟩
theorem q_tupRg {p2 pos2 : Pos} (hc : X.calm = true) (hm : X.mg "tuple" = none) (hr : X.mg "range" = none) (ha : QE X a ta da) (hg : Gl X "tuple" := by rfl) (hg2 : Gl X "range" := by rfl) (na : starEach [.Call (.Name "range" p2) [a] [] pos2] X.env = (false, eval (.Call (.Name "range" p2) [a] [] pos2) X.env) :: starEach [] X.env := by rfl) (na2 : starEach [a] X.env = (false, eval a X.env) :: starEach [] X.env := by rfl) :
    QE X (.Call (.Name "tuple" p) [.Call (.Name "range" p2) [a] [] pos2] [] pos) (tTupRg (tRg1 ta)) (dTupRg da) := by
  refine ⟨pe_tupRg hc hg hm (prg_1 hg2 hr ha.p na2) na, fun c ρ μ σ H Q P R S h kk => ?_⟩
  refine ha.s c ρ μ σ H _ _ R S h fun c1 x μ1 v H1 E1 R1 r1 q1 => ?_
  obtain ⟨n, ex, ok, q⟩ := q1
  subst ex
  cases r1
  have rr : Reps X.K c1 (rgV 0 n) (rngD 0 n.toNat) := by have := rgV_rep (K := X.K) (c := c1) (a := 0) (b := n); rwa [Int.sub_zero] at this
  exact ⟨n, rfl, ok, fun q' hq' => sim_newT R1 rr (rg_small ok) q (fun c2 z μ2 v2 H2 E2 => kk c2 z μ2 v2 H2 (E1.trans E2)) q' hq'⟩
/-! ### sorted(ints), max of three -/
def fSortedI : DC := fun xs μ Q => ∃ (x : Vl) (ns : List Int), xs = [x] ∧ lview μ x = some (ns.map Vl.int) ∧ ∀ ys : List Int, ys.Perm ns → ys.Pairwise (· ≤ ·) → newL (ys.map .int) μ Q
theorem q_sortedI (hm : X.mg "sorted" = none) (ha : QA X [e] t d) (hg : Gl X "sorted" := by rfl) (he : starEach [e] X.env = (false, eval e X.env) :: starEach [] X.env := by rfl) : QE X (.Call (.Name "sorted" p) [e] [] pos) (tCB (rSortedI X.K) t) (dCB fSortedI d) := by
  refine q_callB cr_sortedI ?_ hm (by decide +kernel) ha hg (by decide) (by decide) he rfl
  intro c μ H vs xs Q P R r h kk
  obtain ⟨x, ns, ex, hx, q⟩ := h
  subst ex
  obtain ⟨v, ev, r1⟩ := reps1 r
  subst ev
  obtain ⟨ad, ws, e1, hq, hz, r2⟩ := lview_at R r1 hx
  subst e1
  rw [r2.ints_of] at hq
  rw [List.length_map] at hz
  exact ⟨ad, ns, rfl, hq, fun ys q' h3 h4 hq' => sim_newL R (Reps.ints ys) (by rw [List.length_map, h3.length_eq]; exact hz) (q ys h3 h4) kk q' hq'⟩
def mx2 (i j : Int) : Int := if i < j then j else i
def fMax3 : DC := fun xs μ Q => match xs with
  | [.int i, .int j, .int l] => Q (.int (mx2 (mx2 i j) l)) μ
  | _ => False
theorem q_max3 {e2 e3 : Expr} (hc : X.calm = true) (hm : X.mg "max" = none) (ha : QA X [e, e2, e3] t d) (hg : Gl X "max" := by rfl) (he : starEach [e, e2, e3] X.env = (false, eval e X.env) :: starEach [e2, e3] X.env := by rfl) (hpl : (backTo pos (starEach [e2, e3] X.env)).any (·.1) = false := by rfl) :
    QE X (.Call (.Name "max" p) [e, e2, e3] [] pos) (tCB (rNuC3 nuMax3) t) (dCB fMax3 d) := by
  refine q_callB (call_max3Nu hc) ?_ hm (by decide +kernel) ha hg (by decide) (by decide) he hpl
  intro c μ H vs xs Q P R r h kk
  unfold fMax3 at h
  split at h
  · rename_i i j l
    cases r with
    | cons r1 r2 =>
      cases r2 with
      | cons r2 r3 =>
        obtain ⟨v, ev, r4⟩ := reps1 r3
        subst ev
        cases r1; cases r2; cases r4
        refine ⟨_, _, _, .int (mx2 (mx2 i j) l), rfl, ?_, kk c _ μ _ H (Ext.refl c) R (.int _) h⟩
        have m2 : ∀ i j : Int, nuMax2 (.int i) (.int j) = some (.int (mx2 i j)) := fun i j => by
          show some (if decide (i < j) = true then V.int j else V.int i) = _
          unfold mx2
          by_cases hl : i < j
          · rw [if_pos hl, if_pos (decide_eq_true hl)]
          · rw [if_neg hl, if_neg (by simpa using hl)]
        show (nuMax2 (.int i) (.int j)).bind (fun m => nuMax2 m (.int l)) = _
        rw [m2]
        exact m2 _ _
  · exact False.elim h
/-! ### targets -/
/-- o.f = x -/
def gFld (K : PySem.W.Frag) (C : Addr) (n : Str) (to : TE) : TG := fun y σ H Q => to σ H fun x H1 => ∃ a dx fs, x = .ref a ∧ H1 a = some (.ins C dx fs) ∧ fs.length < 1000 ∧ Q σ (upd H1 a (.ins C dx (L2.putF n y fs)))
def dgFldT (C : Addr) (n : Str) (do_ : DE) : DG := fun y ρ μ Q => do_ ρ μ fun x μ1 => ∃ (k : Nat) (fs : List (Str × Vl)), x = .ref k ∧ μ1[k]? = some (.ins C fs) ∧ fs.length < 1000 ∧ Q ρ (μ1.set k (.ins C (putD n y fs)))
theorem qg_fld {C : Addr} {n : Str} (hC : Cls X.K C) (hn : NoAttr X.K C n) (ho : QE X o to do_) : QG X (.Attribute o n pos) (gFld X.K C n to) (dgFldT C n do_) := by
  refine ⟨⟨fun pins s σ H v u Q I r h => ?_⟩, fun c ρ μ σ H v x Q P R S r h kk => ?_⟩
  · rw [assign_Attribute]
    refine wpAny_bind (wpAny_holding (thn (ho.p.run pins s σ H _ I h) fun ov s1 ⟨x, H1, I1, r1, ad, dx, fs, ex, ha, hl, q⟩ => ?_))
    subst ex
    obtain rfl : ov = Value.ref ad := r1
    refine wpAny_bind (wpAny_standAt (wpAny_bind (wpAny_holding (setattr_ok I1 ha hC hn hl r fun s2 I2 => ?_))))
    exact wpAny_release ⟨σ, _, I2, q⟩
  · refine ho.s c ρ μ σ H _ _ R S h fun c1 y μ1 v1 H1 E1 R1 r1 q1 => ?_
    obtain ⟨j, fs, e1, hj, hz, q⟩ := q1
    subst e1
    obtain ⟨ad, dx, vs, e2, hk, h2, rf⟩ := ins_at R1 r1 hj
    refine ⟨ad, dx, vs, e2, h2, by rw [rf.length]; exact hz, ?_⟩
    exact kk c1 ρ _ σ _ E1 (R1.write (m := .ins C (putD n x fs)) hk ⟨dx, _, rfl, rf.putF (r.up E1.toExt0)⟩) (S.up E1.toExt0) q
/-- a, b, .. = a list -/
def dgLst (n : Nat) (u : DGs) : DG := fun x ρ μ Q => ∃ xs, lview μ x = some xs ∧ xs.length = n ∧ u xs ρ μ Q
theorem qg_unl {kk n : Nat} {tgs : TGs} {dgs : DGs} (hc : X.calm = true) (h : QGs X es tgs dgs) (hn : (assignEach es X.env).length = n := by rfl) (hst : (assignEach es X.env).findIdx? (·.1) = none := by rfl) : QG X (.Tuple es kk pos) (gUnl X.K n tgs) (dgLst n dgs) := by
  refine ⟨pg_unl hc h.p hn hst, fun c ρ μ σ H v x Q P R S r hw k => ?_⟩
  obtain ⟨xs, hx, hl, hw⟩ := hw
  obtain ⟨a, vs, e1, t1, z1, r1⟩ := lview_at R r hx
  exact ⟨a, vs, e1, t1, by rw [r1.length]; exact hl, h.s c ρ μ σ H _ _ Q P R S r1 hw k⟩
end
/-! ### repr of what lies deep -/
mutual
inductive DatR (μ : Mu) : Vl → PyData → Prop
  | non : DatR μ .non .none
  | bl (b : Bool) : DatR μ (.bl b) (.bool b)
  | int (i : Int) : DatR μ (.int i) (.int i)
  | str (x : Str) : DatR μ (.str x) (.str x)
  | tup {xs : List Vl} {ds : List PyData} : DatRs μ xs ds → DatR μ (.tup xs) (.tuple ds)
  | lst {x : Vl} {xs : List Vl} {ds : List PyData} : lview μ x = some xs → DatRs μ xs ds → DatR μ x (.list ds)
inductive DatRs (μ : Mu) : List Vl → List PyData → Prop
  | nil : DatRs μ [] []
  | cons {x : Vl} {d : PyData} {xs : List Vl} {ds : List PyData} : DatR μ x d → DatRs μ xs ds → DatRs μ (x :: xs) (d :: ds)
end
mutual
theorem DatR.dp {K : PySem.W.Frag} {c : Cf} {μ : Mu} {H : Hp} (R : RM K c μ H) : ∀ {x : Vl} {d : PyData} {v : V}, DatR μ x d → Rep K c v x → Dp K H v d
  | _, _, _, .non, r => by cases r; exact .non
  | _, _, _, .bl b, r => by cases r; exact .bl b
  | _, _, _, .int i, r => by cases r; exact .int i
  | _, _, _, .str x, r => by cases r; exact .str x
  | _, _, _, .tup h, r => by
    obtain ⟨a, vs, e, t, z, r2⟩ := tup_at R r
    subst e
    exact .tup t (DatRs.dp R h r2)
  | _, _, _, .lst hx h, r => by
    obtain ⟨a, vs, e, t, z, r2⟩ := lview_at R r hx
    subst e
    exact .lst t (DatRs.dp R h r2)
theorem DatRs.dp {K : PySem.W.Frag} {c : Cf} {μ : Mu} {H : Hp} (R : RM K c μ H) : ∀ {xs : List Vl} {ds : List PyData} {vs : List V}, DatRs μ xs ds → Reps K c vs xs → DpAll K H vs ds
  | _, _, _, .nil, r => by cases r; exact .nil
  | _, _, _, .cons h1 h2, r => by
    cases r with
    | cons r1 r2 => exact .cons (DatR.dp R h1 r1) (DatRs.dp R h2 r2)
end
section
variable {X : Cx} {e a b o i : Expr} {es : List Expr} {te to ti ta tb : TE} {de do_ di da db : DE} {pos p pos' : Pos} {t : TA} {d : DA} {k : Nat}
def fReprD : DC := fun xs μ Q => ∃ (x : Vl) (dd : PyData), xs = [x] ∧ DatR μ x dd ∧ SeqAt.shaped dd = true ∧ dd.showable = true ∧ dd.shown.length ≤ sizeLine ∧ Q (.str dd.shown) μ
theorem q_reprD (hgd : X.A.guards = some []) (hr : Room k X.A) (hm : X.mg "repr" = none) (ha : QA X [e] t d) (hg : Gl X "repr" := by rfl) (he : starEach [e] X.env = (false, eval e X.env) :: starEach [] X.env := by rfl) : QE X (.Call (.Name "repr" p) [e] [] pos) (tCB (rRepr X.K) t) (dCB fReprD d) := by
  refine q_callB (call_reprD hgd hr) ?_ hm (by decide +kernel) ha hg (by decide) (by decide) he rfl
  intro c μ H vs xs Q P R r h kk
  obtain ⟨x, dd, e1, hx, h1, h2, h3, q⟩ := h
  subst e1
  obtain ⟨v, e2, r1⟩ := reps1 r
  subst e2
  exact ⟨v, dd, rfl, hx.dp R r1, h1, h2, h3, kk c _ μ _ H (Ext.refl c) R (.str _) q⟩
/-! ### making of an instance, whatever its __init__ is -/
theorem run_makeC {f C : Addr} {Ci : Ct} {pins : List (Addr × Obj)} {σ : L2.St} {H : Hp} {s : Shared} {Q : VK} {us : List Value} {vs : List V} (M : Mk X.K C f) (F : FnC X.prog X.w X.K X.mg X.base k f Ci) (am : AmbX X.prog X.A X.base) (hr : Room (k + 1) X.A)
    (I : L2.Inv X pins σ H s) (r : Vals vs us)
    (h : ∀ x dx, H x = none → H dx = none → dx ≠ x → spOf X.K Ci (.ref x :: vs) (upd (upd H dx (.own x)) x (.ins C dx [])) (fun v H2 => v = .non ∧ Q (.ref x) H2)) :
    wpAny (model X.prog X.w) X.A (call (.ref C) us) (EP X pins σ Q) X.xe s := by
  have hq := h (s.heap.objs.size + 1) s.heap.objs.size (I.hok.fresh (Nat.le_succ _)) (I.hok.fresh (Nat.le_refl _)) (Nat.ne_of_lt (Nat.lt_succ_self _))
  have I2 := Inv.made (C := C) I
  have r2 : Vals (V.ref (s.heap.objs.size + 1) :: vs) (Value.ref (s.heap.objs.size + 1) :: us) := .cons rfl r
  refine wpAny_call (make_map (f := f) I.kIn M.makes M.init (beq_iff_eq.mp M.fn) (codeAny_mono (F.run _ X.stack _ _ (Value.ref (s.heap.objs.size + 1) :: us) _ _ (am.toAmb.under _ (by rfl)) (hr.make C us []) (I2.env0.make C us []) r2 hq) fun r s' hq' => ?_))
  cases r with
  | error e => exact False.elim hq'
  | ok fl =>
    cases fl with
    | ret u =>
      obtain ⟨v, H', I3, rv, ev, q3⟩ := I2.after hq'
      subst ev
      exact ⟨rv, ⟨V.ref (s.heap.objs.size + 1), H', I3, rfl, q3⟩⟩
    | next => exact False.elim hq'
    | brk => exact False.elim hq'
    | cont => exact False.elim hq'
theorem q_makeC {f C : Addr} {Ci : Ct} {x : Str} {p : Pos} (M : Mk X.K C f) (F : FnC X.prog X.w X.K X.mg X.base k f Ci) (am : AmbX X.prog X.A X.base) (hr : Room (k + 1) X.A) (hm : X.mg x = some (.ref C)) (ha : QA X (e :: es) t d) (hg : Gl X x := by rfl)
    (hdb : (x == ("__debug__" : Str)) = false := by decide) (he : starEach (e :: es) X.env = (false, eval e X.env) :: starEach es X.env := by rfl) (hpl : (backTo pos (starEach es X.env)).any (·.1) = false := by rfl) :
    QE X (.Call (.Name x p) (e :: es) [] pos) (tMakeG X.K C Ci t) (dMake C Ci d) := by
  refine ⟨⟨fun pins s σ H Q I h => ?_⟩, sim_make ha.s⟩
  refine wpAny_Call_Name_kw (ld_glob I hg hm ?_ hdb)
  refine PySem.W.callWith_K (h₀ := X.base) I.ok.mod.kin M.kp (thn (ha.p.run pos pins s σ H _ I h) fun us s1 ⟨vs, H1, I1, r, q⟩ => ⟨I1.kIn, ?_⟩) he hpl
  exact run_makeC M F am hr I1 r q
end
end DL
namespace DL
open PySem PySem.Spec L2
/-- what isinstance asks of the classes in a list -/
def IsiAll (K : PySem.W.Frag) (C : Addr) : List (Addr × Bool) → Prop
  | [] => True
  | (D, b) :: r => (PySem.W.kitOne K (.ref D) (.ref C) = some b ∧ InsK K D) ∧ IsiAll K C r
theorem isi_by {K : PySem.W.Frag} {C : Addr} : ∀ (subs : List (Addr × Bool)), IsiAll K C subs → ∀ D b, subs.lookup D = some b → PySem.W.kitOne K (.ref D) (.ref C) = some b ∧ InsK K D
  | [], _, D, b, h => by cases h
  | (E, x) :: r, hA, D, b, h => by
    rw [List.lookup_cons] at h
    cases q : D == E with
    | true =>
      rw [q] at h
      have e1 : D = E := beq_iff_eq.mp q
      cases h
      subst e1
      exact hA.1
    | false =>
      rw [q] at h
      exact isi_by r hA.2 D b h
end DL

set_option maxHeartbeats 1000000
/-! ZA: readings of the checks (integers, rows, lots, names), of fixed. -/
namespace K65
open PySem PySem.Spec L2 StX PyProof.Rows DL
/-! what is asked of values -/
def kInt : Kn → Bool
  | .int => true
  | _ => false
def kSeq : Kn → Bool
  | .lst => true
  | .tup => true
  | _ => false
/-- of a known kind, of no own class -/
def Pl (μ : Mu) (x : Vl) : Prop := ∃ t, knOf μ x = some t ∧ ∀ C, t ≠ .own C
def isInt : Vl → Bool
  | .int _ => true
  | _ => false
def inB (lo hi : Int) : Vl → Bool
  | .int i => decide (lo ≤ i ∧ i ≤ hi)
  | _ => false
def kBl : Kn → Bool
  | .bl => true
  | _ => false
theorem anT_int {t : Kn} (h : ∀ C, t ≠ .own C) : anT "int" t = some (kInt t || kBl t) ∧ anT "bool" t = some (kBl t) := by
  cases t with
  | own C => exact absurd rfl (h C)
  | _ => exact ⟨by decide, by decide⟩
theorem anT_seq {t : Kn} (h : ∀ C, t ≠ .own C) : anOr (anT "list") (anT "tuple") t = some (kSeq t) := by
  cases t with
  | own C => exact absurd rfl (h C)
  | _ => decide
theorem kn_int {μ : Mu} {x : Vl} {t : Kn} (h : knOf μ x = some t) : isInt x = kInt t := by
  cases x with
  | ref k =>
    have h : (match μ[k]? with
      | some (.lst _) => some Kn.lst
      | some (.dict _) => some Kn.dict
      | some (.fdict _ _ _) => some Kn.dict
      | some (.ins C _) => some (Kn.own C)
      | _ => none) = some t := h
    cases e : μ[k]? with
    | none => rw [e] at h; cases h
    | some m =>
      rw [e] at h
      cases m <;> first | (cases h; rfl) | cases h
  | op v => cases h
  | _ => cases h; rfl
theorem kn_seq {μ : Mu} {x : Vl} {t : Kn} (h : knOf μ x = some t) : kSeq t = (sview μ x).isSome := by
  cases x with
  | ref k =>
    have h : (match μ[k]? with
      | some (.lst _) => some Kn.lst
      | some (.dict _) => some Kn.dict
      | some (.fdict _ _ _) => some Kn.dict
      | some (.ins C _) => some (Kn.own C)
      | _ => none) = some t := h
    show kSeq t = (match μ[k]? with
      | some (.lst xs) => some xs
      | _ => none : Option (List Vl)).isSome
    cases e : μ[k]? with
    | none => rw [e] at h; cases h
    | some m =>
      rw [e] at h
      cases m <;> first | (cases h; rfl) | cases h
  | op v => cases h
  | _ => cases h; rfl
theorem kn_of_seq {μ : Mu} {x : Vl} {xs : List Vl} (h : sview μ x = some xs) : Pl μ x := by
  cases x with
  | tup ys => exact ⟨.tup, rfl, fun C e => by cases e⟩
  | lst ys => exact ⟨.lst, rfl, fun C e => by cases e⟩
  | frl ys => exact ⟨.lst, rfl, fun C e => by cases e⟩
  | ref k =>
    have h' : μ[k]? = some (.lst xs) := mview_ref (by simpa [sview, lview, mview] using h)
    refine ⟨.lst, ?_, fun C e => by cases e⟩
    show (match μ[k]? with
      | some (.lst _) => some Kn.lst
      | some (.dict _) => some Kn.dict
      | some (.fdict _ _ _) => some Kn.dict
      | some (.ins C _) => some (Kn.own C)
      | _ => none) = _
    rw [h']
  | _ => simp [sview, lview] at h
theorem rfb_bl {n : Nat} {b : Bool} : rfb n (.bl b) = true := by rw [rfb] <;> simp
theorem rfb_int {n : Nat} {i : Int} : rfb n (.int i) = true := by rw [rfb] <;> simp
theorem rfb_str {n : Nat} {s : Str} : rfb n (.str s) = true := by rw [rfb] <;> simp
theorem rfb_non {n : Nat} : rfb n .non = true := by rw [rfb] <;> simp
theorem rfbs_ints {n : Nat} : ∀ r : List Int, rfbs n (r.map .int) = true
  | [] => by rw [List.map_nil, rfbs]
  | i :: r => by rw [List.map_cons, rfbs, rfb_int, rfbs_ints r]; rfl
/-! is_integer, is_within, is_listed, is_row -/
def c_is_integer : Ct := fun xs μ Q => ∃ x, xs = [x] ∧ Pl μ x ∧ Q (.bl (isInt x)) μ
def b_is_integer : DS :=
    (dRet (dAndV (dCB (fIsi (anT "int") (.ty "int")) (dCons (dVar 0) (dCons (dC (.op (.ty "int"))) dNil))) (dNotV (dCB (fIsi (anT "bool") (.ty "bool")) (dCons (dVar 0) (dCons (dC (.op (.ty "bool"))) dNil))))))
theorem l_is_integer : ∀ xs μ Q, c_is_integer xs μ Q → xs.length = 1 := by
  intro xs μ Q ⟨_, e, _⟩; subst e; rfl
theorem r_is_integer : ∀ xs μ Q, c_is_integer xs μ Q → b_is_integer (pureEnds μ Q) (startD ["value"] xs) μ := by
  intro xs μ Q ⟨x, e, ⟨t, ht, hn⟩, q⟩
  subst e
  rw [kn_int ht] at q
  obtain ⟨h1, h4⟩ := anT_int hn
  refine ⟨x, t, _, rfl, ht, h1, ?_⟩
  cases t <;> first | exact DL.pure_rt rfb_bl q | exact ⟨x, _, _, rfl, ht, h4, DL.pure_rt rfb_bl q⟩
def c_is_within : Ct := fun xs μ Q => ∃ x lo hi, xs = [x, .int lo, .int hi] ∧ Pl μ x ∧ Q (.bl (inB lo hi x)) μ
def b_is_within : DS :=
    (dRet (dAndV (dCall c_is_integer (dCons (dVar 0) dNil)) (dChain dLe dLe (dVar 1) (dVar 0) (dVar 2))))
theorem l_is_within : ∀ xs μ Q, c_is_within xs μ Q → xs.length = 3 := by
  intro xs μ Q ⟨_, _, _, e, _⟩; subst e; rfl
theorem r_is_within : ∀ xs μ Q, c_is_within xs μ Q → b_is_within (pureEnds μ Q) (startD ["value", "least", "most"] xs) μ := by
  intro xs μ Q ⟨x, lo, hi, e, hp, q⟩
  subst e
  refine ⟨x, rfl, hp, ?_⟩
  cases x with
  | int i =>
    show dChain dLe dLe (dVar 1) (dVar 0) (dVar 2) _ μ _
    refine bl_split (p := lo ≤ i) (fun h => ?_) (fun h => ?_)
    · refine DL.pure_rt rfb_bl ?_
      have e : inB lo hi (.int i) = decide (i ≤ hi) := by simp [inB, h]
      rw [e] at q; exact q
    · refine DL.pure_rt rfb_bl ?_
      have e : inB lo hi (.int i) = false := by simp [inB, h]
      rw [e] at q; exact q
  | _ => exact DL.pure_rt rfb_bl q
def c_is_listed : Ct := fun xs μ Q => ∃ x, xs = [x] ∧ Pl μ x ∧ Q (.bl (sview μ x).isSome) μ
def b_is_listed : DS :=
    (dRet (dIsi2 (anOr (anT "list") (anT "tuple")) (dVar 0)))
theorem l_is_listed : ∀ xs μ Q, c_is_listed xs μ Q → xs.length = 1 := by
  intro xs μ Q ⟨_, e, _⟩; subst e; rfl
theorem r_is_listed : ∀ xs μ Q, c_is_listed xs μ Q → b_is_listed (pureEnds μ Q) (startD ["value"] xs) μ := by
  intro xs μ Q ⟨x, e, ⟨t, ht, hn⟩, q⟩
  subst e
  rw [← kn_seq ht] at q
  exact ⟨t, _, ht, anT_seq hn, DL.pure_rt rfb_bl q⟩
def rowB (lo hi : Int) : Option (List Vl) → Bool
  | some xs => decide (lo ≤ (xs.length : Int) ∧ (xs.length : Int) ≤ hi)
  | none => false
def c_is_row : Ct := fun xs μ Q => ∃ x lo hi, xs = [x, .int lo, .int hi] ∧ Pl μ x ∧ Q (.bl (rowB lo hi (sview μ x))) μ
def b_is_row : DS :=
    (dRet (dAndV (dCall c_is_listed (dCons (dVar 0) dNil)) (dChain dLe dLe (dVar 1) (dCB fLen (dCons (dVar 0) dNil)) (dVar 2))))
theorem l_is_row : ∀ xs μ Q, c_is_row xs μ Q → xs.length = 3 := by
  intro xs μ Q ⟨_, _, _, e, _⟩; subst e; rfl
theorem r_is_row : ∀ xs μ Q, c_is_row xs μ Q → b_is_row (pureEnds μ Q) (startD ["value", "least", "most"] xs) μ := by
  intro xs μ Q ⟨x, lo, hi, e, hp, q⟩
  subst e
  refine ⟨x, rfl, hp, ?_⟩
  cases hx : sview μ x with
  | none =>
    rw [hx] at q
    exact DL.pure_rt rfb_bl q
  | some ys =>
    rw [hx] at q
    refine ⟨x, ys, rfl, hx, ?_⟩
    refine bl_split (p := lo ≤ (ys.length : Int)) (fun h => ?_) (fun h => ?_)
    · refine DL.pure_rt rfb_bl ?_
      have e : rowB lo hi (some ys) = decide ((ys.length : Int) ≤ hi) := by simp [rowB, h]
      rw [e] at q; exact q
    · refine DL.pure_rt rfb_bl ?_
      have e : rowB lo hi (some ys) = false := by simp [rowB, h]
      rw [e] at q; exact q
/-! is_ascending -/
def ascB : List Int → Bool
  | a :: b :: r => decide (a < b) && ascB (b :: r)
  | _ => true
theorem ascB_iff : ∀ ns : List Int, ascB ns = true ↔ ns.Pairwise (· < ·)
  | [] => by simp [ascB]
  | [a] => by simp [ascB]
  | a :: b :: r => by
    have ih := ascB_iff (b :: r)
    show (decide (a < b) && ascB (b :: r)) = true ↔ _
    rw [Bool.and_eq_true, ih, decide_eq_true_eq]
    constructor
    · intro ⟨h1, h2⟩
      refine List.pairwise_cons.mpr ⟨fun c hc => ?_, h2⟩
      rcases List.mem_cons.mp hc with e | hc
      · rw [e]; exact h1
      · exact Int.lt_trans h1 ((List.pairwise_cons.mp h2).1 c hc)
    · intro h
      obtain ⟨h1, h2⟩ := List.pairwise_cons.mp h
      exact ⟨h1 b List.mem_cons_self, h2⟩
def pairsUp : List Int → List (Int × Int)
  | a :: b :: r => (a, b) :: pairsUp (b :: r)
  | _ => []
theorem pairsUp_zip : ∀ ns : List Int, zipD (ns.map .int) ((ns.drop 1).map .int) = (pairsUp ns).map fun p => Vl.tup [.int p.1, .int p.2]
  | [] => rfl
  | [a] => rfl
  | a :: b :: r => by
    have ih := pairsUp_zip (b :: r)
    show Vl.tup [.int a, .int b] :: zipD ((b :: r).map .int) (((b :: r).drop 1).map .int) = _
    rw [ih]; rfl
theorem pairsUp_all : ∀ ns : List Int, ((pairsUp ns).map fun p => decide (p.1 < p.2)).all id = ascB ns
  | [] => rfl
  | [a] => rfl
  | a :: b :: r => by
    have ih := pairsUp_all (b :: r)
    show (decide (a < b) && ((pairsUp (b :: r)).map fun p => decide (p.1 < p.2)).all id) = _
    rw [ih]; rfl
def c_is_ascending : Ct := fun xs μ Q => ∃ (x : Vl) (ns : List Int), xs = [x] ∧ sview μ x = some (ns.map .int) ∧ Q (.bl (ascB ns)) μ
def b_is_ascending : DS :=
    (dRet (dCB fAll (dCons (dLc (dZip (dCons (dVar 0) (dCons (dSlA (dVar 0) (dPart (dC (.int 1))) dNoPart) dNil))) (dgTup 2 (dgCons (dgName 1) (dgCons (dgName 2) dgNil))) dYes (dOp dLt (dVar 1) (dVar 2)) [1, 2]) dNil)))
theorem l_is_ascending : ∀ xs μ Q, c_is_ascending xs μ Q → xs.length = 1 := by
  intro xs μ Q ⟨_, _, e, _⟩; subst e; rfl
theorem cut_tail {α : Type} {xs : List Vl} : DL.cutD xs (some 1) none = xs.drop 1 := by
  unfold DL.cutD
  rw [HT.sIx_none, show (1 : Int) = ((1 : Nat) : Int) from rfl, HT.sIx_nat]
  by_cases h : 1 ≤ xs.length
  · rw [Nat.min_eq_left h, List.take_of_length_le (by rw [List.length_drop]; omega)]
  · have : xs = [] := List.eq_nil_of_length_eq_zero (by omega)
    subst this; rfl
theorem r_is_ascending : ∀ xs μ Q, c_is_ascending xs μ Q → b_is_ascending (pureEnds μ Q) (startD ["rows", "one", "other"] xs) μ := by
  intro xs μ Q ⟨x, ns, e, hx, q⟩
  subst e
  have mp : ((ns.map Vl.int).drop 1) = (ns.drop 1).map .int := by rw [List.map_drop]
  have go : ∀ x' : Vl, sview μ x' = some ((ns.drop 1).map .int) → asLong ((ns.drop 1).map .int) x' μ → asLong (ns.map .int) x μ →
      lcD (fun μ2 => asLong (ns.map .int) x μ2 ∧ asLong ((ns.drop 1).map .int) x' μ2) (dgTup 2 (dgCons (dgName 1) (dgCons (dgName 2) dgNil))) dYes (dOp dLt (dVar 1) (dVar 2)) (wipeD [some x, none, none] [1, 2])
        (fun acc μ2 => newL acc μ2 fun z μ3 => fAll [z] μ3 (pureEnds μ Q).rt) (zipD (ns.map .int) ((ns.drop 1).map .int)) [] μ := by
    intro x' h1 h2 h3
    rw [pairsUp_zip]
    refine DL.lc_map ⟨h3, h2⟩ _ (fun p : Int × Int => .bl (decide (p.1 < p.2))) _ _ (fun p _ P hP => ⟨rfl, rfl, hP⟩) ?_
    refine .inl ⟨_, (pairsUp ns).map fun p => decide (p.1 < p.2), rfl, ?_, ?_⟩
    · show some _ = some _
      rw [List.nil_append, List.map_map]; rfl
    · rw [pairsUp_all]; exact DL.pure_rt rfb_bl q
  have as1 : asLong (ns.map .int) x μ := by
    cases x with
    | ref k => exact mview_ref (by simpa [sview, lview, mview] using hx)
    | _ => trivial
  cases x with
  | tup ys =>
    have e : ys = ns.map .int := by simpa [sview] using hx
    subst e
    refine ⟨.tup (ns.map .int), _, _, _, rfl, rfl, rfl, ?_⟩
    rw [cut_tail (α := Nat), mp]
    exact go _ rfl trivial trivial
  | lst ys =>
    have e : ys = ns.map .int := by simpa [sview, lview] using hx
    subst e
    refine ⟨ns.map .int, rfl, .inl ?_⟩
    rw [cut_tail (α := Nat), mp]
    exact ⟨.lst (ns.map .int), _, _, _, rfl, rfl, rfl, go _ rfl trivial trivial⟩
  | frl ys =>
    have e : ys = ns.map .int := by simpa [sview, lview] using hx
    subst e
    refine ⟨ns.map .int, rfl, .inl ?_⟩
    rw [cut_tail (α := Nat), mp]
    exact ⟨.frl (ns.map .int), _, _, _, rfl, rfl, rfl, go _ rfl trivial trivial⟩
  | ref k =>
    refine ⟨ns.map .int, hx, .inl ?_⟩
    rw [cut_tail (α := Nat), mp]
    exact ⟨.ref k, _, _, _, rfl, hx, rfl, go _ rfl trivial as1⟩
  | _ => simp [sview, lview] at hx
/-! is_lot_of -/
def lotOfB (many : Int) (xs : List Vl) : Bool := xs.all (inB 0 (many - 1))
theorem asLong_of {μ : Mu} {x : Vl} {xs : List Vl} (h : sview μ x = some xs) : asLong xs x μ := by
  cases x with
  | ref k => exact mview_ref (by simpa [sview, lview, mview] using h)
  | _ => trivial
def c_is_lot_of : Ct := fun xs μ Q => ∃ (x : Vl) (many : Int), xs = [x, .int many] ∧ Pl μ x ∧ (∀ ys, sview μ x = some ys → ∀ y ∈ ys, Pl μ y) ∧ Q (.bl (match sview μ x with | some ys => lotOfB many ys | none => false)) μ
def b_is_lot_of : DS :=
    (dRet (dAndV (dCall c_is_listed (dCons (dVar 0) dNil)) (dCB fAll (dCons (dLc (dIter (dVar 0)) (dgName 2) dYes (dCall c_is_within (dCons (dVar 2) (dCons (dC (.int 0)) (dCons (dOp (dI0 fun i j => .int (i - j)) (dVar 1) (dC (.int 1))) dNil)))) [2]) dNil))))
theorem l_is_lot_of : ∀ xs μ Q, c_is_lot_of xs μ Q → xs.length = 2 := by
  intro xs μ Q ⟨_, _, e, _⟩; subst e; rfl
theorem r_is_lot_of : ∀ xs μ Q, c_is_lot_of xs μ Q → b_is_lot_of (pureEnds μ Q) (startD ["value", "many", "one"] xs) μ := by
  intro xs μ Q ⟨x, many, e, hp, hy, q⟩
  subst e
  refine ⟨x, rfl, hp, ?_⟩
  cases hx : sview μ x with
  | none =>
    rw [hx] at q
    exact DL.pure_rt rfb_bl q
  | some ys =>
    rw [hx] at q
    have hy := hy ys hx
    refine ⟨ys, hx, ?_⟩
    have z := DL.lc_map (G := asLong ys x) (g := dgName 2) (de := dCall c_is_within (dCons (dVar 2) (dCons (dC (.int 0)) (dCons (dOp (dI0 fun i j => .int (i - j)) (dVar 1) (dC (.int 1))) dNil)))) (ρ := wipeD [some x, some (.int many), none] [2]) (μ := μ)
      (Q := fun acc μ2 => newL acc μ2 fun z μ3 => fAll [z] μ3 (pureEnds μ Q).rt) (asLong_of hx) (fun y => y) (fun y => .bl (inB 0 (many - 1) y)) ys [] (fun y hm P hP => ⟨y, 0, many - 1, rfl, hy y hm, hP⟩) ?_
    · rw [List.map_id'] at z; exact z
    · refine .inl ⟨_, ys.map (inB 0 (many - 1)), rfl, ?_, ?_⟩
      · show some _ = some _
        rw [List.nil_append, List.map_map]; rfl
      · refine DL.pure_rt rfb_bl ?_
        have e : (ys.map (inB 0 (many - 1))).all id = lotOfB many ys := by unfold lotOfB; rw [List.all_map]; rfl
        rw [e]; exact q
/-! is_multiple -/
def c_is_multiple : Ct := fun xs μ Q => ∃ i : Int, xs = [.int i] ∧ Q (.bl (inB (-1000) 1000 (.int i))) μ
def b_is_multiple : DS :=
    (dRet (dCall c_is_within (dCons (dVar 0) (dCons (dNeg (dC (.int 1000))) (dCons (dC (.int 1000)) dNil)))))
theorem l_is_multiple : ∀ xs μ Q, c_is_multiple xs μ Q → xs.length = 1 := by
  intro xs μ Q ⟨_, e, _⟩; subst e; rfl
theorem pl_int {μ : Mu} {i : Int} : Pl μ (.int i) := ⟨.int, rfl, fun C e => by cases e⟩
theorem r_is_multiple : ∀ xs μ Q, c_is_multiple xs μ Q → b_is_multiple (pureEnds μ Q) (startD ["value"] xs) μ := by
  intro xs μ Q ⟨i, e, q⟩
  subst e
  exact ⟨.int i, -1000, 1000, rfl, pl_int, DL.pure_rt rfb_bl q⟩
/-! is_name: of the names that are drawn -/
def names : List Str := ["main", "f", "g", "h", "t", "u", "d", "e"]
def c_is_name : Ct := fun xs μ Q => ∃ s : Str, xs = [.str s] ∧ s ∈ names ∧ Q (.bl true) μ
def b_is_name : DS :=
    (dSeq (dIf (dOrT (dNotT (dTest (dCB (fIsi (anT "str") (.ty "str")) (dCons (dVar 0) (dCons (dC (.op (.ty "str"))) dNil))))) (dOrT (dNotT (dTest (dChain dLe dLe (dC (.int 1)) (dCB fLenS (dCons (dVar 0) dNil)) (dC (.int 8))))) (dTest (dOp (dSg true) (dOp dIxS (dVar 0) (dC (.int 0))) (dC (.str "abcdefghijklmnopqrstuvwxyz")))))) (dRet (dC (.bl false))) dNext)
    (dRet (dCB fAll (dCons (dLc (dSigns (dVar 0)) (dgName 1) dYes (dOrV (dOp (dSg false) (dVar 1) (dC (.str "abcdefghijklmnopqrstuvwxyz"))) (dOp (dSg false) (dVar 1) (dC (.str "0123456789")))) [1]) dNil))))
theorem l_is_name : ∀ xs μ Q, c_is_name xs μ Q → xs.length = 1 := by
  intro xs μ Q ⟨_, e, _⟩; subst e; rfl
theorem name_ok : ∀ s ∈ names, (1 ≤ s.length ∧ s.length ≤ 8) ∧ (∃ c, L2.atI s.cps.toList 0 = some c ∧ c ∈ ("abcdefghijklmnopqrstuvwxyz" : Str).cps.toList) ∧ s.cps.size ≤ 8 ∧ ∀ c ∈ s.cps.toList, c ∈ ("abcdefghijklmnopqrstuvwxyz" : Str).cps.toList := by
  intro s hs
  simp only [names, List.mem_cons, List.not_mem_nil, or_false] at hs
  rcases hs with e | e | e | e | e | e | e | e <;> subst e <;> exact ⟨by decide +kernel, ⟨_, rfl, by decide +kernel⟩, by decide +kernel, by decide +kernel⟩
theorem r_is_name : ∀ xs μ Q, c_is_name xs μ Q → b_is_name (pureEnds μ Q) (startD ["value", "sign"] xs) μ := by
  intro xs μ Q ⟨s, e, hs, q⟩
  subst e
  have hsl := sizeLine_eq
  obtain ⟨⟨h1, h2⟩, ⟨c, hc, hcm⟩, h3, h4⟩ := name_ok s hs
  refine ⟨.str s, .str, true, rfl, rfl, by decide, ?_⟩
  refine ⟨s, rfl, by omega, ?_⟩
  refine bl_split (p := (1 : Int) ≤ (s.length : Int)) (fun _ => ?_) (fun h => absurd (by omega) h)
  refine dec_splitB (p := (s.length : Int) ≤ 8) (fun h => absurd (by omega) h) (fun _ => ?_)
  refine ⟨s, 0, c, rfl, rfl, by omega, hc, ?_⟩
  refine ⟨c, _, rfl, rfl, ?_⟩
  rw [decide_eq_true hcm]
  refine ⟨s, rfl, by omega, ?_⟩
  refine DL.lc_map (μ := μ) trivial (fun c : Nat => Vl.str ⟨#[c]⟩) (fun _ => .bl true) s.cps.toList [] (fun c hc P hP => ?_) ?_
  · refine ⟨c, _, rfl, rfl, ?_⟩
    rw [decide_eq_true (h4 c hc)]
    exact hP
  · refine .inl ⟨_, s.cps.toList.map (fun _ => true), rfl, ?_, ?_⟩
    · show some _ = some _
      rw [List.nil_append, List.map_map]; rfl
    · have e : (s.cps.toList.map (fun _ => true)).all id = true := by simp
      rw [e]; exact DL.pure_rt rfb_bl q
end K65

set_option maxHeartbeats 1000000
/-! ZB: codes as data; readings of fixed, of the step check. -/
namespace K65
open PySem PySem.Spec L2 StX PyProof.Rows DL
structure Cs where
  Paper : Addr
  StepCheck : Addr
  Code : Addr
  Needed : Addr
  ne : Paper ≠ Needed
inductive St where
  | set (r c : Int) (qs : List (Int × Int)) | go (p : Nat) | test (w : Str) (rs : List Int) (y n : Nat) | deed (w : Str) (rs : List Int) | call (k : Nat) (hs qs : List Int) | back (rs : List Int)
structure Pr where
  word : Str
  handed : Nat
  back : Nat
  regs : Nat
  steps : List St
def slots (qs : List (Int × Int)) : List Int := qs.map Prod.fst
def iT (r : List Int) : Vl := .tup (r.map .int)
def pairV (q : Int × Int) : Vl := .tup [.int q.1, .int q.2]
def St.v : St → List Vl
  | .set r c qs => [.str "set", .int r, .int c, .tup (qs.map pairV)]
  | .go p => [.str "go", .int p]
  | .test w rs y n => [.str "test", .str w, iT rs, .int y, .int n]
  | .deed w rs => [.str "deed", .str w, iT rs]
  | .call k hs qs => [.str "call", .int k, iT hs, iT qs]
  | .back rs => [.str "back", iT rs]
def St.t (s : St) : Vl := .tup s.v
def St.m (s : St) : Vl := .lst s.v
def Pr.v (p : Pr) : Vl := .tup [.str p.word, .int p.handed, .int p.back, .int p.regs, .tup (p.steps.map St.t)]
def Pr.m (p : Pr) : Vl := .lst [.str p.word, .int p.handed, .int p.back, .int p.regs, .lst (p.steps.map St.m)]
def inR (n : Nat) (rs : List Int) : Prop := ∀ x ∈ rs, 0 ≤ x ∧ x < n
def St.isLast : St → Bool
  | .go _ => true
  | .test _ _ _ _ => true
  | .back _ => true
  | _ => false
def StOk (ps : List Pr) (p : Pr) : St → Prop
  | .set r c qs => (0 ≤ r ∧ r < p.regs) ∧ (-1000 ≤ c ∧ c ≤ 1000) ∧ (slots qs).Pairwise (· < ·) ∧ inR p.regs (slots qs) ∧ (∀ q ∈ qs, -1000 ≤ q.2 ∧ q.2 ≤ 1000) ∧ qs.length ≤ p.regs
  | .go q => q < p.steps.length
  | .test w rs y n => w ∈ names ∧ rs.length ≤ 4 ∧ inR p.regs rs ∧ y < p.steps.length ∧ n < p.steps.length
  | .deed w rs => w ∈ names ∧ rs.length ≤ 4 ∧ inR p.regs rs
  | .call k hs qs => 1 ≤ k ∧ ∃ c, ps[k]? = some c ∧ hs.length = c.handed ∧ qs.length = c.back ∧ inR p.regs hs ∧ inR p.regs qs ∧ qs.Nodup
  | .back rs => rs.length = p.back ∧ inR p.regs rs
structure PrOk (ps : List Pr) (p : Pr) : Prop where
  word : p.word ∈ names
  handed : p.handed ≤ 3 ∧ p.handed ≤ p.regs
  back : p.back ≤ 3 ∧ p.back ≤ p.regs
  regs : 1 ≤ p.regs ∧ p.regs ≤ 3
  steps : 1 ≤ p.steps.length ∧ p.steps.length ≤ 60
  ok : ∀ s ∈ p.steps, StOk ps p s
  last : ∃ s, p.steps[p.steps.length - 1]? = some s ∧ s.isLast = true
structure Good (ps : List Pr) : Prop where
  len : 1 ≤ ps.length ∧ ps.length ≤ 4
  ok : ∀ p ∈ ps, PrOk ps p
theorem atI_nat {α : Type} {xs : List α} {i : Nat} {x : α} (h : xs[i]? = some x) : L2.atI xs (i : Int) = some x := by
  have hl := (List.getElem?_eq_some_iff.mp h).1
  unfold L2.atI ixN
  rw [if_pos (by omega), if_pos (by omega)]
  exact h
theorem atI0 {α : Type} {a : α} {r : List α} : L2.atI (a :: r) 0 = some a := atI_nat (i := 0) rfl
theorem atI1 {α : Type} {a b : α} {r : List α} : L2.atI (a :: b :: r) 1 = some b := atI_nat (i := 1) rfl
theorem atI2 {α : Type} {a b c : α} {r : List α} : L2.atI (a :: b :: c :: r) 2 = some c := atI_nat (i := 2) rfl
/-! fixed -/
inductive All2 {α β : Type} (R : α → β → Prop) : List α → List β → Prop
  | nil : All2 R [] []
  | cons {a : α} {b : β} {xs : List α} {ys : List β} : R a b → All2 R xs ys → All2 R (a :: xs) (b :: ys)
theorem All2.map {α β γ : Type} {R : β → γ → Prop} (f : α → β) (g : α → γ) : ∀ xs : List α, (∀ x ∈ xs, R (f x) (g x)) → All2 R (xs.map f) (xs.map g)
  | [], _ => .nil
  | x :: xs, h => .cons (h x List.mem_cons_self) (All2.map f g xs fun y hy => h y (List.mem_cons_of_mem _ hy))
def flB : Vl → Bool
  | .non => true
  | .bl _ => true
  | .int _ => true
  | .str _ => true
  | _ => false
/-- y is what fixed makes of x, at most so deep -/
def Fx (μ : Mu) : Nat → Vl → Vl → Prop
  | 0, _, _ => False
  | n + 1, x, y => (flB x = true ∧ y = x) ∨ ∃ xs ys, sview μ x = some xs ∧ y = .tup ys ∧ All2 (Fx μ n) xs ys
theorem fl_pl {μ : Mu} {x : Vl} (h : flB x = true) : Pl μ x ∧ sview μ x = none ∧ ∀ m, rfb m x = true := by
  cases x with
  | non => exact ⟨⟨.non, rfl, fun C e => by cases e⟩, rfl, fun _ => rfb_non⟩
  | bl b => exact ⟨⟨.bl, rfl, fun C e => by cases e⟩, rfl, fun _ => rfb_bl⟩
  | int i => exact ⟨⟨.int, rfl, fun C e => by cases e⟩, rfl, fun _ => rfb_int⟩
  | str s => exact ⟨⟨.str, rfl, fun C e => by cases e⟩, rfl, fun _ => rfb_str⟩
  | _ => cases h
theorem rfbs_all {m : Nat} : ∀ {ys : List Vl}, (∀ y ∈ ys, rfb m y = true) → rfbs m ys = true
  | [], _ => by rw [rfbs]
  | y :: ys, h => by rw [rfbs, h y List.mem_cons_self, rfbs_all fun z hz => h z (List.mem_cons_of_mem _ hz)]; rfl
theorem Fx.rfb {μ : Mu} {m : Nat} : ∀ {n : Nat} {x y : Vl}, Fx μ n x y → DL.rfb m y = true
  | 0, _, _, h => False.elim h
  | n + 1, x, y, h => by
    rcases h with ⟨h1, h2⟩ | ⟨xs, ys, h1, h2, h3⟩
    · subst h2; exact (fl_pl (μ := []) h1).2.2 m
    · subst h2
      rw [DL.rfb]
      refine rfbs_all fun b hb => ?_
      clear h1
      induction h3 with
      | nil => cases hb
      | cons r _ ih =>
        rcases List.mem_cons.mp hb with e | hb
        · subst e; exact Fx.rfb r
        · exact ih hb
theorem Fx.mono {μ : Mu} : ∀ {n m : Nat} {x y : Vl}, n ≤ m → Fx μ n x y → Fx μ m x y
  | 0, _, _, _, _, h => False.elim h
  | n + 1, 0, _, _, hl, _ => absurd hl (by omega)
  | n + 1, m + 1, x, y, hl, h => by
    rcases h with h | ⟨xs, ys, h1, h2, h3⟩
    · exact .inl h
    · refine .inr ⟨xs, ys, h1, h2, ?_⟩
      clear h1 h2
      induction h3 with
      | nil => exact .nil
      | cons r _ ih => exact .cons (Fx.mono (by omega) r) ih
theorem lc_all2 {G : Mu → Prop} {g : DG} {de : DE} {ρ : Rho} {Q : List Vl → Mu → Prop} {μ : Mu} {R : Vl → Vl → Prop} (hG : G μ) (h : ∀ a b, R a b → ∀ P : DK, P b μ → g a ρ μ fun ρ2 μ2 => de ρ2 μ2 P) : ∀ {xs ys : List Vl}, All2 R xs ys → ∀ acc : List Vl, Q (acc ++ ys) μ → lcD G g dYes de ρ Q xs acc μ
  | _, _, .nil, acc, q => ⟨hG, by simpa using q⟩
  | _, _, .cons (b := b) r t, acc, q => ⟨hG, h _ _ r _ (lc_all2 hG h t (acc ++ [b]) (by simpa using q))⟩
def c_fixed : Nat → Ct := fun n xs μ Q => ∃ x y, xs = [x] ∧ Fx μ n x y ∧ Q y μ
def b_fixed (c_rec : Ct) : DS :=
    (dSeq (dIf (dTest (dIsi2 (anOr (anT "list") (anT "tuple")) (dVar 0))) (dRet (dCB fTuple (dCons (dLc (dIter (dVar 0)) (dgName 1) dYes (dCall c_rec (dCons (dVar 1) dNil)) [1]) dNil))) dNext)
    (dRet (dVar 0)))
theorem l_fixed (n : Nat) : ∀ xs μ Q, c_fixed n xs μ Q → xs.length = 1 := by
  intro xs μ Q ⟨_, _, e, _⟩; subst e; rfl
theorem r_fixed (n : Nat) : ∀ xs μ Q, c_fixed (n + 1) xs μ Q → b_fixed (c_fixed n) (pureEnds μ Q) (startD ["value", "part"] xs) μ := by
  intro xs μ Q ⟨x, y, e, hf, q⟩
  subst e
  have rf : DL.rfb μ.length y = true := Fx.rfb hf
  rcases hf with ⟨h1, h2⟩ | ⟨xs, ys, h1, h2, h3⟩
  · subst h2
    obtain ⟨⟨t, ht, hn⟩, hs, _⟩ := fl_pl (μ := μ) h1
    have e : kSeq t = false := by rw [kn_seq ht, hs]; rfl
    refine ⟨t, _, ht, anT_seq hn, ?_⟩
    rw [e]
    exact DL.pure_rt rf q
  · subst h2
    obtain ⟨t, ht, hn⟩ := kn_of_seq h1
    have e : kSeq t = true := by rw [kn_seq ht, h1]; rfl
    refine ⟨t, _, ht, anT_seq hn, ?_⟩
    rw [e]
    refine ⟨xs, h1, ?_⟩
    refine lc_all2 (R := Fx μ n) (asLong_of h1) (fun a b r P hP => ⟨a, b, rfl, r, hP⟩) h3 [] ?_
    exact .inl ⟨_, ys, rfl, rfl, DL.pure_rt rf q⟩
/-! Paper -/
def c_Paper___init__ (S : Addr) : Ct := fun xs μ Q => ∃ (k : Nat) (w : Str) (zs ys : List Vl), xs = .ref k :: .str w :: zs ∧ zs.length ≤ 10 ∧ μ[k]? = some (.ins S []) ∧ All2 (Fx μ 7) zs ys ∧ Q .non (μ.set k (.ins S [("word", .str w), ("parts", .tup ys)]))
def b_Paper___init__ (S : Addr) : DS :=
    (dSeq (dgFld S "word" (dVar 0) (dVar 1))
    (dgFld S "parts" (dVar 0) (dCall (c_fixed 8) (dCons (dVar 2) dNil))))
theorem Fx.set {μ : Mu} {k : Nat} {C : Addr} {fs gs : List (Str × Vl)} (hk : μ[k]? = some (.ins C fs)) : ∀ {n : Nat} {x y : Vl}, Fx μ n x y → Fx (μ.set k (.ins C gs)) n x y
  | 0, _, _, h => h
  | n + 1, x, y, h => by
    rcases h with h | ⟨xs, ys, h1, h2, h3⟩
    · exact .inl h
    · refine .inr ⟨xs, ys, ?_, h2, ?_⟩
      · cases x with
        | ref j =>
          have h' : μ[j]? = some (.lst xs) := mview_ref (by simpa [sview, lview, mview] using h1)
          have ne : k ≠ j := fun e => by rw [e, h'] at hk; cases hk
          show (match (μ.set k (.ins C gs))[j]? with
            | some (.lst xs) => some xs
            | _ => none) = _
          rw [List.getElem?_set_ne ne, h']
        | _ => exact h1
      · clear h1 h2
        induction h3 with
        | nil => exact .nil
        | cons r _ ih => exact .cons (Fx.set hk r) ih
theorem r_Paper___init__ (S : Addr) : ∀ xs μ Q, c_Paper___init__ S xs μ Q → ∃ ys zs, xs = ys ++ zs ∧ ys.length = 2 ∧ zs.length ≤ sizeLine ∧ b_Paper___init__ S (spEnds Q) (startD ["self", "word", "parts"] (ys ++ [.tup zs])) μ := by
  intro xs μ Q ⟨k, w, zs, ys, e, hz, hk, hf, q⟩
  subst e
  have hsl := sizeLine_eq
  refine ⟨[.ref k, .str w], zs, rfl, rfl, by omega, ?_⟩
  refine ⟨k, [], rfl, hk, by decide, ?_⟩
  have hk' : (μ.set k (.ins S [("word", .str w)]))[k]? = some (.ins S [("word", .str w)]) := set_get hk
  refine ⟨.tup zs, .tup ys, rfl, .inr ⟨zs, ys, rfl, rfl, ?_⟩, ?_⟩
  · clear q
    induction hf with
    | nil => exact .nil
    | cons r _ ih => exact .cons (Fx.set hk r) (ih (by simp at hz; omega))
  · refine ⟨k, _, rfl, hk', by show 1 < 1000; decide, ?_⟩
    show Q .non _
    rw [set_set]
    exact q
/-! is_shape -/
theorem m_view {μ : Mu} {p : Pr} : sview μ p.m = some [.str p.word, .int p.handed, .int p.back, .int p.regs, .lst (p.steps.map St.m)] := rfl
theorem pl_seq {μ : Mu} {x : Vl} {xs : List Vl} (h : sview μ x = some xs) : Pl μ x := kn_of_seq h
theorem inB_true {lo hi i : Int} (h1 : lo ≤ i) (h2 : i ≤ hi) : inB lo hi (.int i) = true := by simp [inB, h1, h2]
def c_is_shape : Ct := fun xs μ Q => ∃ (ps : List Pr) (p : Pr), xs = [p.m] ∧ PrOk ps p ∧ Q (.bl true) μ
def b_is_shape : DS :=
    (dSeq (dIf (dOrT (dNotT (dTest (dCall c_is_row (dCons (dVar 0) (dCons (dC (.int 5)) (dCons (dC (.int 5)) dNil)))))) (dNotT (dTest (dCall c_is_name (dCons (dOp dIx (dVar 0) (dC (.int 0))) dNil))))) (dRet (dC (.bl false))) dNext)
    (dSeq (dAsg (dVar 0) (dgLst 5 (dgCons (dgName 1) (dgCons (dgName 2) (dgCons (dgName 3) (dgCons (dgName 4) (dgCons (dgName 5) dgNil)))))))
    (dSeq (dIf (dOrT (dNotT (dTest (dCall c_is_within (dCons (dVar 4) (dCons (dC (.int 1)) (dCons (dC (.int 8)) dNil)))))) (dNotT (dTest (dCall c_is_within (dCons (dVar 2) (dCons (dC (.int 0)) (dCons (dCB fMin2 (dCons (dC (.int 3)) (dCons (dVar 4) dNil))) dNil))))))) (dRet (dC (.bl false))) dNext)
    (dRet (dAndV (dCall c_is_within (dCons (dVar 3) (dCons (dC (.int 0)) (dCons (dC (.int 3)) dNil)))) (dCall c_is_row (dCons (dVar 5) (dCons (dC (.int 1)) (dCons (dC (.int 60)) dNil)))))))))
theorem l_is_shape : ∀ xs μ Q, c_is_shape xs μ Q → xs.length = 1 := by
  intro xs μ Q ⟨_, _, e, _⟩; subst e; rfl
theorem r_is_shape : ∀ xs μ Q, c_is_shape xs μ Q → b_is_shape (pureEnds μ Q) (startD ["value", "word", "handed", "back", "registers", "steps"] xs) μ := by
  intro xs μ Q ⟨ps, p, e, ok, q⟩
  subst e
  have hsl := sizeLine_eq
  have h1 := ok.handed
  have h2 := ok.back
  have h3 := ok.regs
  have h4 := ok.steps
  refine ⟨p.m, 5, 5, rfl, pl_seq m_view, ?_⟩
  refine ⟨_, .str p.word, m_view, rfl, p.word, rfl, ok.word, ?_⟩
  refine ⟨_, rfl, rfl, rfl, ?_⟩
  refine ⟨.int p.regs, 1, 8, rfl, pl_int, ?_⟩
  rw [inB_true (by omega) (by omega)]
  refine ⟨.int p.handed, 0, _, rfl, pl_int, ?_⟩
  have e1 : inB 0 (if ((p.regs : Nat) : Int) < 3 then ((p.regs : Nat) : Int) else 3) (.int p.handed) = true := by
    refine inB_true (by omega) ?_
    split <;> omega
  rw [e1]
  refine ⟨.int p.back, 0, 3, rfl, pl_int, ?_⟩
  rw [inB_true (by omega) (by omega)]
  refine ⟨.lst (p.steps.map St.m), 1, 60, rfl, pl_seq rfl, ?_⟩
  have e2 : rowB 1 60 (sview μ (.lst (p.steps.map St.m))) = true := by
    show decide _ = true
    rw [List.length_map]
    exact decide_eq_true ⟨by omega, by omega⟩
  rw [e2]
  exact DL.pure_rt rfb_bl q
/-! the step check -/
def scFs (ps : List Pr) (p : Pr) : List (Str × Vl) := [("procedures", .lst (ps.map Pr.m)), ("registers", .int p.regs), ("back", .int p.back), ("places", .int p.steps.length)]
def scM (G : Cs) (ps : List Pr) (p : Pr) : Mo := .ins G.StepCheck (scFs ps p)
def c_StepCheck___init__ (G : Cs) : Ct := fun xs μ Q => ∃ (k : Nat) (ps : List Pr) (i : Nat) (p : Pr), xs = [.ref k, .lst (ps.map Pr.m), .int i] ∧ ps[i]? = some p ∧ μ[k]? = some (.ins G.StepCheck []) ∧ Q .non (μ.set k (scM G ps p))
def b_StepCheck___init__ (G : Cs) : DS :=
    (dSeq (dgFld G.StepCheck "procedures" (dVar 0) (dVar 1))
    (dSeq (dgFld G.StepCheck "registers" (dVar 0) (dOp dIx (dOp dIx (dVar 1) (dVar 2)) (dC (.int 3))))
    (dSeq (dgFld G.StepCheck "back" (dVar 0) (dOp dIx (dOp dIx (dVar 1) (dVar 2)) (dC (.int 2))))
    (dgFld G.StepCheck "places" (dVar 0) (dCB fLen (dCons (dOp dIx (dOp dIx (dVar 1) (dVar 2)) (dC (.int 4))) dNil))))))
theorem l_StepCheck___init__ (G : Cs) : ∀ xs μ Q, c_StepCheck___init__ G xs μ Q → xs.length = 3 := by
  intro xs μ Q ⟨_, _, _, _, e, _⟩; subst e; rfl
theorem r_StepCheck___init__ (G : Cs) : ∀ xs μ Q, c_StepCheck___init__ G xs μ Q → b_StepCheck___init__ G (spEnds Q) (startD ["self", "procedures", "number"] xs) μ := by
  intro xs μ Q ⟨k, ps, i, p, e, hi, hk, q⟩
  subst e
  have hat : L2.atI (ps.map Pr.m) (i : Int) = some p.m := atI_nat (by rw [List.getElem?_map, hi]; rfl)
  refine ⟨k, [], rfl, hk, by decide, ?_⟩
  refine ⟨_, p.m, rfl, hat, _, .int p.regs, m_view, rfl, ?_⟩
  refine ⟨k, _, rfl, set_get hk, by show 1 < 1000; decide, ?_⟩
  refine ⟨_, p.m, rfl, hat, _, .int p.back, m_view, rfl, ?_⟩
  refine ⟨k, _, rfl, set_get (set_get hk), by show 2 < 1000; decide, ?_⟩
  refine ⟨_, p.m, rfl, hat, _, .lst (p.steps.map St.m), m_view, rfl, ?_⟩
  refine ⟨_, p.steps.map St.m, rfl, rfl, ?_⟩
  refine ⟨k, _, rfl, set_get (set_get (set_get hk)), by show 3 < 1000; decide, ?_⟩
  rw [List.length_map]
  show Q .non _
  rw [set_set, set_set, set_set]
  exact q
theorem sc_fld {G : Cs} {μ : Mu} {k : Nat} {ps : List Pr} {p : Pr} (h : μ[k]? = some (scM G ps p)) : μ[k]? = some (.ins G.StepCheck (scFs ps p)) := h
def c_StepCheck_is_place (G : Cs) : Ct := fun xs μ Q => ∃ (k : Nat) (ps : List Pr) (p : Pr) (i : Nat), xs = [.ref k, .int i] ∧ μ[k]? = some (scM G ps p) ∧ i < p.steps.length ∧ Q (.bl true) μ
def b_StepCheck_is_place (G : Cs) : DS :=
    (dRet (dCall c_is_within (dCons (dVar 1) (dCons (dC (.int 0)) (dCons (dOp (dI0 fun i j => .int (i - j)) (dFld G.StepCheck "places" (dVar 0)) (dC (.int 1))) dNil)))))
theorem l_StepCheck_is_place (G : Cs) : ∀ xs μ Q, c_StepCheck_is_place G xs μ Q → xs.length = 2 := by
  intro xs μ Q ⟨_, _, _, _, e, _⟩; subst e; rfl
theorem r_StepCheck_is_place (G : Cs) : ∀ xs μ Q, c_StepCheck_is_place G xs μ Q → b_StepCheck_is_place G (pureEnds μ Q) (startD ["self", "value"] xs) μ := by
  intro xs μ Q ⟨k, ps, p, i, e, hk, hi, q⟩
  subst e
  refine ⟨k, _, .int p.steps.length, rfl, sc_fld hk, rfl, ?_⟩
  refine ⟨.int i, 0, _, rfl, pl_int, ?_⟩
  rw [inB_true (by omega) (by omega)]
  exact DL.pure_rt rfb_bl q
/-- a row of registers -/
def RegsV (μ : Mu) (x : Vl) (rs : List Int) : Prop := sview μ x = some (rs.map .int)
def c_StepCheck_are_registers (G : Cs) : Ct := fun xs μ Q => ∃ (k : Nat) (ps : List Pr) (p : Pr) (x : Vl) (rs : List Int) (lo hi : Int), xs = [.ref k, x, .int lo, .int hi] ∧ μ[k]? = some (scM G ps p) ∧ RegsV μ x rs ∧ (lo ≤ (rs.length : Int) ∧ (rs.length : Int) ≤ hi) ∧ inR p.regs rs ∧ Q (.bl true) μ
def b_StepCheck_are_registers (G : Cs) : DS :=
    (dRet (dAndV (dCall c_is_row (dCons (dVar 1) (dCons (dVar 2) (dCons (dVar 3) dNil)))) (dCall c_is_lot_of (dCons (dVar 1) (dCons (dFld G.StepCheck "registers" (dVar 0)) dNil)))))
theorem l_StepCheck_are_registers (G : Cs) : ∀ xs μ Q, c_StepCheck_are_registers G xs μ Q → xs.length = 4 := by
  intro xs μ Q ⟨_, _, _, _, _, _, _, e, _⟩; subst e; rfl
theorem lot_true {n : Nat} {rs : List Int} (h : inR n rs) : lotOfB (n : Int) (rs.map .int) = true := by
  unfold lotOfB
  rw [List.all_eq_true]
  intro x hx
  obtain ⟨i, hi, e⟩ := List.mem_map.mp hx
  subst e
  have := h i hi
  exact inB_true (by omega) (by omega)
theorem r_StepCheck_are_registers (G : Cs) : ∀ xs μ Q, c_StepCheck_are_registers G xs μ Q → b_StepCheck_are_registers G (pureEnds μ Q) (startD ["self", "value", "least", "most"] xs) μ := by
  intro xs μ Q ⟨k, ps, p, x, rs, lo, hi, e, hk, hx, hl, hr, q⟩
  subst e
  have hx' : sview μ x = some (rs.map .int) := hx
  refine ⟨x, lo, hi, rfl, pl_seq hx, ?_⟩
  have e1 : rowB lo hi (sview μ x) = true := by
    rw [hx']
    show decide _ = true
    rw [List.length_map]; exact decide_eq_true hl
  rw [e1]
  refine ⟨k, _, .int p.regs, rfl, sc_fld hk, rfl, ?_⟩
  refine ⟨x, p.regs, rfl, pl_seq hx, fun ys hy y hm => ?_, ?_⟩
  · rw [hx'] at hy
    cases hy
    obtain ⟨i, _, e⟩ := List.mem_map.mp hm
    subst e; exact pl_int
  · rw [hx']
    show (pureEnds μ Q).rt (.bl (lotOfB (p.regs : Int) (rs.map .int))) μ
    rw [lot_true hr]
    exact DL.pure_rt rfb_bl q
end K65

set_option maxHeartbeats 1000000
/-! ZC: readings of the step check, of making codes. -/
namespace K65
open PySem PySem.Spec L2 StX PyProof.Rows DL
theorem if_word {i : Nat} {x : Vl} {w w' : Str} {r : List Vl} {A B : DS} {D : DEnds} {ρ : Rho} {μ : Mu} (hi : ρ[i]? = some (some x)) (hv : sview μ x = some (.str w :: r)) (h1 : w = w' → A D ρ μ) (h2 : w ≠ w' → B D ρ μ) :
    dIf (dTest (dOp dEq (dOp dIx (dVar i) (dC (.int 0))) (dC (.str w')))) A B D ρ μ := by
  unfold dIf dTest dOp
  refine dVar_at hi ?_
  refine ⟨.str w :: r, .str w, hv, atI0, ?_⟩
  exact dec_splitE (p := w = w') h1 h2
theorem if_wordS {i : Nat} {x : Vl} {w w' : Str} {r : List Vl} {A U : DS} {D : DEnds} {ρ : Rho} {μ : Mu} (hi : ρ[i]? = some (some x)) (hv : sview μ x = some (.str w :: r)) (h1 : w = w' → A { D with nx := U D } ρ μ) (h2 : w ≠ w' → U D ρ μ) :
    dSeq (dIf (dTest (dOp dEq (dOp dIx (dVar i) (dC (.int 0))) (dC (.str w')))) A dNext) U D ρ μ := if_word (D := { D with nx := U D }) hi hv h1 h2
theorem is_row_lo {μ : Mu} {x : Vl} {xs : List Vl} {lo hi : Int} (h : sview μ x = some xs) (h1 : lo ≤ (xs.length : Int)) (h2 : (xs.length : Int) ≤ hi) : rowB lo hi (sview μ x) = true := by
  rw [h]; exact decide_eq_true ⟨h1, h2⟩
def c_StepCheck_is_shown (G : Cs) : Ct := fun xs μ Q => ∃ (k : Nat) (ps : List Pr) (p : Pr) (x : Vl) (w0 w : Str) (rs : List Int) (r : List Vl), xs = [.ref k, x] ∧ μ[k]? = some (scM G ps p) ∧ sview μ x = some (.str w0 :: .str w :: iT rs :: r) ∧ w ∈ names ∧ rs.length ≤ 4 ∧ inR p.regs rs ∧ Q (.bl true) μ
def b_StepCheck_is_shown (G : Cs) : DS :=
    (dRet (dAndV (dCall c_is_name (dCons (dOp dIx (dVar 1) (dC (.int 1))) dNil)) (dMeth G.StepCheck "are_registers" (c_StepCheck_are_registers G) (dVar 0) (dCons (dOp dIx (dVar 1) (dC (.int 2))) (dCons (dC (.int 0)) (dCons (dC (.int 4)) dNil))))))
theorem l_StepCheck_is_shown (G : Cs) : ∀ xs μ Q, c_StepCheck_is_shown G xs μ Q → xs.length = 2 := by
  intro xs μ Q ⟨_, _, _, _, _, _, _, _, e, _⟩; subst e; rfl
theorem r_StepCheck_is_shown (G : Cs) : ∀ xs μ Q, c_StepCheck_is_shown G xs μ Q → b_StepCheck_is_shown G (pureEnds μ Q) (startD ["self", "step"] xs) μ := by
  intro xs μ Q ⟨k, ps, p, x, w0, w, rs, r, e, hk, hv, hw, hl, hr, q⟩
  subst e
  refine ⟨_, .str w, hv, atI1, w, rfl, hw, ?_⟩
  refine ⟨⟨k, _, rfl, sc_fld hk, rfl⟩, _, iT rs, hv, atI2, ?_⟩
  exact ⟨k, ps, p, iT rs, rs, 0, 4, rfl, hk, rfl, ⟨by omega, by omega⟩, hr, DL.pure_rt rfb_bl q⟩
def c_StepCheck_is_set (G : Cs) : Ct := fun xs μ Q => ∃ (k : Nat) (ps : List Pr) (p : Pr) (r c : Int) (qs : List (Int × Int)), xs = [.ref k, (St.set r c qs).m] ∧ μ[k]? = some (scM G ps p) ∧ StOk ps p (.set r c qs) ∧ Q (.bl true) μ
def b_StepCheck_is_set (G : Cs) : DS :=
    (dSeq (dIf (dOrT (dNotT (dTest (dCall c_is_within (dCons (dOp dIx (dVar 1) (dC (.int 1))) (dCons (dC (.int 0)) (dCons (dOp (dI0 fun i j => .int (i - j)) (dFld G.StepCheck "registers" (dVar 0)) (dC (.int 1))) dNil)))))) (dOrT (dNotT (dTest (dCall c_is_multiple (dCons (dOp dIx (dVar 1) (dC (.int 2))) dNil)))) (dNotT (dTest (dCall c_is_listed (dCons (dOp dIx (dVar 1) (dC (.int 3))) dNil)))))) (dRet (dC (.bl false))) dNext)
    (dSeq (dIf (dNotT (dTest (dCB fAll (dCons (dLc (dIter (dOp dIx (dVar 1) (dC (.int 3)))) (dgName 3) dYes (dAndV (dCall c_is_row (dCons (dVar 3) (dCons (dC (.int 2)) (dCons (dC (.int 2)) dNil)))) (dCall c_is_multiple (dCons (dOp dIx (dVar 3) (dC (.int 1))) dNil))) [3]) dNil)))) (dRet (dC (.bl false))) dNext)
    (dSeq (dAsg (dLc (dIter (dOp dIx (dVar 1) (dC (.int 3)))) (dgName 3) dYes (dOp dIx (dVar 3) (dC (.int 0))) [3]) (dgName 2))
    (dRet (dAndV (dMeth G.StepCheck "are_registers" (c_StepCheck_are_registers G) (dVar 0) (dCons (dVar 2) (dCons (dC (.int 0)) (dCons (dFld G.StepCheck "registers" (dVar 0)) dNil)))) (dCall c_is_ascending (dCons (dVar 2) dNil)))))))
theorem l_StepCheck_is_set (G : Cs) : ∀ xs μ Q, c_StepCheck_is_set G xs μ Q → xs.length = 2 := by
  intro xs μ Q ⟨_, _, _, _, _, _, e, _⟩; subst e; rfl
theorem set_view {μ : Mu} {r c : Int} {qs : List (Int × Int)} : sview μ (St.set r c qs).m = some [.str "set", .int r, .int c, .tup (qs.map pairV)] := rfl
theorem r_StepCheck_is_set (G : Cs) : ∀ xs μ Q, c_StepCheck_is_set G xs μ Q → b_StepCheck_is_set G (pureEnds μ Q) (startD ["self", "step", "some", "pair"] xs) μ := by
  intro xs μ Q ⟨k, ps, p, r, c, qs, e, hk, ⟨hr, hc, hup, hq, hm, hl⟩, q⟩
  subst e
  refine ⟨_, .int r, set_view, rfl, k, _, .int p.regs, rfl, sc_fld hk, rfl, ?_⟩
  refine ⟨.int r, 0, _, rfl, pl_int, ?_⟩
  rw [inB_true (by omega) (by omega)]
  refine ⟨_, .int c, set_view, rfl, c, rfl, ?_⟩
  rw [inB_true (by omega) (by omega)]
  refine ⟨_, .tup (qs.map pairV), set_view, rfl, .tup (qs.map pairV), rfl, pl_seq rfl, ?_⟩
  refine ⟨_, .tup (qs.map pairV), set_view, rfl, _, rfl, ?_⟩
  refine DL.lc_map (μ := μ) trivial pairV (fun _ => .bl true) qs [] (fun y hy P hP => ?_) ?_
  · refine ⟨pairV y, 2, 2, rfl, pl_seq rfl, ?_⟩
    refine ⟨_, .int y.2, rfl, rfl, y.2, rfl, ?_⟩
    rw [inB_true (hm y hy).1 (hm y hy).2]
    exact hP
  refine .inl ⟨_, qs.map (fun _ => true), rfl, ?_, ?_⟩
  · show some _ = some _
    rw [List.nil_append, List.map_map]; rfl
  have e1 : (qs.map (fun _ => true)).all id = true := by simp
  rw [e1]
  refine ⟨_, .tup (qs.map pairV), set_view, rfl, _, rfl, ?_⟩
  refine DL.lc_map (μ := μ) trivial pairV (fun y => .int y.1) qs [] (fun y hy P hP => ⟨_, .int y.1, rfl, rfl, hP⟩) ?_
  have e2 : ([] ++ qs.map fun y : Int × Int => Vl.int y.1) = (slots qs).map .int := by rw [List.nil_append]; unfold slots; rw [List.map_map]; rfl
  rw [e2]
  refine .inl ?_
  refine ⟨⟨k, _, rfl, sc_fld hk, rfl⟩, k, _, .int p.regs, rfl, sc_fld hk, rfl, ?_⟩
  refine ⟨k, ps, p, .lst ((slots qs).map .int), slots qs, 0, p.regs, rfl, hk, rfl, ⟨by omega, by unfold slots; rw [List.length_map]; omega⟩, hq, ?_⟩
  refine ⟨.lst ((slots qs).map .int), slots qs, rfl, rfl, ?_⟩
  rw [(ascB_iff _).mpr hup]
  exact DL.pure_rt rfb_bl q
/-! is_call: as many different keys as registers -/
theorem keys_nodup : ∀ (rs : List Int) (acc : List (Key × Vl)), rs.Nodup → (∀ x ∈ rs, ∀ kv ∈ acc, kv.1 ≠ Sum.inl x) → ∀ {G : Mu → Prop} {ρ : Rho} {μ : Mu} {K : List (Key × Vl) → Mu → Prop}, G μ → acc.length + rs.length ≤ 1000 → (∀ acc', acc'.length = acc.length + rs.length → K acc' μ) → ρ.length = 5 →
    dcIn G (dgName 4) (dVar 4) (dC (.bl true)) ρ K (rs.map .int) acc μ
  | [], acc, _, _, _, _, _, _, hG, _, h, _ => ⟨hG, h acc rfl⟩
  | x :: rs, acc, hn, ha, G, ρ, μ, K, hG, hl, h, hρ => by
    obtain ⟨h1, h2⟩ := List.nodup_cons.mp hn
    have hsl := sizeLine_eq
    rw [List.length_cons] at hl
    refine ⟨hG, ?_⟩
    unfold dgName
    refine dVar_at (x := .int x) (by show (ρ.set 4 (some (.int x)))[4]? = _; rw [List.getElem?_set_self (by omega)]) ?_
    refine ⟨Sum.inl x, rfl, by omega, ?_⟩
    have e1 : (acc.any fun kv => decide (kv.1 = Sum.inl x)) = false := by
      rw [List.any_eq_false]
      intro kv hk
      simpa using ha x List.mem_cons_self kv hk
    have e2 : putK' acc (Sum.inl x) (.bl true) = acc ++ [(Sum.inl x, .bl true)] := by
      unfold putK'
      rw [e1]; rfl
    rw [e2]
    refine keys_nodup rs _ h2 (fun y hy kv hk => ?_) hG (by simp; omega) (fun acc' e => h acc' (by simp at e ⊢; omega)) hρ
    rcases List.mem_append.mp hk with hk | hk
    · exact ha y (List.mem_cons_of_mem _ hy) kv hk
    · rw [List.mem_singleton.mp hk]
      intro e
      cases e
      exact h1 hy
def c_StepCheck_is_call (G : Cs) : Ct := fun xs μ Q => ∃ (k : Nat) (ps : List Pr) (p : Pr) (j : Nat) (hs qs : List Int), xs = [.ref k, (St.call j hs qs).m] ∧ μ[k]? = some (scM G ps p) ∧ StOk ps p (.call j hs qs) ∧ qs.length ≤ 3 ∧ Q (.bl true) μ
def b_StepCheck_is_call (G : Cs) : DS :=
    (dSeq (dIf (dNotT (dTest (dCall c_is_within (dCons (dOp dIx (dVar 1) (dC (.int 1))) (dCons (dC (.int 1)) (dCons (dOp (dI0 fun i j => .int (i - j)) (dCB fLen (dCons (dFld G.StepCheck "procedures" (dVar 0)) dNil)) (dC (.int 1))) dNil)))))) (dRet (dC (.bl false))) dNext)
    (dSeq (dAsg (dSlA (dOp dIx (dFld G.StepCheck "procedures" (dVar 0)) (dOp dIx (dVar 1) (dC (.int 1)))) (dPart (dC (.int 1))) (dPart (dC (.int 3)))) (dgLst 2 (dgCons (dgName 2) (dgCons (dgName 3) dgNil))))
    (dSeq (dIf (dOrT (dNotT (dTest (dMeth G.StepCheck "are_registers" (c_StepCheck_are_registers G) (dVar 0) (dCons (dOp dIx (dVar 1) (dC (.int 2))) (dCons (dVar 2) (dCons (dVar 2) dNil)))))) (dNotT (dTest (dMeth G.StepCheck "are_registers" (c_StepCheck_are_registers G) (dVar 0) (dCons (dOp dIx (dVar 1) (dC (.int 3))) (dCons (dVar 3) (dCons (dVar 3) dNil))))))) (dRet (dC (.bl false))) dNext)
    (dRet (dOp dEq (dCB fLenD (dCons (dDc (dIter (dOp dIx (dVar 1) (dC (.int 3)))) (dgName 4) (dVar 4) (dC (.bl true)) [4]) dNil)) (dVar 3))))))
theorem l_StepCheck_is_call (G : Cs) : ∀ xs μ Q, c_StepCheck_is_call G xs μ Q → xs.length = 2 := by
  intro xs μ Q ⟨_, _, _, _, _, _, e, _⟩; subst e; rfl
theorem call_view {μ : Mu} {j : Nat} {hs qs : List Int} : sview μ (St.call j hs qs).m = some [.str "call", .int j, iT hs, iT qs] := rfl
theorem r_StepCheck_is_call (G : Cs) : ∀ xs μ Q, c_StepCheck_is_call G xs μ Q → b_StepCheck_is_call G (pureEnds μ Q) (startD ["self", "step", "handed", "back", "register"] xs) μ := by
  intro xs μ Q ⟨k, ps, p, j, hs, qs, e, hk, ⟨h1, c, hc, h2, h3, h4, h5, h6⟩, h7, q⟩
  subst e
  have hj := (List.getElem?_eq_some_iff.mp hc).1
  refine ⟨_, .int j, call_view, rfl, k, _, .lst (ps.map Pr.m), rfl, sc_fld hk, rfl, ?_⟩
  refine ⟨_, ps.map Pr.m, rfl, rfl, ?_⟩
  refine ⟨.int j, 1, _, rfl, pl_int, ?_⟩
  rw [inB_true (by omega) (by rw [List.length_map]; omega)]
  refine ⟨k, _, .lst (ps.map Pr.m), rfl, sc_fld hk, rfl, _, .int j, call_view, rfl, _, c.m, rfl, atI_nat (by rw [List.getElem?_map, hc]; rfl), ?_⟩
  refine ⟨_, rfl, .inl ?_⟩
  refine ⟨_, rfl, rfl, rfl, ?_⟩
  refine ⟨⟨k, _, rfl, sc_fld hk, rfl⟩, _, iT hs, call_view, rfl, ?_⟩
  refine ⟨k, ps, p, iT hs, hs, c.handed, c.handed, rfl, hk, rfl, ⟨by omega, by omega⟩, h4, ?_⟩
  refine ⟨⟨k, _, rfl, sc_fld hk, rfl⟩, _, iT qs, call_view, rfl, ?_⟩
  refine ⟨k, ps, p, iT qs, qs, c.back, c.back, rfl, hk, rfl, ⟨by omega, by omega⟩, h5, ?_⟩
  refine ⟨_, iT qs, call_view, rfl, _, rfl, ?_⟩
  refine keys_nodup qs [] h6 (fun _ _ _ h => by cases h) trivial (by simp; omega) (fun acc' e => ?_) rfl
  refine ⟨_, acc', rfl, by rw [List.getElem?_append_right (Nat.le_refl _), Nat.sub_self]; rfl, ?_⟩
  have e3 : ((acc'.length : Int) = (c.back : Int)) := by simp at e; omega
  show (pureEnds μ Q).rt (.bl (decide ((acc'.length : Int) = (c.back : Int)) != false)) _
  rw [decide_eq_true e3]
  exact DL.pure_rt' rfb_bl q
/-! is_fine -/
def c_StepCheck_is_fine (G : Cs) : Ct := fun xs μ Q => ∃ (k : Nat) (ps : List Pr) (p : Pr) (s : St), xs = [.ref k, s.m] ∧ μ[k]? = some (scM G ps p) ∧ StOk ps p s ∧ (∀ c ∈ ps, c.back ≤ 3) ∧ Q (.bl true) μ
def b_StepCheck_is_fine (G : Cs) : DS :=
    (dSeq (dIf (dOrT (dNotT (dTest (dCall c_is_listed (dCons (dVar 1) dNil)))) (dOrT (dTest (dOp dEq (dCB fLen (dCons (dVar 1) dNil)) (dC (.int 0)))) (dNotT (dTest (dCB (fIsi (anT "str") (.ty "str")) (dCons (dOp dIx (dVar 1) (dC (.int 0))) (dCons (dC (.op (.ty "str"))) dNil))))))) (dRet (dC (.bl false))) dNext)
    (dSeq (dIf (dTest (dOp dEq (dOp dIx (dVar 1) (dC (.int 0))) (dC (.str "set")))) (dRet (dAndV (dOp dEq (dCB fLen (dCons (dVar 1) dNil)) (dC (.int 4))) (dMeth G.StepCheck "is_set" (c_StepCheck_is_set G) (dVar 0) (dCons (dVar 1) dNil)))) dNext)
    (dSeq (dIf (dTest (dOp dEq (dOp dIx (dVar 1) (dC (.int 0))) (dC (.str "go")))) (dRet (dAndV (dOp dEq (dCB fLen (dCons (dVar 1) dNil)) (dC (.int 2))) (dMeth G.StepCheck "is_place" (c_StepCheck_is_place G) (dVar 0) (dCons (dOp dIx (dVar 1) (dC (.int 1))) dNil)))) dNext)
    (dSeq (dIf (dTest (dOp dEq (dOp dIx (dVar 1) (dC (.int 0))) (dC (.str "test")))) (dRet (dAndV (dOp dEq (dCB fLen (dCons (dVar 1) dNil)) (dC (.int 5))) (dAndV (dMeth G.StepCheck "is_shown" (c_StepCheck_is_shown G) (dVar 0) (dCons (dVar 1) dNil)) (dAndV (dMeth G.StepCheck "is_place" (c_StepCheck_is_place G) (dVar 0) (dCons (dOp dIx (dVar 1) (dC (.int 3))) dNil)) (dMeth G.StepCheck "is_place" (c_StepCheck_is_place G) (dVar 0) (dCons (dOp dIx (dVar 1) (dC (.int 4))) dNil)))))) dNext)
    (dSeq (dIf (dTest (dOp dEq (dOp dIx (dVar 1) (dC (.int 0))) (dC (.str "deed")))) (dRet (dAndV (dOp dEq (dCB fLen (dCons (dVar 1) dNil)) (dC (.int 3))) (dMeth G.StepCheck "is_shown" (c_StepCheck_is_shown G) (dVar 0) (dCons (dVar 1) dNil)))) dNext)
    (dSeq (dIf (dTest (dOp dEq (dOp dIx (dVar 1) (dC (.int 0))) (dC (.str "call")))) (dRet (dAndV (dOp dEq (dCB fLen (dCons (dVar 1) dNil)) (dC (.int 4))) (dMeth G.StepCheck "is_call" (c_StepCheck_is_call G) (dVar 0) (dCons (dVar 1) dNil)))) dNext)
    (dRet (dAndV (dOp dEq (dOp dIx (dVar 1) (dC (.int 0))) (dC (.str "back"))) (dAndV (dOp dEq (dCB fLen (dCons (dVar 1) dNil)) (dC (.int 2))) (dMeth G.StepCheck "are_registers" (c_StepCheck_are_registers G) (dVar 0) (dCons (dOp dIx (dVar 1) (dC (.int 1))) (dCons (dFld G.StepCheck "back" (dVar 0)) (dCons (dFld G.StepCheck "back" (dVar 0)) dNil)))))))))))))
theorem l_StepCheck_is_fine (G : Cs) : ∀ xs μ Q, c_StepCheck_is_fine G xs μ Q → xs.length = 2 := by
  intro xs μ Q ⟨_, _, _, _, e, _⟩; subst e; rfl
theorem sw1 : ("go" : Str) ≠ "set" := by decide +kernel
theorem r_StepCheck_is_fine (G : Cs) : ∀ xs μ Q, c_StepCheck_is_fine G xs μ Q → b_StepCheck_is_fine G (pureEnds μ Q) (startD ["self", "step"] xs) μ := by
  intro xs μ Q ⟨k, ps, p, s, e, hk, ok, hb, q⟩
  subst e
  have head : ∀ {U : DS} {D : DEnds}, U D [some (.ref k), some s.m] μ → (dSeq (dIf (dOrT (dNotT (dTest (dCall c_is_listed (dCons (dVar 1) dNil)))) (dOrT (dTest (dOp dEq (dCB fLen (dCons (dVar 1) dNil)) (dC (.int 0)))) (dNotT (dTest (dCB (fIsi (anT "str") (.ty "str")) (dCons (dOp dIx (dVar 1) (dC (.int 0))) (dCons (dC (.op (.ty "str"))) dNil))))))) (dRet (dC (.bl false))) dNext) U) D [some (.ref k), some s.m] μ := by
    intro U D h
    refine ⟨s.m, rfl, pl_seq rfl, ?_⟩
    refine ⟨s.m, s.v, rfl, rfl, ?_⟩
    refine dec_splitE (p := ((s.v.length : Nat) : Int) = 0) (fun z => ?_) (fun _ => ?_)
    · cases s <;> exact absurd z (by simp [St.v])
    · obtain ⟨w, r, e⟩ : ∃ w r, s.v = .str w :: r := by cases s <;> exact ⟨_, _, rfl⟩
      refine ⟨s.v, .str w, rfl, by rw [e]; exact atI0, ?_⟩
      exact ⟨.str w, .str, true, rfl, rfl, by decide, h⟩
  refine head ?_
  cases s with
  | set r c qs =>
    refine if_wordS (by rfl) (by rfl) (fun _ => ?_) (fun h => absurd rfl h)
    refine ⟨_, (St.set r c qs).v, rfl, rfl, ?_⟩
    refine ⟨⟨k, _, rfl, sc_fld hk, rfl⟩, ?_⟩
    exact ⟨k, ps, p, r, c, qs, rfl, hk, ok, DL.pure_rt rfb_bl q⟩
  | go i =>
    refine if_wordS (by rfl) (by rfl) (fun h => absurd h (by decide +kernel)) (fun _ => ?_)
    refine if_wordS (by rfl) (by rfl) (fun _ => ?_) (fun h => absurd rfl h)
    refine ⟨_, (St.go i).v, rfl, rfl, ?_⟩
    refine ⟨⟨k, _, rfl, sc_fld hk, rfl⟩, _, .int i, rfl, rfl, ?_⟩
    exact ⟨k, ps, p, i, rfl, hk, ok, DL.pure_rt rfb_bl q⟩
  | test w rs y n =>
    obtain ⟨h1, h2, h3, h4, h5⟩ := ok
    refine if_wordS (by rfl) (by rfl) (fun h => absurd h (by decide +kernel)) (fun _ => ?_)
    refine if_wordS (by rfl) (by rfl) (fun h => absurd h (by decide +kernel)) (fun _ => ?_)
    refine if_wordS (by rfl) (by rfl) (fun _ => ?_) (fun h => absurd rfl h)
    refine ⟨_, (St.test w rs y n).v, rfl, rfl, ?_⟩
    refine ⟨⟨k, _, rfl, sc_fld hk, rfl⟩, ?_⟩
    refine ⟨k, ps, p, _, _, w, rs, _, rfl, hk, rfl, h1, h2, h3, ?_⟩
    refine ⟨⟨k, _, rfl, sc_fld hk, rfl⟩, _, .int y, rfl, rfl, ?_⟩
    refine ⟨k, ps, p, y, rfl, hk, h4, ?_⟩
    refine ⟨⟨k, _, rfl, sc_fld hk, rfl⟩, _, .int n, rfl, rfl, ?_⟩
    exact ⟨k, ps, p, n, rfl, hk, h5, DL.pure_rt rfb_bl q⟩
  | deed w rs =>
    obtain ⟨h1, h2, h3⟩ := ok
    refine if_wordS (by rfl) (by rfl) (fun h => absurd h (by decide +kernel)) (fun _ => ?_)
    refine if_wordS (by rfl) (by rfl) (fun h => absurd h (by decide +kernel)) (fun _ => ?_)
    refine if_wordS (by rfl) (by rfl) (fun h => absurd h (by decide +kernel)) (fun _ => ?_)
    refine if_wordS (by rfl) (by rfl) (fun _ => ?_) (fun h => absurd rfl h)
    refine ⟨_, (St.deed w rs).v, rfl, rfl, ?_⟩
    refine ⟨⟨k, _, rfl, sc_fld hk, rfl⟩, ?_⟩
    exact ⟨k, ps, p, _, _, w, rs, _, rfl, hk, rfl, h1, h2, h3, DL.pure_rt rfb_bl q⟩
  | call j hs qs =>
    have ok' := ok
    obtain ⟨h1, c, hc, h2, h3, h4, h5, h6⟩ := ok
    refine if_wordS (by rfl) (by rfl) (fun h => absurd h (by decide +kernel)) (fun _ => ?_)
    refine if_wordS (by rfl) (by rfl) (fun h => absurd h (by decide +kernel)) (fun _ => ?_)
    refine if_wordS (by rfl) (by rfl) (fun h => absurd h (by decide +kernel)) (fun _ => ?_)
    refine if_wordS (by rfl) (by rfl) (fun h => absurd h (by decide +kernel)) (fun _ => ?_)
    refine if_wordS (by rfl) (by rfl) (fun _ => ?_) (fun h => absurd rfl h)
    refine ⟨_, (St.call j hs qs).v, rfl, rfl, ?_⟩
    refine ⟨⟨k, _, rfl, sc_fld hk, rfl⟩, ?_⟩
    exact ⟨k, ps, p, j, hs, qs, rfl, hk, ok', by rw [h3]; exact hb c (List.mem_of_getElem? hc), DL.pure_rt rfb_bl q⟩
  | back rs =>
    obtain ⟨h1, h2⟩ := ok
    refine if_wordS (by rfl) (by rfl) (fun h => absurd h (by decide +kernel)) (fun _ => ?_)
    refine if_wordS (by rfl) (by rfl) (fun h => absurd h (by decide +kernel)) (fun _ => ?_)
    refine if_wordS (by rfl) (by rfl) (fun h => absurd h (by decide +kernel)) (fun _ => ?_)
    refine if_wordS (by rfl) (by rfl) (fun h => absurd h (by decide +kernel)) (fun _ => ?_)
    refine if_wordS (by rfl) (by rfl) (fun h => absurd h (by decide +kernel)) (fun _ => ?_)
    refine ⟨_, .str "back", rfl, rfl, ?_⟩
    refine ⟨_, (St.back rs).v, rfl, rfl, ?_⟩
    refine ⟨⟨k, _, rfl, sc_fld hk, rfl⟩, _, iT rs, rfl, rfl, k, _, .int p.back, rfl, sc_fld hk, rfl, k, _, .int p.back, rfl, sc_fld hk, rfl, ?_⟩
    exact ⟨k, ps, p, iT rs, rs, p.back, p.back, rfl, hk, rfl, ⟨by omega, by omega⟩, h2, DL.pure_rt rfb_bl q⟩
end K65

set_option maxHeartbeats 1000000
/-! ZD: making of codes and of papers. -/
namespace K65
open PySem PySem.Spec L2 StX PyProof.Rows DL
theorem drop_cons {α : Type} {L : List α} {i : Nat} {x : α} {r : List α} (h : L.drop i = x :: r) : L[i]? = some x ∧ L.drop (i + 1) = r ∧ i < L.length := by
  have hl : i < L.length := by
    by_cases hi : i < L.length
    · exact hi
    · rw [List.drop_of_length_le (by omega)] at h; cases h
  rw [List.drop_eq_getElem_cons hl] at h
  have h1 := (List.cons.inj h).1
  have h2 := (List.cons.inj h).2
  exact ⟨by rw [List.getElem?_eq_getElem hl, h1], h2, hl⟩
theorem numbered_drop {L : List Vl} {i : Nat} {x : Vl} {r : List Vl} (h : (numbered L).drop i = x :: r) : ∃ y, L[i]? = some y ∧ x = .tup [.int (i : Int), y] ∧ (numbered L).drop (i + 1) = r := by
  obtain ⟨h1, h2, h3⟩ := drop_cons h
  rw [numbered_len] at h3
  have e := numbered_get (xs := L) (i := i) (x := L[i]) (by rw [List.getElem?_eq_getElem h3])
  rw [h1] at e
  exact ⟨L[i], by rw [List.getElem?_eq_getElem h3], Option.some.inj e, h2⟩
theorem set_app {μ : Mu} {a b : Mo} : (μ ++ [a]).set μ.length b = μ ++ [b] := by
  rw [List.set_append_right _ _ (Nat.le_refl _), Nat.sub_self]; rfl
theorem get_app {μ : Mu} {a : Mo} : (μ ++ [a])[μ.length]? = some a := by
  rw [List.getElem?_append_right (Nat.le_refl _), Nat.sub_self]; rfl
theorem atI_last {α : Type} {xs : List α} {x : α} (h : xs[xs.length - 1]? = some x) : L2.atI xs (-1) = some x := by
  have hl := (List.getElem?_eq_some_iff.mp h).1
  unfold L2.atI ixN
  rw [if_neg (by decide), if_pos (by omega)]
  show xs[(-1 + (xs.length : Int)).toNat]? = _
  rw [show (-1 + (xs.length : Int)).toNat = xs.length - 1 by omega]
  exact h
theorem all_true {α : Type} (xs : List α) : (xs.map fun _ => true).all id = true := by simp
theorem map_bl {α : Type} {μ : Mu} (xs : List α) : lview μ (.lst ([] ++ xs.map fun _ => Vl.bl true)) = some ((xs.map fun _ => true).map .bl) := by
  show some _ = some _
  rw [List.nil_append, List.map_map]; rfl
def lastW : List Vl := [.str "go", .str "test", .str "back"]
theorem last_in {s : St} (h : s.isLast = true) : ∃ w r, s.v = .str w :: r ∧ inV (.str w) [.str "go", .str "test", .str "back"] = true := by
  cases s with
  | go p => exact ⟨_, _, rfl, by decide +kernel⟩
  | test w rs y n => exact ⟨_, _, rfl, by decide +kernel⟩
  | back rs => exact ⟨_, _, rfl, by decide +kernel⟩
  | _ => cases h
def c_are_procedures : Ct := fun xs μ Q => ∃ ps : List Pr, xs = [.lst (ps.map Pr.m)] ∧ Good ps ∧ Q (.bl true) μ
def b_are_procedures (G : Cs) : DS :=
    (dSeq (dIf (dOrT (dNotT (dTest (dCall c_is_row (dCons (dVar 0) (dCons (dC (.int 1)) (dCons (dC (.int 4)) dNil)))))) (dNotT (dTest (dCB fAll (dCons (dLc (dIter (dVar 0)) (dgName 2) dYes (dCall c_is_shape (dCons (dVar 2) dNil)) [2]) dNil))))) (dRet (dC (.bl false))) dNext)
    (dSeq (dFor (dEnum (dCons (dVar 0) dNil)) (dgTup 2 (dgCons (dgName 1) (dgCons (dgName 2) dgNil))) (dSeq (dAsg (dMake G.StepCheck ((c_StepCheck___init__ G)) (dCons (dVar 0) (dCons (dVar 1) dNil))) (dgName 3))
    (dIf (dOrT (dNotT (dTest (dCB fAll (dCons (dLc (dIter (dOp dIx (dVar 2) (dC (.int 4)))) (dgName 4) dYes (dMeth G.StepCheck "is_fine" (c_StepCheck_is_fine G) (dVar 3) (dCons (dVar 4) dNil)) [4]) dNil)))) (dTest (dOp (dInS true) (dOp dIx (dOp dIx (dOp dIx (dVar 2) (dC (.int 4))) (dNeg (dC (.int 1)))) (dC (.int 0))) (dC (.tup [.str "go", .str "test", .str "back"]))))) (dRet (dC (.bl false))) dNext)))
    (dRet (dC (.bl true)))))
theorem l_are_procedures : ∀ xs μ Q, c_are_procedures xs μ Q → xs.length = 1 := by
  intro xs μ Q ⟨_, e, _⟩; subst e; rfl
theorem r_are_procedures (G : Cs) : ∀ xs μ Q, c_are_procedures xs μ Q → b_are_procedures G (pureEnds μ Q) (startD ["value", "number", "one", "check", "step"] xs) μ := by
  intro xs μ Q ⟨ps, e, gd, q⟩
  subst e
  have hsl := sizeLine_eq
  have hlen := gd.len
  refine ⟨.lst (ps.map Pr.m), 1, 4, rfl, pl_seq rfl, ?_⟩
  rw [is_row_lo (xs := ps.map Pr.m) rfl (by rw [List.length_map]; omega) (by rw [List.length_map]; omega)]
  refine ⟨ps.map Pr.m, rfl, ?_⟩
  refine DL.lc_map (μ := μ) trivial Pr.m (fun _ => .bl true) ps [] (fun p hp P hP => ⟨ps, p, rfl, gd.ok p hp, hP⟩) ?_
  refine .inl ⟨_, _, rfl, map_bl ps, ?_⟩
  rw [all_true]
  refine ⟨.lst (ps.map Pr.m), ps.map Pr.m, rfl, rfl, ?_⟩
  refine DL.forD_inv (fun rest ρ μ1 => ∃ (i : Nat) (ex : Mu) (o1 o2 o3 o4 : Option Vl), (numbered (ps.map Pr.m)).drop i = rest ∧ μ1 = μ ++ ex ∧ ρ = [some (.lst (ps.map Pr.m)), o1, o2, o3, o4]) (fun _ _ _ _ => trivial) (fun ρ μ1 h => ?_) (fun x rest ρ μ1 h D hD hrt _ => ?_) _ _ _ ?_
  · obtain ⟨i, ex, o1, o2, o3, o4, _, e1, e2⟩ := h
    subst e1; subst e2
    exact DL.pure_rt' rfb_bl q
  · obtain ⟨i, ex, o1, o2, o3, o4, e0, e1, e2⟩ := h
    subst e1; subst e2
    obtain ⟨y, hy, ex', hr⟩ := numbered_drop e0
    subst ex'
    rw [List.getElem?_map] at hy
    obtain ⟨p, hp, ey⟩ := Option.map_eq_some_iff.mp hy
    subst ey
    have ok := gd.ok p (List.mem_of_getElem? hp)
    refine ⟨rfl, rfl, ?_⟩
    refine ⟨(μ ++ ex).length, ps, i, p, rfl, hp, get_app, rfl, ?_⟩
    rw [set_app]
    refine ⟨_, .lst (p.steps.map St.m), rfl, rfl, p.steps.map St.m, rfl, ?_⟩
    refine DL.lc_map (μ := (μ ++ ex) ++ [scM G ps p]) trivial St.m (fun _ => .bl true) p.steps [] (fun s hs P hP => ?_) ?_
    · refine ⟨⟨(μ ++ ex).length, _, rfl, sc_fld get_app, rfl⟩, ?_⟩
      exact ⟨(μ ++ ex).length, ps, p, s, rfl, get_app, ok.ok s hs, fun c hc => (gd.ok c hc).back.1, hP⟩
    refine .inl ⟨_, _, rfl, map_bl p.steps, ?_⟩
    rw [all_true]
    obtain ⟨s, hs, hl⟩ := ok.last
    obtain ⟨w, r, ew, hw⟩ := last_in hl
    refine ⟨_, .lst (p.steps.map St.m), rfl, rfl, _, s.m, rfl, atI_last (by rw [List.length_map, List.getElem?_map, hs]; rfl), s.v, .str w, rfl, by rw [ew]; exact atI0, ?_⟩
    refine ⟨_, _, _, rfl, rfl, rfl, ?_⟩
    rw [hw]
    exact hD _ _ ⟨i + 1, ex ++ [scM G ps p], _, _, _, _, hr, by rw [List.append_assoc], rfl⟩
  · exact ⟨0, [], _, _, _, _, rfl, by rw [List.append_nil], rfl⟩
/-! Code -/
def codeV (ps : List Pr) : Vl := .tup (ps.map Pr.v)
def codeFs (ps : List Pr) : List (Str × Vl) := [("procedures", codeV ps), ("inputs", .int ((ps.headD ⟨"", 0, 0, 0, []⟩).handed))]
def codeM (G : Cs) (ps : List Pr) : Mo := .ins G.Code (codeFs ps)
def an_Code (G : Cs) : An := anC [(G.Code, true)]
def an_Needed (G : Cs) : An := anC [(G.Needed, true), (G.Paper, false)]
theorem fx_int {μ : Mu} {n : Nat} {i : Int} : Fx μ (n + 1) (.int i) (.int i) := .inl ⟨rfl, rfl⟩
theorem fx_str {μ : Mu} {n : Nat} {s : Str} : Fx μ (n + 1) (.str s) (.str s) := .inl ⟨rfl, rfl⟩
theorem fx_ints {μ : Mu} {n : Nat} {x : Vl} {r : List Int} (h : sview μ x = some (r.map .int)) : Fx μ (n + 2) x (iT r) := .inr ⟨_, r.map .int, h, rfl, All2.map _ _ r fun i _ => fx_int⟩
theorem fx_pair {μ : Mu} {n : Nat} {q : Int × Int} : Fx μ (n + 2) (pairV q) (pairV q) := .inr ⟨_, _, rfl, rfl, .cons fx_int (.cons fx_int .nil)⟩
theorem fx_step {μ : Mu} {n : Nat} {s : St} : Fx μ (n + 4) s.m s.t := by
  refine .inr ⟨s.v, s.v, rfl, rfl, ?_⟩
  cases s with
  | set r c qs => exact .cons fx_str (.cons fx_int (.cons fx_int (.cons (.inr ⟨_, _, rfl, rfl, All2.map _ _ qs fun q _ => fx_pair⟩) .nil)))
  | go p => exact .cons fx_str (.cons fx_int .nil)
  | test w rs y n => exact .cons fx_str (.cons fx_str (.cons (fx_ints rfl) (.cons fx_int (.cons fx_int .nil))))
  | deed w rs => exact .cons fx_str (.cons fx_str (.cons (fx_ints rfl) .nil))
  | call k hs qs => exact .cons fx_str (.cons fx_int (.cons (fx_ints rfl) (.cons (fx_ints rfl) .nil)))
  | back rs => exact .cons fx_str (.cons (fx_ints rfl) .nil)
theorem fx_pr {μ : Mu} {p : Pr} : Fx μ 7 p.m p.v := by
  refine .inr ⟨_, _, rfl, rfl, .cons fx_str (.cons fx_int (.cons fx_int (.cons fx_int (.cons ?_ .nil))))⟩
  exact .inr ⟨_, _, rfl, rfl, All2.map _ _ p.steps fun s _ => fx_step⟩
theorem fx_plain {μ : Mu} {ps : List Pr} : Fx μ 8 (.lst (ps.map Pr.m)) (codeV ps) := .inr ⟨_, _, rfl, rfl, All2.map _ _ ps fun p _ => fx_pr⟩
def c_Code___init__ (G : Cs) : Ct := fun xs μ Q => ∃ (k : Nat) (ps : List Pr), xs = [.ref k, .lst (ps.map Pr.m)] ∧ Good ps ∧ μ[k]? = some (.ins G.Code []) ∧ Q .non (μ.set k (codeM G ps))
def b_Code___init__ (G : Cs) : DS :=
    (dSeq (dIf (dNotT (dTest (dCall c_are_procedures (dCons (dVar 1) dNil)))) dDead dNext)
    (dSeq (dgFld G.Code "procedures" (dVar 0) (dCall (c_fixed 8) (dCons (dVar 1) dNil)))
    (dgFld G.Code "inputs" (dVar 0) (dOp dIx (dOp dIx (dFld G.Code "procedures" (dVar 0)) (dC (.int 0))) (dC (.int 1))))))
theorem l_Code___init__ (G : Cs) : ∀ xs μ Q, c_Code___init__ G xs μ Q → xs.length = 2 := by
  intro xs μ Q ⟨_, _, e, _⟩; subst e; rfl
theorem r_Code___init__ (G : Cs) : ∀ xs μ Q, c_Code___init__ G xs μ Q → b_Code___init__ G (spEnds Q) (startD ["self", "procedures"] xs) μ := by
  intro xs μ Q ⟨k, ps, e, gd, hk, q⟩
  subst e
  obtain ⟨p, r, ep⟩ : ∃ p r, ps = p :: r := by
    have := gd.len
    cases ps with
    | nil => simp at this
    | cons p r => exact ⟨p, r, rfl⟩
  refine ⟨ps, rfl, gd, ?_⟩
  refine ⟨.lst (ps.map Pr.m), codeV ps, rfl, fx_plain, ?_⟩
  refine ⟨k, [], rfl, hk, by show 0 < 1000; decide, ?_⟩
  refine ⟨k, _, codeV ps, rfl, set_get hk, rfl, ?_⟩
  refine ⟨ps.map Pr.v, p.v, rfl, by subst ep; exact atI0, ?_⟩
  refine ⟨_, .int p.handed, rfl, rfl, ?_⟩
  refine ⟨k, _, rfl, set_get hk, by show 1 < 1000; decide, ?_⟩
  show Q .non _
  rw [set_set]
  subst ep
  exact q
def c_need_code (G : Cs) : Ct := fun xs μ Q => ∃ (k : Nat) (w : Str) (fs : List (Str × Vl)), xs = [.ref k, .str w] ∧ μ[k]? = some (.ins G.Code fs) ∧ Q .non μ
def b_need_code (G : Cs) : DS :=
    (dIf (dNotT (dTest (dCB (fIsi (an_Code G) (.ref G.Code)) (dCons (dVar 0) (dCons (dC (.op (.ref G.Code))) dNil))))) dDead dNext)
theorem l_need_code (G : Cs) : ∀ xs μ Q, c_need_code G xs μ Q → xs.length = 2 := by
  intro xs μ Q ⟨_, _, _, e, _⟩; subst e; rfl
theorem kn_ins {μ : Mu} {k : Nat} {C : Addr} {fs : List (Str × Vl)} (h : μ[k]? = some (.ins C fs)) : knOf μ (.ref k) = some (.own C) := by
  show (match μ[k]? with
    | some (.lst _) => some Kn.lst
    | some (.dict _) => some Kn.dict
    | some (.fdict _ _ _) => some Kn.dict
    | some (.ins C _) => some (Kn.own C)
    | _ => none) = _
  rw [h]
theorem r_need_code (G : Cs) : ∀ xs μ Q, c_need_code G xs μ Q → b_need_code G (pureEnds μ Q) (startD ["value", "part"] xs) μ := by
  intro xs μ Q ⟨k, w, fs, e, hk, q⟩
  subst e
  refine ⟨.ref k, .own G.Code, true, rfl, kn_ins hk, ?_, ?_⟩
  · show List.lookup G.Code [(G.Code, true)] = some true
    simp [List.lookup]
  · exact ⟨⟨[], by rw [List.append_nil]⟩, q⟩
/-! Needed -/
def needFs (x y : Vl) : List (Str × Vl) := [("word", .str "needed"), ("parts", .tup [x, y]), ("backs", x), ("lots", y)]
def c_Needed___init__ (G : Cs) : Ct := fun xs μ Q => ∃ (k : Nat) (x y x' y' : Vl), xs = [.ref k, x, y] ∧ μ[k]? = some (.ins G.Needed []) ∧ Fx μ 7 x x' ∧ Fx μ 7 y y' ∧ Q .non (μ.set k (.ins G.Needed (needFs x' y')))
def a_Needed___init__ (G : Cs) : DA :=
    (dCons (dC (.str "needed")) (dCons (dVar 1) (dCons (dVar 2) dNil)))
def b_Needed___init__ (G : Cs) : DS :=
    (dAsg (dFld G.Needed "parts" (dVar 0)) (dgTup 2 (dgCons (dgFldT G.Needed "backs" (dVar 0)) (dgCons (dgFldT G.Needed "lots" (dVar 0)) dgNil))))
theorem l_Needed___init__ (G : Cs) : ∀ xs μ Q, c_Needed___init__ G xs μ Q → xs.length = 3 := by
  intro xs μ Q ⟨_, _, _, _, _, e, _⟩; subst e; rfl
theorem r_Needed___init__ (G : Cs) : ∀ xs μ Q, c_Needed___init__ G xs μ Q → ∃ (k0 : Nat) (xs' : List Vl) (fs : List (Str × Vl)), xs = .ref k0 :: xs' ∧ μ[k0]? = some (.ins G.Needed fs) ∧ a_Needed___init__ G (startD ["self", "backs", "lots", "__class__"] xs) μ fun ys μ1 => c_Paper___init__ G.Needed (.ref k0 :: ys) μ1 fun _ μ2 => b_Needed___init__ G (spEnds Q) (startD ["self", "backs", "lots", "__class__"] xs) μ2 := by
  intro xs μ Q ⟨k, x, y, x', y', e, hk, f1, f2, q⟩
  subst e
  refine ⟨k, _, [], rfl, hk, ?_⟩
  refine ⟨k, "needed", [x, y], [x', y'], rfl, by show 2 ≤ 10; decide, hk, .cons f1 (.cons f2 .nil), ?_⟩
  refine ⟨k, _, .tup [x', y'], rfl, set_get hk, rfl, ?_⟩
  refine ⟨rfl, k, _, rfl, set_get hk, by show 2 < 1000; decide, ?_⟩
  refine ⟨k, _, rfl, set_get (set_get hk), by show 3 < 1000; decide, rfl, ?_⟩
  show Q .non _
  rw [set_set, set_set]
  exact q
/-! _law_made -/
def c__law_made (G : Cs) : Ct := fun xs μ Q => ∃ ps : List Pr, xs = [codeV ps] ∧ Good ps ∧ Q (.ref μ.length) (μ ++ [codeM G ps])
def b__law_made (G : Cs) : DS :=
    (dRet (dMake G.Code ((c_Code___init__ G)) (dCons (dLc (dIter (dVar 0)) (dgTup 5 (dgCons (dgName 1) (dgCons (dgName 2) (dgCons (dgName 3) (dgCons (dgName 4) (dgCons (dgName 5) dgNil)))))) dYes (dLst (dCons (dVar 1) (dCons (dVar 2) (dCons (dVar 3) (dCons (dVar 4) (dCons (dLc (dIter (dVar 5)) (dgName 6) dYes (dCB fList (dCons (dVar 6) dNil)) [6]) dNil)))))) [1, 2, 3, 4, 5]) dNil)))
theorem l__law_made (G : Cs) : ∀ xs μ Q, c__law_made G xs μ Q → xs.length = 1 := by
  intro xs μ Q ⟨_, e, _⟩; subst e; rfl
theorem r__law_made (G : Cs) : ∀ xs μ Q, c__law_made G xs μ Q → b__law_made G (spEnds Q) (startD ["plain", "word", "handed", "back", "registers", "steps", "step"] xs) μ := by
  intro xs μ Q ⟨ps, e, gd, q⟩
  subst e
  have hsl := sizeLine_eq
  refine ⟨ps.map Pr.v, rfl, ?_⟩
  refine DL.lc_map (μ := μ) trivial Pr.v Pr.m ps [] (fun p hp P hP => ?_) ?_
  · refine ⟨rfl, rfl, ?_⟩
    refine ⟨p.steps.map St.t, rfl, ?_⟩
    refine DL.lc_map (μ := μ) trivial St.t St.m p.steps [] (fun s hs P hP => ⟨_, s.v, rfl, rfl, .inl hP⟩) ?_
    refine .inl ⟨by show 5 ≤ _; omega, .inl ?_⟩
    exact hP
  refine .inl ?_
  refine ⟨μ.length, ps, rfl, gd, get_app, rfl, ?_⟩
  rw [set_app]
  exact q
end K65

set_option maxHeartbeats 1000000
/-! ZE: the pen, told by what it keeps; draws, picks, mixing. -/
namespace K65
open PySem PySem.Spec L2 StX PyProof.Rows DL
/-- the pen lies at k and was read at most n times -/
def PenI (k : Nat) (n : Int) (μ : Mu) : Prop := ∃ ns a l, μ[k]? = some (penM ns a l) ∧ 0 ≤ a ∧ a ≤ n ∧ 0 ≤ l
/-- nothing is changed but the pen; new things may have come -/
structure Mv (k : Nat) (n : Int) (μ μ' : Mu) : Prop where
  len : μ.length ≤ μ'.length
  old : ∀ j, j < μ.length → j ≠ k → μ'[j]? = μ[j]?
  pen : PenI k n μ'
theorem PenI.lt {k : Nat} {n : Int} {μ : Mu} (h : PenI k n μ) : k < μ.length := by
  obtain ⟨_, _, _, h, _⟩ := h
  exact (List.getElem?_eq_some_iff.mp h).1
theorem PenI.le {k : Nat} {n m : Int} {μ : Mu} (h : PenI k n μ) (hl : n ≤ m) : PenI k m μ := by
  obtain ⟨ns, a, l, h1, h2, h3, h4⟩ := h
  exact ⟨ns, a, l, h1, h2, by omega, h4⟩
theorem PenI.app {k : Nat} {n : Int} {μ ex : Mu} (h : PenI k n μ) : PenI k n (μ ++ ex) := by
  have hl := h.lt
  obtain ⟨ns, a, l, h1, h2⟩ := h
  exact ⟨ns, a, l, by rw [List.getElem?_append_left hl]; exact h1, h2⟩
theorem PenI.set {k j : Nat} {n : Int} {μ : Mu} {m : Mo} (h : PenI k n μ) (hj : j ≠ k) : PenI k n (μ.set j m) := by
  obtain ⟨ns, a, l, h1, h2⟩ := h
  exact ⟨ns, a, l, by rw [List.getElem?_set_ne hj]; exact h1, h2⟩
theorem Mv.refl {k : Nat} {n : Int} {μ : Mu} (h : PenI k n μ) : Mv k n μ μ := ⟨Nat.le_refl _, fun _ _ _ => rfl, h⟩
theorem Mv.trans {k : Nat} {n m : Int} {a b c : Mu} (h1 : Mv k n a b) (h2 : Mv k m b c) : Mv k m a c :=
  ⟨Nat.le_trans h1.len h2.len, fun j hj hk => (h2.old j (Nat.lt_of_lt_of_le hj h1.len) hk).trans (h1.old j hj hk), h2.pen⟩
theorem Mv.le {k : Nat} {n m : Int} {a b : Mu} (h : Mv k n a b) (hl : n ≤ m) : Mv k m a b := ⟨h.len, h.old, h.pen.le hl⟩
theorem Mv.app {k : Nat} {n : Int} {a b ex : Mu} (h : Mv k n a b) : Mv k n a (b ++ ex) :=
  ⟨by rw [List.length_append]; exact Nat.le_trans h.len (Nat.le_add_right _ _), fun j hj hk => by rw [List.getElem?_append_left (Nat.lt_of_lt_of_le hj h.len)]; exact h.old j hj hk, h.pen.app⟩
theorem Mv.set {k j : Nat} {n : Int} {a b : Mu} {m : Mo} (h : Mv k n a b) (hj : a.length ≤ j) (hk : k < a.length) : Mv k n a (b.set j m) :=
  ⟨by rw [List.length_set]; exact h.len, fun i hi hn => by rw [List.getElem?_set_ne (by omega)]; exact h.old i hi hn, h.pen.set (by omega)⟩
theorem Mv.get {k j : Nat} {n : Int} {a b : Mu} {m : Mo} (h : Mv k n a b) (hj : a[j]? = some m) (hn : j ≠ k) : b[j]? = some m := by
  rw [h.old j (List.getElem?_eq_some_iff.mp hj).1 hn]; exact hj
/-! draws -/
/-- kept shut, so that it is found as it stands -/
structure Shut (C : Ct) (xs : List Vl) (μ : Mu) (Q : DK) : Prop where
  ex : C xs μ Q
def c__law_draw : Ct := Shut c_draw
def b__law_draw : DS :=
    (dSeq (dIf (dTest (dOp dLt (dVar 1) (dC (.int 2)))) (dRet (dC (.int 0))) dNext)
    (dSeq (dIf (dTest (dOp dGt (dOp dIx (dVar 0) (dC (.int 2))) (dC (.int 0)))) (dSeq (dAsg (dOp dMod (dCB fInt (dCons (dOp dIx (dVar 0) (dC (.int 2))) dNil)) (dVar 1)) (dgName 2))
    (dSeq (dAsg (dOp dFdiv (dCB fInt (dCons (dOp dIx (dVar 0) (dC (.int 2))) dNil)) (dVar 1)) (dgIx (dVar 0) (dC (.int 2))))
    (dRet (dVar 2)))) dNext)
    (dSeq (dAsg (dOp dIx (dVar 0) (dC (.int 1))) (dgName 3))
    (dSeq (dAsg (dOp dAdd (dVar 3) (dC (.int 1))) (dgIx (dVar 0) (dC (.int 1))))
    (dSeq (dAsg (dOp dAdd (dOp dMul (dC (.int 73221)) (dVar 3)) (dC (.int 10691))) (dgName 4))
    (dSeq (dIf (dTest (dOp dNe (dOp dIx (dVar 0) (dC (.int 0))) (dLst dNil))) (dAsg (dOp dIx (dOp dIx (dVar 0) (dC (.int 0))) (dOp dMod (dCB fInt (dCons (dVar 3) dNil)) (dCB fLen (dCons (dOp dIx (dVar 0) (dC (.int 0))) dNil)))) (dgName 4)) dNext)
    (dSeq (dIf (dAndT (dTest (dOp dLt (dVar 3) (dCB fLen (dCons (dOp dIx (dVar 0) (dC (.int 0))) dNil)))) (dTest (dOp dGe (dCB fAbs (dCons (dVar 4) dNil)) (dOp dPow (dC (.int 10)) (dC (.int 18)))))) (dSeq (dAsg (dOp dAdd (dOp dMul (dC (.int 2)) (dOp (dI0 fun i j => .int (i - j)) (dCB fAbs (dCons (dVar 4) dNil)) (dOp dPow (dC (.int 10)) (dC (.int 18))))) (dCB fInt (dCons (dOp dLt (dVar 4) (dC (.int 0))) dNil))) (dgName 5))
    (dSeq (dAsg (dOp dFdiv (dCB fInt (dCons (dVar 5) dNil)) (dVar 1)) (dgIx (dVar 0) (dC (.int 2))))
    (dRet (dOp dMod (dCB fInt (dCons (dVar 5) dNil)) (dVar 1))))) dNext)
    (dSeq (dAsg (dOp dMod (dCB fInt (dCons (dOp dPow (dOp dAdd (dOp dAdd (dOp dMod (dCB fInt (dCons (dVar 4) dNil)) (dC (.int 2147483549))) (dOp dMul (dC (.int 36783)) (dVar 3))) (dC (.int 10691))) (dC (.int 3))) dNil)) (dC (.int 2147483629))) (dgName 6))
    (dSeq (dAsg (dOp dMod (dCB fInt (dCons (dOp dPow (dOp dAdd (dOp dAdd (dOp dMul (dVar 6) (dOp dAdd (dOp dMul (dC (.int 2)) (dVar 3)) (dC (.int 7531)))) (dOp dMul (dOp dMul (dC (.int 73221)) (dVar 3)) (dVar 3))) (dC (.int 36783))) (dC (.int 5))) dNil)) (dC (.int 2147483563))) (dgName 6))
    (dRet (dOp dMod (dCB fInt (dCons (dOp dFdiv (dVar 6) (dC (.int 16))) dNil)) (dVar 1))))))))))))
theorem l__law_draw : ∀ xs μ Q, c__law_draw xs μ Q → xs.length = 2 := fun xs μ Q h => l_draw xs μ Q h.ex
theorem r__law_draw : ∀ xs μ Q, c__law_draw xs μ Q → b__law_draw (spEnds Q) (startD ["pen", "many", "digit", "at", "cell", "great", "mixed"] xs) μ := fun xs μ Q h => r_draw (cA := 73221) (cB := 10691) (cC := 36783) (cD := 7531) (by decide) (by decide) (by decide) (by decide) xs μ Q h.ex
theorem draw_use {k : Nat} {n many : Int} {μ : Mu} {Q : DK} (h : PenI k n μ) (hn : n ≤ 900000) (hm : many < 2 ^ 64) (q : ∀ (d : Int) (μ' : Mu), 0 ≤ d → (d < many ∨ d = 0) → Mv k (n + 1) μ μ' → Q (.int d) μ') : c__law_draw [.ref k, .int many] μ Q := by
  have hk := h.lt
  obtain ⟨ns, a, l, h1, h2, h3, h4⟩ := h
  refine Shut.mk ⟨k, ns, a, l, many, rfl, h1, ⟨h2, by omega⟩, h4, hm, fun d a' l' g1 g2 g3 g4 g5 => q d _ g1 g2 ⟨by rw [List.length_set]; exact Nat.le_refl _, fun j _ hn => List.getElem?_set_ne (fun e => hn e.symm), ?_⟩⟩
  exact ⟨ns, a', l', List.getElem?_set_self hk, by omega, by omega, g5⟩
def c__law_pen : Ct := c_pen
def p__law_pick : Ct := fun xs μ Q => ∃ (k : Nat) (n : Int) (x : Vl) (vs : List Vl), xs = [.ref k, x] ∧ (∀ μ, sview μ x = some vs) ∧ 0 < vs.length ∧ vs.length < 1000 ∧ PenI k n μ ∧ n ≤ 900000 ∧ ∀ v μ', v ∈ vs → Mv k (n + 1) μ μ' → Q v μ'
def c__law_pick : Ct := Shut p__law_pick
def b__law_pick : DS :=
    (dRet (dOp dIx (dVar 1) (dCall c__law_draw (dCons (dVar 0) (dCons (dCB fLen (dCons (dVar 1) dNil)) dNil)))))
theorem l__law_pick : ∀ xs μ Q, c__law_pick xs μ Q → xs.length = 2 := by
  intro xs μ Q ⟨⟨_, _, _, _, e, _⟩⟩; subst e; rfl
theorem atI_mem {α : Type} {vs : List α} {i : Int} (h1 : 0 ≤ i) (h2 : i < (vs.length : Int)) : ∃ x, x ∈ vs ∧ L2.atI vs i = some x := by
  have hj : i.toNat < vs.length := by omega
  refine ⟨vs[i.toNat], List.getElem_mem hj, ?_⟩
  have e := atI_nat (xs := vs) (i := i.toNat) (x := vs[i.toNat]) (by rw [List.getElem?_eq_getElem hj])
  rw [show ((i.toNat : Nat) : Int) = i by omega] at e
  exact e
theorem r__law_pick : ∀ xs μ Q, c__law_pick xs μ Q → b__law_pick (spEnds Q) (startD ["pen", "some"] xs) μ := by
  intro xs μ Q ⟨⟨k, n, x, vs, e, hx, hn, hn2, hk, ha, q⟩⟩
  subst e
  refine ⟨x, vs, rfl, hx μ, ?_⟩
  refine draw_use (many := (vs.length : Int)) hk ha (by omega) fun d μ' h1 h2 h3 => ?_
  obtain ⟨v, hv, e⟩ := atI_mem (vs := vs) (i := d) h1 (by omega)
  exact ⟨vs, v, hx _, e, q v μ' hv h3⟩
theorem pick_use {k : Nat} {n : Int} {x : Vl} {vs : List Vl} {μ : Mu} {Q : DK} (h : PenI k n μ) (hn : n ≤ 900000) (hx : ∀ μ, sview μ x = some vs) (h0 : 0 < vs.length) (h1 : vs.length < 1000) (q : ∀ v μ', v ∈ vs → Mv k (n + 1) μ μ' → Q v μ') : c__law_pick [.ref k, x] μ Q := ⟨⟨k, n, x, vs, rfl, hx, h0, h1, h, hn, q⟩⟩
/-! comprehensions that draw -/
theorem lc_pen {z : Int} {G : Mu → Prop} {g : DG} {de : DE} {ρ : Rho} {k : Nat} {c : Int} (P : Vl → Prop) (hc : 0 ≤ c) (hG : ∀ μ, G μ) : ∀ (xs : List Vl) (step : ∀ x ∈ xs, ∀ (μ1 : Mu) (M : Int) (R : DK), PenI k M μ1 → M + c + z ≤ 900000 → (∀ y μ2, P y → Mv k (M + c) μ1 μ2 → R y μ2) → g x ρ μ1 fun ρ2 μ2 => de ρ2 μ2 R)
    {Q : List Vl → Mu → Prop} (acc : List Vl) (μ : Mu) (M : Int), PenI k M μ → M + c * xs.length + z ≤ 900000 → (∀ ys μ', ys.length = xs.length → (∀ y ∈ ys, P y) → Mv k (M + c * xs.length) μ μ' → Q (acc ++ ys) μ') → lcD G g dYes de ρ Q xs acc μ
  | [], _, Q, acc, μ, M, hp, _, q => ⟨hG μ, by have := q [] μ rfl (fun y h => by cases h) (by simpa using Mv.refl hp); simpa using this⟩
  | x :: xs, step, Q, acc, μ, M, hp, hl, q => by
    have e1 : c * (((x :: xs).length : Nat) : Int) = c + c * (xs.length : Int) := by rw [List.length_cons, Int.natCast_add, Int.mul_add]; simp; omega
    have h0 : 0 ≤ c * (xs.length : Int) := Int.mul_nonneg hc (by omega)
    rw [e1] at hl q
    refine ⟨hG μ, step x List.mem_cons_self μ M _ hp (by omega) fun y μ2 hy hm => ?_⟩
    refine lc_pen P hc hG xs (fun w hz => step w (List.mem_cons_of_mem _ hz)) (acc ++ [y]) μ2 (M + c) hm.pen (by omega) fun ys μ' hl' hy' hm' => ?_
    have := q (y :: ys) μ' (by simp [hl']) (fun z hz => ?_) (by rw [← Int.add_assoc]; exact hm.trans hm')
    · simpa using this
    · rcases List.mem_cons.mp hz with e | hz
      · rw [e]; exact hy
      · exact hy' z hz
theorem lift_all {α : Type} {f : α → Vl} {p : α → Prop} : ∀ ys : List Vl, (∀ y ∈ ys, ∃ a, y = f a ∧ p a) → ∃ as : List α, ys = as.map f ∧ (∀ a ∈ as, p a) ∧ as.length = ys.length
  | [], _ => ⟨[], rfl, fun a h => (by cases h), rfl⟩
  | y :: ys, h => by
    obtain ⟨a, e, pa⟩ := h y List.mem_cons_self
    obtain ⟨as, e2, p2, l2⟩ := lift_all ys fun z hz => h z (List.mem_cons_of_mem _ hz)
    refine ⟨a :: as, by rw [e, e2]; rfl, fun b hb => ?_, by simp [l2]⟩
    rcases List.mem_cons.mp hb with e' | hb
    · rw [e']; exact pa
    · exact p2 b hb
theorem rng_len {n : Nat} : (rngD 0 ((n : Int)).toNat).length = n := by rw [rngD_len]; omega
/-! _law_mixed -/
theorem perm_erase : ∀ {r : List Vl} {i : Nat} {y : Vl}, r[i]? = some y → (y :: r.eraseIdx i).Perm r
  | [], i, y, h => by simp at h
  | x :: r, 0, y, h => by
    have e : x = y := by simpa using h
    subst e
    exact List.Perm.refl _
  | x :: r, i + 1, y, h => by
    have h1 := perm_erase (r := r) (i := i) (y := y) (by simpa using h)
    exact (List.Perm.swap x y _).trans (h1.cons x)
theorem perm_lift {α β : Type} (f : α → β) {ws zs : List β} (h : ws.Perm zs) : ∀ l : List α, zs = l.map f → ∃ l' : List α, l'.Perm l ∧ ws = l'.map f := by
  induction h with
  | nil => intro l e; exact ⟨l, List.Perm.refl _, e⟩
  | cons x _ ih =>
    intro l e
    cases l with
    | nil => cases e
    | cons a l =>
      obtain ⟨l', p, e'⟩ := ih l (List.cons.inj e).2
      exact ⟨a :: l', p.cons a, by rw [List.map_cons, ← e', ← (List.cons.inj e).1]⟩
  | swap x y zs =>
    intro l e
    cases l with
    | nil => cases e
    | cons a l =>
      cases l with
      | nil => cases (List.cons.inj e).2
      | cons b l =>
        have h1 := (List.cons.inj e).1
        have h2 := (List.cons.inj (List.cons.inj e).2).1
        have h3 := (List.cons.inj (List.cons.inj e).2).2
        exact ⟨b :: a :: l, List.Perm.swap a b l, by rw [List.map_cons, List.map_cons, ← h1, ← h2, ← h3]⟩
  | trans _ _ ih1 ih2 =>
    intro l e
    obtain ⟨l1, p1, e1⟩ := ih2 l e
    obtain ⟨l2, p2, e2⟩ := ih1 l1 e1
    exact ⟨l2, p2.trans p1, e2⟩
def p__law_mixed : Ct := fun xs μ Q => ∃ (k : Nat) (n : Int) (x : Vl) (vs : List Vl), xs = [.ref k, x] ∧ (∀ μ, sview μ x = some vs) ∧ vs.length ≤ 20 ∧ PenI k n μ ∧ n + 20 ≤ 900000 ∧
  ∀ (ws : List Vl) (r : Nat) (μ' : Mu), ws.Perm vs → Mv k (n + vs.length) μ μ' → μ.length ≤ r → μ'[r]? = some (.lst ws) → Q (.ref r) μ'
def c__law_mixed : Ct := Shut p__law_mixed
def b__law_mixed : DS :=
    (dSeq (dPar 2 3 (dCons (dCB fList (dCons (dVar 1) dNil)) (dCons (dLst dNil) dNil)))
    (dSeq (dFor (dRange1 (dCons (dCB fLen (dCons (dVar 1) dNil)) dNil)) (dgName 4) (dDrop (dBM mAppend (dVar 3) (dCons (dBM mPopAt (dVar 2) (dCons (dCall c__law_draw (dCons (dVar 0) (dCons (dCB fLen (dCons (dVar 2) dNil)) dNil))) dNil)) dNil))))
    (dRet (dVar 3))))
theorem l__law_mixed : ∀ xs μ Q, c__law_mixed xs μ Q → xs.length = 2 := by
  intro xs μ Q ⟨⟨_, _, _, _, e, _⟩⟩; subst e; rfl
theorem lv_ref {μ : Mu} {k : Nat} {xs : List Vl} (h : μ[k]? = some (.lst xs)) : lview μ (.ref k) = some xs := by
  show (match μ[k]? with
    | some (.lst xs) => some xs
    | _ => none) = _
  rw [h]
theorem sv_ref {μ : Mu} {k : Nat} {xs : List Vl} (h : μ[k]? = some (.lst xs)) : sview μ (.ref k) = some xs := lv_ref h
theorem r__law_mixed : ∀ xs μ Q, c__law_mixed xs μ Q → b__law_mixed (spEnds Q) (startD ["pen", "some", "rest", "found", "turn"] xs) μ := by
  intro xs μ Q ⟨⟨k, n, x, vs, e, hx, hv, hk, hn, q⟩⟩
  subst e
  have hsl := sizeLine_eq
  have hkl := hk.lt
  refine ⟨x, vs, rfl, hx μ, .inr ?_⟩
  refine ⟨by show 0 ≤ _; omega, .inr ?_⟩
  have a1 : ((μ ++ [Mo.lst vs]) ++ [Mo.lst []])[μ.length]? = some (.lst vs) := by
    rw [List.append_assoc, List.getElem?_append_right (Nat.le_refl _), Nat.sub_self]; rfl
  have a2 : ((μ ++ [Mo.lst vs]) ++ [Mo.lst []])[(μ ++ [Mo.lst vs]).length]? = some (.lst []) := get_app
  have el : (μ ++ [Mo.lst vs]).length = μ.length + 1 := by rw [List.length_append]; rfl
  refine ⟨x, vs, rfl, hx _, ?_⟩
  refine ⟨(vs.length : Int), rfl, by omega, by omega, ?_⟩
  refine DL.forD_inv (fun rest ρ μ1 => ∃ (R F : List Vl) (o4 : Option Vl), ρ = [some (.ref k), some x, some (.ref μ.length), some (.ref (μ ++ [Mo.lst vs]).length), o4] ∧ rest.length = R.length ∧ (F ++ R).Perm vs ∧ Mv k (n + F.length) μ μ1 ∧ μ1[μ.length]? = some (.lst R) ∧ μ1[(μ ++ [Mo.lst vs]).length]? = some (.lst F))
    (fun _ _ _ _ => trivial) (fun ρ μ1 h => ?_) (fun y rest ρ μ1 h D hD hrt _ => ?_) _ _ _ ?_
  · obtain ⟨R, F, o4, e1, e2, e3, e4, e5, e6⟩ := h
    subst e1
    have hR : R = [] := List.eq_nil_of_length_eq_zero e2.symm
    subst hR
    rw [List.append_nil] at e3
    rw [e3.length_eq] at e4
    exact q F _ μ1 e3 e4 (by omega) e6
  · obtain ⟨R, F, o4, e1, e2, e3, e4, e5, e6⟩ := h
    subst e1
    rw [List.length_cons] at e2
    have eFR : F.length + R.length = vs.length := by rw [← List.length_append]; exact e3.length_eq
    refine ⟨by show (lview μ1 (.ref (μ ++ [Mo.lst vs]).length)).isSome = true; rw [lv_ref e6]; rfl, ?_⟩
    refine ⟨by show (lview μ1 (.ref μ.length)).isSome = true; rw [lv_ref e5]; rfl, ?_⟩
    refine ⟨.ref μ.length, R, rfl, sv_ref e5, ?_⟩
    refine draw_use (many := (R.length : Int)) e4.pen (by omega) (by omega) fun d μ2 h1 h2 h3 => ?_
    have g5 := h3.get e5 (by omega)
    have g6 := h3.get e6 (by omega)
    obtain ⟨i, rfl⟩ : ∃ i : Nat, d = (i : Int) := ⟨d.toNat, by omega⟩
    have hi : i < R.length := by omega
    refine ⟨μ.length, R, i, R[i], rfl, rfl, g5, by omega, by simp [hi], ?_⟩
    refine ⟨(μ ++ [Mo.lst vs]).length, F, R[i], rfl, rfl, by rw [List.getElem?_set_ne (by omega)]; exact g6, by omega, ?_⟩
    have hlt1 : μ.length < μ2.length := (List.getElem?_eq_some_iff.mp g5).1
    have hlt2 : (μ ++ [Mo.lst vs]).length < μ2.length := (List.getElem?_eq_some_iff.mp g6).1
    refine hD _ _ ⟨R.eraseIdx i, F ++ [R[i]], _, rfl, ?_, ?_, ?_, ?_, ?_⟩
    · rw [List.length_eraseIdx_of_lt hi]; omega
    · rw [List.append_assoc]
      exact ((perm_erase (by simp [hi])).append_left F).trans e3
    · refine (((e4.trans h3).set (Nat.le_refl _) hkl).set (by omega) hkl).le ?_
      rw [List.length_append]
      show n + (F.length : Int) + 1 ≤ n + ((F.length + 1 : Nat) : Int)
      omega
    · rw [List.getElem?_set_ne (by omega), List.getElem?_set_self hlt1]
    · rw [List.getElem?_set_self (by rw [List.length_set]; exact hlt2)]
  · exact ⟨vs, [], _, rfl, by rw [rng_len], List.Perm.refl _, by have := ((Mv.refl hk).app (ex := [Mo.lst vs])).app (ex := [Mo.lst []]); simpa using this, a1, a2⟩
theorem mixed_use0 {k : Nat} {n : Int} {x : Vl} {vs : List Vl} {μ : Mu} {Q : DK} (hx : ∀ μ, sview μ x = some vs) (hv : vs.length ≤ 20) (h : PenI k n μ) (hn : n + 20 ≤ 900000) (q : ∀ (ws : List Vl) (r : Nat) (μ' : Mu), ws.Perm vs → Mv k (n + vs.length) μ μ' → μ.length ≤ r → μ'[r]? = some (.lst ws) → Q (.ref r) μ') : c__law_mixed [.ref k, x] μ Q :=
  ⟨⟨k, n, x, vs, rfl, hx, hv, h, hn, q⟩⟩
end K65

set_option maxHeartbeats 1000000
/-! ZF: sets, shown registers, drawn. -/
namespace K65
open PySem PySem.Spec L2 StX PyProof.Rows DL
theorem pickI_use {k : Nat} {n : Int} {μ : Mu} {Q : DK} (ns : List Int) (lo hi : Int) (hb : ∀ i ∈ ns, lo ≤ i ∧ i ≤ hi) (h : PenI k n μ) (hn : n ≤ 900000) (h0 : 0 < ns.length) (h1 : ns.length < 1000) (q : ∀ (i : Int) μ', lo ≤ i → i ≤ hi → Mv k (n + 1) μ μ' → Q (.int i) μ') : c__law_pick [.ref k, .lst (ns.map .int)] μ Q := by
  refine pick_use h hn (fun _ => rfl) (by rw [List.length_map]; exact h0) (by rw [List.length_map]; exact h1) fun v μ' hv hm => ?_
  obtain ⟨i, hi', e⟩ := List.mem_map.mp hv
  subst e
  exact q i μ' (hb i hi').1 (hb i hi').2 hm
theorem All2.len {α β : Type} {R : α → β → Prop} : ∀ {xs : List α} {ys : List β}, All2 R xs ys → xs.length = ys.length
  | _, _, .nil => rfl
  | _, _, .cons _ t => congrArg (· + 1) (All2.len t)
/-- as lc_pen, with each item and what is made of it -/
theorem lc_penR {z : Int} {G : Mu → Prop} {g : DG} {de : DE} {ρ : Rho} {k : Nat} {c : Int} (P : Vl → Vl → Prop) (hc : 0 ≤ c) (hG : ∀ μ, G μ) : ∀ (xs : List Vl) (step : ∀ x ∈ xs, ∀ (μ1 : Mu) (M : Int) (R : DK), PenI k M μ1 → M + c + z ≤ 900000 → (∀ y μ2, P x y → Mv k (M + c) μ1 μ2 → R y μ2) → g x ρ μ1 fun ρ2 μ2 => de ρ2 μ2 R)
    {Q : List Vl → Mu → Prop} (acc : List Vl) (μ : Mu) (M : Int), PenI k M μ → M + c * xs.length + z ≤ 900000 → (∀ ys μ', All2 P xs ys → Mv k (M + c * xs.length) μ μ' → Q (acc ++ ys) μ') → lcD G g dYes de ρ Q xs acc μ
  | [], _, Q, acc, μ, M, hp, _, q => ⟨hG μ, by have := q [] μ .nil (by simpa using Mv.refl hp); simpa using this⟩
  | x :: xs, step, Q, acc, μ, M, hp, hl, q => by
    have e1 : c * (((x :: xs).length : Nat) : Int) = c + c * (xs.length : Int) := by rw [List.length_cons, Int.natCast_add, Int.mul_add]; simp; omega
    have h0 : 0 ≤ c * (xs.length : Int) := Int.mul_nonneg hc (by omega)
    rw [e1] at hl q
    refine ⟨hG μ, step x List.mem_cons_self μ M _ hp (by omega) fun y μ2 hy hm => ?_⟩
    refine lc_penR P hc hG xs (fun w hz => step w (List.mem_cons_of_mem _ hz)) (acc ++ [y]) μ2 (M + c) hm.pen (by omega) fun ys μ' ha hm' => ?_
    have := q (y :: ys) μ' (.cons hy ha) (by rw [← Int.add_assoc]; exact hm.trans hm')
    simpa using this
def rngI (n : Nat) : List Int := (List.range n).map fun (i : Nat) => (0 : Int) + (i : Int)
theorem rngD_rngI {n : Nat} : rngD 0 n = (rngI n).map .int := by unfold rngD rngI; rw [List.map_map]; rfl
theorem rngI_len {n : Nat} : (rngI n).length = n := by simp [rngI]
theorem rngI_in {n : Nat} : inR n (rngI n) := fun x hx => by
  obtain ⟨i, hi, e⟩ := List.mem_map.mp hx
  have := List.mem_range.mp hi
  omega
theorem rngI_mem {n : Nat} {x : Int} : x ∈ rngI n ↔ 0 ≤ x ∧ x < n := by
  refine ⟨fun h => rngI_in x h, fun h => List.mem_map.mpr ⟨x.toNat, List.mem_range.mpr (by omega), by omega⟩⟩
theorem rngI_up {n : Nat} : (rngI n).Pairwise (· < ·) := by
  unfold rngI
  rw [List.pairwise_map]
  exact (List.pairwise_lt_range (n := n)).imp fun h => by omega
theorem up_nodup {xs : List Int} (h : xs.Pairwise (· < ·)) : xs.Nodup := h.imp fun h => by omega
theorem sorted_up {xs : List Int} (h : xs.Pairwise (· ≤ ·)) (hn : xs.Nodup) : xs.Pairwise (· < ·) := (h.and hn).imp fun ⟨h1, h2⟩ => by omega
theorem up_len {hi : Int} : ∀ (xs : List Int) (lo : Int), xs.Pairwise (· < ·) → (∀ x ∈ xs, lo ≤ x ∧ x < hi) → xs.length ≤ (hi - lo).toNat
  | [], _, _, _ => Nat.zero_le _
  | x :: r, lo, h, hr => by
    obtain ⟨h1, h2⟩ := List.pairwise_cons.mp h
    have ih := up_len r (x + 1) h2 fun y hy => ⟨by have := h1 y hy; omega, (hr y (List.mem_cons_of_mem _ hy)).2⟩
    have := hr x List.mem_cons_self
    rw [List.length_cons]
    omega
theorem up_short {n : Nat} {xs : List Int} (h : xs.Pairwise (· < ·)) (hr : inR n xs) : xs.length ≤ n := by
  have := up_len xs 0 h hr
  omega
theorem cut_head {xs : List Vl} {m : Int} (h : 0 ≤ m) : DL.cutD xs none (some m) = xs.take m.toNat := by
  obtain ⟨j, rfl⟩ : ∃ j : Nat, m = (j : Int) := ⟨m.toNat, by omega⟩
  unfold DL.cutD
  rw [HT.sIx_none, HT.sIx_nat, List.drop_zero, Nat.sub_zero]
  show xs.take (min j xs.length) = xs.take j
  by_cases hl : j ≤ xs.length
  · rw [Nat.min_eq_left hl]
  · rw [Nat.min_eq_right (by omega), List.take_of_length_le (Nat.le_refl _), List.take_of_length_le (by omega)]
theorem rg_ok {n : Nat} (h : n ≤ 1000) : RgOk 0 (n : Int) := RgOk.of_le (by omega) (by omega) (by omega) (by omega)
theorem mixed_use {k : Nat} {n : Int} {regs : Nat} {μ : Mu} {Q : DK} (h : PenI k n μ) (hn : n + 20 ≤ 900000) (hr : regs ≤ 8) (q : ∀ (ns : List Int) (r : Nat) (μ' : Mu), ns.Perm (rngI regs) → Mv k (n + regs) μ μ' → μ.length ≤ r → μ'[r]? = some (.lst (ns.map .int)) → Q (.ref r) μ') :
    c__law_mixed [.ref k, .lst (rngD 0 ((regs : Int)).toNat)] μ Q := by
  refine mixed_use0 (fun _ => rfl) (by rw [rng_len]; omega) h hn fun ws r μ' hp hm hl hw => ?_
  rw [rng_len] at hm
  have e : rngD 0 ((regs : Int)).toNat = (rngI regs).map .int := by rw [show ((regs : Int)).toNat = regs by omega]; exact rngD_rngI
  obtain ⟨ns, p, e2⟩ := perm_lift Vl.int hp (rngI regs) e
  subst e2
  exact q ns r μ' p hm hl hw
/-! _law_pairs_of -/
def PairsOk (regs : Nat) (qs : List (Int × Int)) : Prop := (slots qs).Pairwise (· < ·) ∧ inR regs (slots qs) ∧ (∀ q ∈ qs, -1000 ≤ q.2 ∧ q.2 ≤ 1000) ∧ qs.length ≤ regs
def c__law_pairs_of : Ct := fun xs μ Q => ∃ (k : Nat) (n : Int) (regs : Nat), xs = [.ref k, .int regs] ∧ regs ≤ 3 ∧ PenI k n μ ∧ n + 120 ≤ 900000 ∧ ∀ qs μ', PairsOk regs qs → Mv k (n + 10) μ μ' → Q (.tup (qs.map pairV)) μ'
def b__law_pairs_of : DS :=
    (dSeq (dAsg (dCB fSortedI (dCons (dSlA (dCall c__law_mixed (dCons (dVar 0) (dCons (dListRg (dVar 1)) dNil))) dNoPart (dPart (dCall c__law_pick (dCons (dVar 0) (dCons (dLst (dCons (dC (.int 0)) (dCons (dC (.int 1)) (dCons (dC (.int 1)) (dCons (dC (.int 1)) (dCons (dC (.int 2)) dNil)))))) dNil))))) dNil)) (dgName 2))
    (dRet (dCB fTuple (dCons (dLc (dIter (dVar 2)) (dgName 3) dYes (dTup (dCons (dVar 3) (dCons (dCall c__law_pick (dCons (dVar 0) (dCons (dLst (dCons (dC (.int 1)) (dCons (dC (.int 1)) (dCons (dC (.int 1)) (dCons (dC (.int 2)) (dCons (dNeg (dC (.int 1))) (dCons (dC (.int 3)) (dCons (dC (.int 0)) (dCons (dNeg (dC (.int 2))) dNil))))))))) dNil))) dNil))) [3]) dNil))))
theorem l__law_pairs_of : ∀ xs μ Q, c__law_pairs_of xs μ Q → xs.length = 2 := by
  intro xs μ Q ⟨_, _, _, e, _⟩; subst e; rfl
theorem pairs_lift {P : Int → Prop} : ∀ {ns : List Int} {ys : List Vl}, All2 (fun x y : Vl => ∃ i m : Int, x = .int i ∧ y = pairV (i, m) ∧ P m) (ns.map .int) ys → ∃ qs : List (Int × Int), ys = qs.map pairV ∧ slots qs = ns ∧ ∀ q ∈ qs, P q.2
  | [], _, .nil => ⟨[], rfl, rfl, fun q h => by cases h⟩
  | n :: ns, _, .cons r t => by
    obtain ⟨i, m, e1, e2, pm⟩ := r
    cases e1
    obtain ⟨qs, e3, e4, pq⟩ := pairs_lift t
    refine ⟨(n, m) :: qs, by rw [e2, e3]; rfl, by rw [← e4]; rfl, fun q hq => ?_⟩
    rcases List.mem_cons.mp hq with e | hq
    · subst e; exact pm
    · exact pq q hq
theorem r__law_pairs_of : ∀ xs μ Q, c__law_pairs_of xs μ Q → b__law_pairs_of (spEnds Q) (startD ["pen", "registers", "some", "slot"] xs) μ := by
  intro xs μ Q ⟨k, n, regs, e, hr, hk, hn, q⟩
  subst e
  have hsl := sizeLine_eq
  have hkl := hk.lt
  refine ⟨(regs : Int), rfl, rg_ok (by omega), .inl ?_⟩
  refine mixed_use (regs := regs) hk (by omega) (by omega) fun ns r μ1 hp hm hrl hw => ?_
  refine ⟨by show 5 ≤ _; omega, .inl ?_⟩
  refine pickI_use [0, 1, 1, 1, 2] 0 2 (by decide) hm.pen (by omega) (by decide) (by decide) fun m μ2 m1 m2 hm2 => ?_
  have hw2 := hm2.get hw (by omega)
  refine ⟨_, lv_ref hw2, .inl ?_⟩
  rw [cut_head m1, ← List.map_take]
  have nd : (ns.take m.toNat).Nodup := (hp.nodup_iff.mpr (up_nodup rngI_up)).sublist (List.take_sublist _ _)
  refine ⟨_, ns.take m.toNat, rfl, rfl, fun ys yp yo => .inl ?_⟩
  have yin : inR regs ys := fun x hx => rngI_in x (hp.mem_iff.mp (List.mem_of_mem_take (yp.mem_iff.mp hx)))
  have yup : ys.Pairwise (· < ·) := sorted_up yo (yp.nodup_iff.mpr nd)
  have yl := up_short yup yin
  have h03 : ((ys.map Vl.int).length : Int) ≤ 3 := by rw [List.length_map]; omega
  refine ⟨ys.map .int, rfl, ?_⟩
  refine lc_penR (z := 50) (k := k) (c := 1) (fun x y => ∃ i m : Int, x = .int i ∧ y = pairV (i, m) ∧ (-1000 ≤ m ∧ m ≤ 1000)) (by decide) (fun _ => trivial) _ (fun x hx μ3 M R hp3 hl3 hR => ?_) [] μ2 (n + regs + 1) hm2.pen (by omega) fun zs μ3 ha hm3 => ?_
  · obtain ⟨i, _, e⟩ := List.mem_map.mp hx
    subst e
    refine ⟨by show 8 ≤ _; omega, .inl ?_⟩
    refine pickI_use [1, 1, 1, 2, -1, 3, 0, -2] (-2) 3 (by decide) hp3 (by omega) (by decide) (by decide) fun v μ4 v1 v2 hm4 => ?_
    exact ⟨by show 2 ≤ _; omega, hR _ _ ⟨i, v, rfl, rfl, by omega, by omega⟩ hm4⟩
  · obtain ⟨qs, e1, e2, e3⟩ := pairs_lift ha
    subst e1
    refine .inl ⟨_, _, rfl, rfl, ?_⟩
    have lq : qs.length = ys.length := by have := congrArg List.length e2; simpa [slots] using this
    exact q qs μ3 ⟨by rw [e2]; exact yup, by rw [e2]; exact yin, e3, by omega⟩ (((hm.trans hm2).trans hm3).le (by omega))
/-! _law_set, _law_sets, _law_shown -/
def SetOk (regs : Nat) (s : St) : Prop := ∀ ps p, p.regs = regs → StOk ps p s
def isSet : St → Prop
  | .set _ _ _ => True
  | .deed _ _ => True
  | _ => False
def c__law_set : Ct := fun xs μ Q => ∃ (k : Nat) (n : Int) (regs : Nat), xs = [.ref k, .int regs] ∧ 1 ≤ regs ∧ regs ≤ 3 ∧ PenI k n μ ∧ n + 150 ≤ 900000 ∧ ∀ s μ', SetOk regs s ∧ isSet s → Mv k (n + 12) μ μ' → Q (St.t s) μ'
def b__law_set : DS :=
    (dRet (dTup (dCons (dC (.str "set")) (dCons (dCall c__law_draw (dCons (dVar 0) (dCons (dVar 1) dNil))) (dCons (dCall c__law_pick (dCons (dVar 0) (dCons (dLst (dCons (dC (.int 0)) (dCons (dC (.int 0)) (dCons (dC (.int 1)) (dCons (dC (.int 2)) (dCons (dNeg (dC (.int 1))) (dCons (dC (.int 3)) dNil))))))) dNil))) (dCons (dCall c__law_pairs_of (dCons (dVar 0) (dCons (dVar 1) dNil))) dNil))))))
theorem l__law_set : ∀ xs μ Q, c__law_set xs μ Q → xs.length = 2 := by
  intro xs μ Q ⟨_, _, _, e, _⟩; subst e; rfl
theorem r__law_set : ∀ xs μ Q, c__law_set xs μ Q → b__law_set (spEnds Q) (startD ["pen", "registers"] xs) μ := by
  intro xs μ Q ⟨k, n, regs, e, h1, h3, hk, hn, q⟩
  subst e
  have hsl := sizeLine_eq
  refine draw_use (many := (regs : Int)) hk (by omega) (by omega) fun d μ1 d1 d2 hm1 => ?_
  refine ⟨by show 6 ≤ _; omega, .inl ?_⟩
  refine pickI_use [0, 0, 1, 2, -1, 3] (-1) 3 (by decide) hm1.pen (by omega) (by decide) (by decide) fun c μ2 c1 c2 hm2 => ?_
  refine ⟨k, n + 1 + 1, regs, rfl, h3, hm2.pen, by omega, fun qs μ3 hq hm3 => ?_⟩
  refine ⟨by show 4 ≤ _; omega, ?_⟩
  refine q (.set d c qs) μ3 ⟨fun ps p ep => ?_, trivial⟩ (((hm1.trans hm2).trans hm3).le (by omega))
  obtain ⟨q1, q2, q3, q4⟩ := hq
  exact ⟨⟨by omega, by omega⟩, ⟨by omega, by omega⟩, q1, by rw [ep]; exact q2, q3, by rw [ep]; exact q4⟩
def c__law_sets : Ct := fun xs μ Q => ∃ (k : Nat) (n : Int) (regs most : Nat), xs = [.ref k, .int regs, .int most] ∧ 1 ≤ regs ∧ regs ≤ 3 ∧ most ≤ 2 ∧ PenI k n μ ∧ n + 300 ≤ 900000 ∧
  ∀ (ss : List St) (r : Nat) (μ' : Mu), (∀ s ∈ ss, SetOk regs s ∧ isSet s) → ss.length ≤ most → Mv k (n + 25) μ μ' → μ.length ≤ r → μ'[r]? = some (.lst (ss.map St.t)) → Q (.ref r) μ'
def b__law_sets : DS :=
    (dRet (dLc (dRange1 (dCons (dCall c__law_draw (dCons (dVar 0) (dCons (dOp dAdd (dVar 2) (dC (.int 1))) dNil))) dNil)) (dgName 3) dYes (dCall c__law_set (dCons (dVar 0) (dCons (dVar 1) dNil))) [3]))
theorem l__law_sets : ∀ xs μ Q, c__law_sets xs μ Q → xs.length = 3 := by
  intro xs μ Q ⟨_, _, _, _, e, _⟩; subst e; rfl
theorem r__law_sets : ∀ xs μ Q, c__law_sets xs μ Q → b__law_sets (spEnds Q) (startD ["pen", "registers", "most", "turn"] xs) μ := by
  intro xs μ Q ⟨k, n, regs, most, e, h1, h3, hm, hk, hn, q⟩
  subst e
  have hsl := sizeLine_eq
  refine draw_use (many := (most : Int) + 1) hk (by omega) (by omega) fun d μ1 d1 d2 hm1 => ?_
  obtain ⟨j, rfl⟩ : ∃ j : Nat, d = (j : Int) := ⟨d.toNat, by omega⟩
  refine ⟨(j : Int), rfl, by omega, by omega, ?_⟩
  refine lc_pen (z := 200) (k := k) (c := 12) (fun y => ∃ s, y = St.t s ∧ (SetOk regs s ∧ isSet s)) (by decide) (fun _ => trivial) _ (fun x hx μ3 M R hp3 hl3 hR => ?_) [] μ1 (n + 1) hm1.pen (by rw [rng_len]; omega) fun ys μ3 hl hy hm3 => ?_
  · exact ⟨k, M, regs, rfl, h1, h3, hp3, by omega, fun s μ4 hs hm4 => hR _ _ ⟨s, rfl, hs⟩ hm4⟩
  · rw [rng_len] at hl hm3
    obtain ⟨ss, e1, e2, e3⟩ := lift_all ys hy
    subst e1
    refine .inr ?_
    have hlen := (hm1.trans hm3).len
    exact q ss μ3.length _ e2 (by omega) ((hm1.trans hm3).app.le (by omega)) hlen get_app
theorem ints_lift {n : Nat} {ys : List Vl} (h : ∀ y ∈ ys, ∃ d : Int, y = .int d ∧ (0 ≤ d ∧ d < n)) : ∃ rs : List Int, ys = rs.map .int ∧ inR n rs ∧ rs.length = ys.length := lift_all ys h
def c__law_shown : Ct := fun xs μ Q => ∃ (k : Nat) (n : Int) (regs : Nat), xs = [.ref k, .int regs] ∧ 1 ≤ regs ∧ regs ≤ 3 ∧ PenI k n μ ∧ n + 120 ≤ 900000 ∧ ∀ rs μ', rs.length ≤ 4 → inR regs rs → Mv k (n + 5) μ μ' → Q (iT rs) μ'
def b__law_shown : DS :=
    (dRet (dCB fTuple (dCons (dLc (dRange1 (dCons (dCall c__law_pick (dCons (dVar 0) (dCons (dLst (dCons (dC (.int 0)) (dCons (dC (.int 0)) (dCons (dC (.int 1)) (dCons (dC (.int 1)) (dCons (dC (.int 2)) (dCons (dC (.int 2)) (dCons (dC (.int 3)) (dCons (dC (.int 4)) dNil))))))))) dNil))) dNil)) (dgName 2) dYes (dCall c__law_draw (dCons (dVar 0) (dCons (dVar 1) dNil))) [2]) dNil)))
theorem l__law_shown : ∀ xs μ Q, c__law_shown xs μ Q → xs.length = 2 := by
  intro xs μ Q ⟨_, _, _, e, _⟩; subst e; rfl
theorem r__law_shown : ∀ xs μ Q, c__law_shown xs μ Q → b__law_shown (spEnds Q) (startD ["pen", "registers", "turn"] xs) μ := by
  intro xs μ Q ⟨k, n, regs, e, h1, h3, hk, hn, q⟩
  subst e
  have hsl := sizeLine_eq
  refine ⟨by show 8 ≤ _; omega, .inl ?_⟩
  refine pickI_use [0, 0, 1, 1, 2, 2, 3, 4] 0 4 (by decide) hk (by omega) (by decide) (by decide) fun c μ1 c1 c2 hm1 => ?_
  obtain ⟨j, rfl⟩ : ∃ j : Nat, c = (j : Int) := ⟨c.toNat, by omega⟩
  refine ⟨(j : Int), rfl, by omega, by omega, ?_⟩
  refine lc_pen (z := 50) (k := k) (c := 1) (fun y => ∃ d : Int, y = .int d ∧ (0 ≤ d ∧ d < regs)) (by decide) (fun _ => trivial) _ (fun x hx μ3 M R hp3 hl3 hR => ?_) [] μ1 (n + 1) hm1.pen (by rw [rng_len]; omega) fun ys μ3 hl hy hm3 => ?_
  · exact draw_use (many := (regs : Int)) hp3 (by omega) (by omega) fun d μ4 d1 d2 hm4 => hR _ _ ⟨d, rfl, d1, by omega⟩ hm4
  · rw [rng_len] at hl hm3
    obtain ⟨rs, e1, e2, e3⟩ := ints_lift hy
    subst e1
    refine .inl ⟨_, _, rfl, rfl, ?_⟩
    exact q rs μ3 (by omega) e2 ((hm1.trans hm3).le (by omega))
end K65

set_option maxHeartbeats 2000000
/-! ZG: a procedure, drawn. -/
namespace K65
open PySem PySem.Spec L2 StX PyProof.Rows DL
def calV (c : Nat × Nat × Nat) : Vl := .tup [.int c.1, .int c.2.1, .int c.2.2]
def CallOk (cs : List (Nat × Nat × Nat)) (regs : Nat) (j : Nat) (hs qs : List Int) : Prop := ∃ c ∈ cs, c.1 = j ∧ hs.length = c.2.1 ∧ qs.length = c.2.2 ∧ inR regs hs ∧ inR regs qs ∧ qs.Nodup
/-- steps as they are drawn: go leads to pl -/
def StG (cs : List (Nat × Nat × Nat)) (regs back pl : Nat) : St → Prop
  | .call j hs qs => CallOk cs regs j hs qs
  | .go p => p = pl
  | .back rs => rs.length = back ∧ inR regs rs
  | .test _ _ _ _ => False
  | s => SetOk regs s
theorem SetOk.g {cs : List (Nat × Nat × Nat)} {regs back pl : Nat} {s : St} (h : SetOk regs s) (hn : isSet s) : StG cs regs back pl s := by
  cases s <;> first | exact h | exact False.elim hn
theorem mview_of {μ : Mu} {k : Nat} {xs : List Vl} (h : μ[k]? = some (.lst xs)) : mview μ (.ref k) = some xs := lv_ref h
structure PSt (k : Nat) (N : Int) (μ μ1 : Mu) (r : Nat) (L : List Vl) : Prop where
  mv : Mv k N μ μ1
  rl : μ.length ≤ r
  at_ : μ1[r]? = some (.lst L)
theorem PSt.step {k : Nat} {N M : Int} {μ μ1 μ2 : Mu} {r : Nat} {L : List Vl} (h : PSt k N μ μ1 r L) (hk : k < μ.length) (hm : Mv k M μ1 μ2) : PSt k M μ μ2 r L := ⟨h.mv.trans hm, h.rl, hm.get h.at_ (by have := h.rl; omega)⟩
theorem PSt.put {k : Nat} {N : Int} {μ μ1 : Mu} {r : Nat} {L L' : List Vl} (h : PSt k N μ μ1 r L) (hk : k < μ.length) : PSt k N μ (μ1.set r (.lst L')) r L' := ⟨h.mv.set h.rl hk, h.rl, List.getElem?_set_self (List.getElem?_eq_some_iff.mp h.at_).1⟩
theorem PSt.new {k : Nat} {N : Int} {μ μ1 : Mu} {L : List Vl} (h : Mv k N μ μ1) : PSt k N μ (μ1 ++ [.lst L]) μ1.length L := ⟨h.app, h.len, get_app⟩
theorem PSt.le {k : Nat} {N M : Int} {μ μ1 : Mu} {r : Nat} {L : List Vl} (h : PSt k N μ μ1 r L) (hl : N ≤ M) : PSt k M μ μ1 r L := ⟨h.mv.le hl, h.rl, h.at_⟩
def StX (cs : List (Nat × Nat × Nat)) (p : Pr) : St → Prop
  | .call j hs qs => CallOk cs p.regs j hs qs
  | s => StOk [] p s
structure PrX (cs : List (Nat × Nat × Nat)) (p : Pr) : Prop where
  steps : 1 ≤ p.steps.length ∧ p.steps.length ≤ 60
  ok : ∀ s ∈ p.steps, StX cs p s
  last : ∃ s, p.steps[p.steps.length - 1]? = some s ∧ s.isLast = true
def p__law_procedure : Ct := fun xs μ Q => ∃ (k : Nat) (n : Int) (w : Str) (handed back regs : Nat) (cs : List (Nat × Nat × Nat)), xs = [.ref k, .str w, .int handed, .int back, .int regs, .lst (cs.map calV)] ∧ 1 ≤ regs ∧ regs ≤ 3 ∧ back ≤ 3 ∧ (∀ c ∈ cs, c.2.1 ≤ 3 ∧ c.2.2 ≤ regs) ∧ cs.length ≤ 4 ∧ PenI k n μ ∧ n + 2000 ≤ 900000 ∧
  ∀ (p : Pr) μ', p.word = w → p.handed = handed → p.back = back → p.regs = regs → PrX cs p → Mv k (n + 300) μ μ' → Q p.v μ'
def c__law_procedure : Ct := Shut p__law_procedure
def s__law_procedure_1 : DS :=
    (dAsg (dCall c__law_sets (dCons (dVar 0) (dCons (dVar 4) (dCons (dC (.int 2)) dNil)))) (dgName 6))
def s__law_procedure_2 : DS :=
    (dIf (dTest (dOp dEq (dCall c__law_draw (dCons (dVar 0) (dCons (dC (.int 3)) dNil))) (dC (.int 0)))) (dDrop (dBM mAppend (dVar 6) (dCons (dTup (dCons (dC (.str "deed")) (dCons (dCall c__law_pick (dCons (dVar 0) (dCons (dLst (dCons (dC (.str "d")) (dCons (dC (.str "e")) dNil))) dNil))) (dCons (dCall c__law_shown (dCons (dVar 0) (dCons (dVar 4) dNil))) dNil)))) dNil))) dNext)
def s__law_procedure_3 : DS :=
    (dAsg (dCB fLen (dCons (dVar 6) dNil)) (dgName 7))
def s__law_procedure_4 : DS :=
    (dDrop (dBM mAppend (dVar 6) (dCons (dC .non) dNil)))
def s__law_procedure_5 : DS :=
    (dAsg (dCB fLen (dCons (dVar 6) dNil)) (dgName 8))
def s__law_procedure_6 : DS :=
    (dAsg (dOp dAdd (dVar 6) (dCall c__law_sets (dCons (dVar 0) (dCons (dVar 4) (dCons (dC (.int 2)) dNil))))) (dgName 6))
def s__law_procedure_7 : DS :=
    (dIf (dAndT (dTest (dOp dNe (dVar 5) (dLst dNil))) (dTest (dOp dGt (dCall c__law_draw (dCons (dVar 0) (dCons (dC (.int 4)) dNil))) (dC (.int 0))))) (dSeq (dAsg (dCall c__law_pick (dCons (dVar 0) (dCons (dVar 5) dNil))) (dgTup 3 (dgCons (dgName 9) (dgCons (dgName 10) (dgCons (dgName 11) dgNil)))))
    (dSeq (dAsg (dCB fTuple (dCons (dSlA (dCall c__law_mixed (dCons (dVar 0) (dCons (dListRg (dVar 4)) dNil))) dNoPart (dPart (dVar 11))) dNil)) (dgName 12))
    (dDrop (dBM mAppend (dVar 6) (dCons (dTup (dCons (dC (.str "call")) (dCons (dVar 9) (dCons (dCB fTuple (dCons (dLc (dRange1 (dCons (dVar 10) dNil)) (dgName 14) dYes (dCall c__law_draw (dCons (dVar 0) (dCons (dVar 4) dNil))) [14]) dNil)) (dCons (dVar 12) dNil))))) dNil))))) dNext)
def s__law_procedure_8 : DS :=
    (dAsg (dOp dAdd (dVar 6) (dCall c__law_sets (dCons (dVar 0) (dCons (dVar 4) (dCons (dC (.int 1)) dNil))))) (dgName 6))
def s__law_procedure_9 : DS :=
    (dDrop (dBM mAppend (dVar 6) (dCons (dIfE (dTest (dOp dEq (dCall c__law_draw (dCons (dVar 0) (dCons (dC (.int 3)) dNil))) (dC (.int 0)))) (dTup (dCons (dC (.str "go")) (dCons (dVar 7) dNil))) (dTup (dCons (dC (.str "back")) (dCons (dCB fTuple (dCons (dLc (dRange1 (dCons (dVar 3) dNil)) (dgName 14) dYes (dCall c__law_draw (dCons (dVar 0) (dCons (dVar 4) dNil))) [14]) dNil)) dNil)))) dNil)))
def s__law_procedure_10 : DS :=
    (dAsg (dCB fLen (dCons (dVar 6) dNil)) (dgName 13))
def s__law_procedure_11 : DS :=
    (dAsg (dOp dAdd (dOp dAdd (dVar 6) (dCall c__law_sets (dCons (dVar 0) (dCons (dVar 4) (dCons (dC (.int 1)) dNil))))) (dLst (dCons (dTup (dCons (dC (.str "back")) (dCons (dCB fTuple (dCons (dLc (dRange1 (dCons (dVar 3) dNil)) (dgName 14) dYes (dCall c__law_draw (dCons (dVar 0) (dCons (dVar 4) dNil))) [14]) dNil)) dNil))) dNil))) (dgName 6))
def s__law_procedure_12 : DS :=
    (dAsg (dTup (dCons (dC (.str "test")) (dCons (dCall c__law_pick (dCons (dVar 0) (dCons (dLst (dCons (dC (.str "t")) (dCons (dC (.str "t")) (dCons (dC (.str "u")) dNil)))) dNil))) (dCons (dCall c__law_shown (dCons (dVar 0) (dCons (dVar 4) dNil))) (dCons (dVar 8) (dCons (dVar 13) dNil)))))) (dgIx (dVar 6) (dVar 7)))
def s__law_procedure_13 : DS :=
    (dRet (dTup (dCons (dVar 1) (dCons (dVar 2) (dCons (dVar 3) (dCons (dVar 4) (dCons (dCB fTuple (dCons (dVar 6) dNil)) dNil)))))))
def t__law_procedure_13 : DS := s__law_procedure_13
def t__law_procedure_12 : DS := dSeq (s__law_procedure_12) (t__law_procedure_13)
def t__law_procedure_11 : DS := dSeq (s__law_procedure_11) (t__law_procedure_12)
def t__law_procedure_10 : DS := dSeq (s__law_procedure_10) (t__law_procedure_11)
def t__law_procedure_9 : DS := dSeq (s__law_procedure_9) (t__law_procedure_10)
def t__law_procedure_8 : DS := dSeq (s__law_procedure_8) (t__law_procedure_9)
def t__law_procedure_7 : DS := dSeq (s__law_procedure_7) (t__law_procedure_8)
def t__law_procedure_6 : DS := dSeq (s__law_procedure_6) (t__law_procedure_7)
def t__law_procedure_5 : DS := dSeq (s__law_procedure_5) (t__law_procedure_6)
def t__law_procedure_4 : DS := dSeq (s__law_procedure_4) (t__law_procedure_5)
def t__law_procedure_3 : DS := dSeq (s__law_procedure_3) (t__law_procedure_4)
def t__law_procedure_2 : DS := dSeq (s__law_procedure_2) (t__law_procedure_3)
def t__law_procedure_1 : DS := dSeq (s__law_procedure_1) (t__law_procedure_2)
def b__law_procedure : DS := t__law_procedure_1
theorem l__law_procedure : ∀ xs μ Q, c__law_procedure xs μ Q → xs.length = 6 := by
  intro xs μ Q ⟨⟨_, _, _, _, _, _, _, e, _⟩⟩; subst e; rfl
theorem pickS_use {k : Nat} {n : Int} {μ : Mu} {Q : DK} (ws : List Str) (hb : ∀ w ∈ ws, w ∈ names) (h : PenI k n μ) (hn : n ≤ 900000) (h0 : 0 < ws.length) (h1 : ws.length < 1000) (q : ∀ (w : Str) μ', w ∈ names → Mv k (n + 1) μ μ' → Q (.str w) μ') : c__law_pick [.ref k, .lst (ws.map .str)] μ Q := by
  refine pick_use h hn (fun _ => rfl) (by rw [List.length_map]; exact h0) (by rw [List.length_map]; exact h1) fun v μ' hv hm => ?_
  obtain ⟨i, hi', e⟩ := List.mem_map.mp hv
  subst e
  exact q i μ' (hb i hi') hm
theorem mem_eq {a b : Mu} (P : Mu → Prop) (e : a = b) (h : P b) : P a := by rw [e]; exact h
section
variable {k : Nat} {n : Int} {w : Str} {handed back regs : Nat} {cs : List (Nat × Nat × Nat)} {μ : Mu} {Q : DK}
abbrev rhoP (k : Nat) (w : Str) (handed back regs : Nat) (cs : List (Nat × Nat × Nat)) (o6 o7 o8 o9 o10 o11 o12 o13 : Option Vl) : Rho := [some (.ref k), some (.str w), some (.int handed), some (.int back), some (.int regs), some (.lst (cs.map calV)), o6, o7, o8, o9, o10, o11, o12, o13, none]
theorem st_len {A : List St} : (A.map St.t).length = A.length := List.length_map _
theorem p_12 (hr : 1 ≤ regs ∧ regs ≤ 3) (hk : PenI k n μ) (hn : n + 2000 ≤ 900000) (q : ∀ (p : Pr) μ', p.word = w → p.handed = handed → p.back = back → p.regs = regs → PrX cs p → Mv k (n + 300) μ μ' → Q p.v μ')
    {μ1 : Mu} {r : Nat} {A B : List St} {rs0 : List Int} {no : Nat} {o9 o10 o11 o12 : Option Vl} (hs : PSt k (n + 250) μ μ1 r ((A.map St.t) ++ .non :: (B ++ [St.back rs0]).map St.t)) (hA : ∀ s ∈ A, StG cs regs back A.length s) (hB : ∀ s ∈ B ++ [St.back rs0], StG cs regs back A.length s)
    (hno : no ≤ A.length + B.length + 1) (hlA : A.length ≤ 10) (hlB : B.length ≤ 20) : t__law_procedure_12 (spEnds Q) (rhoP k w handed back regs cs (some (.ref r)) (some (.int A.length)) (some (.int ((A.length + 1 : Nat) : Int))) o9 o10 o11 o12 (some (.int no))) μ1 := by
  have hsl := sizeLine_eq
  have hkl := hk.lt
  refine ⟨by show 3 ≤ _; omega, .inl ?_⟩
  refine pickS_use ["t", "t", "u"] (by decide +kernel) hs.mv.pen (by omega) (by decide) (by decide) fun wt μ2 hw hm2 => ?_
  refine ⟨k, n + 251, regs, rfl, hr.1, hr.2, by rw [show n + 251 = n + 250 + 1 by omega]; exact hm2.pen, by omega, fun rs μ3 hl hin hm3 => ?_⟩
  refine ⟨by show 5 ≤ _; omega, ?_⟩
  have hs2 := (hs.step hkl hm2).step hkl hm3
  have hix : ixN ((A.map St.t) ++ .non :: (B ++ [St.back rs0]).map St.t).length (A.length : Int) = some A.length := by
    unfold ixN
    rw [if_pos (by omega), if_pos (by simp; omega)]
    rfl
  refine ⟨r, _, _, A.length, rfl, rfl, hs2.at_, hix, ?_⟩
  have e1 : ((A.map St.t) ++ .non :: (B ++ [St.back rs0]).map St.t).set A.length (St.test wt rs (A.length + 1) no).t = (A ++ St.test wt rs (A.length + 1) no :: (B ++ [St.back rs0])).map St.t := by
    rw [List.set_append_right _ _ (by rw [st_len]; exact Nat.le_refl _), st_len, Nat.sub_self, List.set_cons_zero]
    simp
  have hs3 := hs2.put (L' := (A ++ St.test wt rs (A.length + 1) no :: (B ++ [St.back rs0])).map St.t) hkl
  refine mem_eq (fun m => t__law_procedure_13 (spEnds Q) (rhoP k w handed back regs cs (some (.ref r)) (some (.int A.length)) (some (.int ((A.length + 1 : Nat) : Int))) o9 o10 o11 o12 (some (.int no))) m) (congrArg (fun l => μ3.set r (.lst l)) e1) ?_
  refine ⟨_, _, rfl, sv_ref hs3.at_, ?_⟩
  refine ⟨by show 5 ≤ _; omega, ?_⟩
  have ht : (A ++ St.test wt rs (A.length + 1) no :: (B ++ [St.back rs0])).length = A.length + B.length + 2 := by simp; omega
  refine q ⟨w, handed, back, regs, A ++ St.test wt rs (A.length + 1) no :: (B ++ [St.back rs0])⟩ _ rfl rfl rfl rfl ⟨?_, fun s hm => ?_, ⟨.back rs0, ?_, rfl⟩⟩ (hs3.mv.le (by omega))
  · show 1 ≤ List.length _ ∧ List.length _ ≤ 60
    rw [ht]; omega
  · have go : ∀ s, StG cs regs back A.length s → StX cs ⟨w, handed, back, regs, A ++ St.test wt rs (A.length + 1) no :: (B ++ [St.back rs0])⟩ s := by
      intro s hg
      cases s with
      | call j hs qs => exact hg
      | go p =>
        have e : p = A.length := hg
        subst e
        show A.length < List.length _
        rw [ht]; omega
      | back rs => exact hg
      | test _ _ _ _ => exact False.elim hg
      | set a b c => exact (show SetOk regs _ from hg) [] ⟨w, handed, back, regs, A ++ St.test wt rs (A.length + 1) no :: (B ++ [St.back rs0])⟩ rfl
      | deed a b => exact (show SetOk regs _ from hg) [] ⟨w, handed, back, regs, A ++ St.test wt rs (A.length + 1) no :: (B ++ [St.back rs0])⟩ rfl
    rcases List.mem_append.mp hm with hm | hm
    · exact go s (hA s hm)
    · rcases List.mem_cons.mp hm with e | hm
      · subst e
        refine ⟨hw, hl, hin, ?_, ?_⟩
        · show _ < List.length _
          rw [ht]; omega
        · show _ < List.length _
          rw [ht]; omega
      · exact go s (hB s hm)
  · show (A ++ St.test wt rs (A.length + 1) no :: (B ++ [St.back rs0]))[List.length _ - 1]? = _
    rw [ht, List.getElem?_append_right (by omega), show A.length + B.length + 2 - 1 - A.length = B.length + 1 by omega]
    show (B ++ [St.back rs0])[B.length]? = _
    rw [List.getElem?_append_right (Nat.le_refl _), Nat.sub_self]; rfl
theorem p_10 (hr : 1 ≤ regs ∧ regs ≤ 3) (hb : back ≤ 3) (hk : PenI k n μ) (hn : n + 2000 ≤ 900000) (q : ∀ (p : Pr) μ', p.word = w → p.handed = handed → p.back = back → p.regs = regs → PrX cs p → Mv k (n + 300) μ μ' → Q p.v μ')
    {μ1 : Mu} {r : Nat} {A B : List St} {o9 o10 o11 o12 o13 : Option Vl} (hs : PSt k (n + 200) μ μ1 r ((A.map St.t) ++ .non :: B.map St.t)) (hA : ∀ s ∈ A, StG cs regs back A.length s) (hB : ∀ s ∈ B, StG cs regs back A.length s)
    (hlA : A.length ≤ 10) (hlB : B.length ≤ 10) : t__law_procedure_10 (spEnds Q) (rhoP k w handed back regs cs (some (.ref r)) (some (.int A.length)) (some (.int ((A.length + 1 : Nat) : Int))) o9 o10 o11 o12 o13) μ1 := by
  have hsl := sizeLine_eq
  have hkl := hk.lt
  have hL : ((A.map St.t) ++ .non :: B.map St.t).length = A.length + B.length + 1 := by simp; omega
  refine ⟨_, _, rfl, sv_ref hs.at_, ?_⟩
  refine ⟨k, n + 200, regs, 1, rfl, hr.1, hr.2, by omega, hs.mv.pen, by omega, fun ss r2 μ2 hss hl2 hm2 hr2 hw2 => ?_⟩
  have hs2 := hs.step hkl hm2
  refine ⟨_, _, mview_of hs2.at_, mview_of hw2, by rw [hL, st_len, hsl]; omega, .inl ?_⟩
  refine ⟨(back : Int), rfl, by omega, by omega, ?_⟩
  refine lc_pen (z := 50) (k := k) (c := 1) (fun y => ∃ d : Int, y = .int d ∧ (0 ≤ d ∧ d < regs)) (by decide) (fun _ => trivial) _ (fun x hx μ3 M R hp3 hl3 hR => ?_) [] μ2 (n + 200 + 25) hm2.pen (by rw [rng_len]; omega) fun ys μ3 hl hy hm3 => ?_
  · exact draw_use (many := (regs : Int)) hp3 (by omega) (by omega) fun d μ4 d1 d2 hm4 => hR _ _ ⟨d, rfl, d1, by omega⟩ hm4
  rw [rng_len] at hl hm3
  obtain ⟨rs, e1, e2, e3⟩ := ints_lift hy
  subst e1
  refine .inl ⟨_, _, rfl, rfl, ?_⟩
  refine ⟨by show 2 ≤ _; omega, ?_⟩
  refine ⟨by show 1 ≤ _; omega, .inl ?_⟩
  refine ⟨_, _, rfl, rfl, by rw [List.length_append, hL, st_len, hsl]; simp; omega, .inr ?_⟩
  have hs3 := PSt.new (L := (A.map St.t) ++ .non :: ((B ++ ss) ++ [St.back rs]).map St.t) (hs2.step hkl hm3).mv
  have e4 : (((A.map St.t) ++ .non :: B.map St.t) ++ ss.map St.t) ++ [Vl.tup [.str "back", .tup (rs.map .int)]] = (A.map St.t) ++ .non :: ((B ++ ss) ++ [St.back rs]).map St.t := by
    rw [List.map_append, List.map_append]
    simp [List.append_assoc]
    rfl
  refine mem_eq (fun m => t__law_procedure_12 (spEnds Q) (rhoP k w handed back regs cs (some (.ref μ3.length)) (some (.int A.length)) (some (.int ((A.length + 1 : Nat) : Int))) o9 o10 o11 o12 (some (.int (((A.map St.t) ++ .non :: B.map St.t).length)))) m) (congrArg (fun l => μ3 ++ [Mo.lst l]) e4) ?_
  rw [hL]
  refine p_12 (A := A) (B := B ++ ss) (no := A.length + B.length + 1) hr hk hn q (hs3.le (by omega)) hA (fun s hm => ?_) (by rw [List.length_append]; omega) hlA (by rw [List.length_append]; omega)
  rcases List.mem_append.mp hm with hm | hm
  · rcases List.mem_append.mp hm with hm | hm
    · exact hB s hm
    · exact SetOk.g (hss s hm).1 (hss s hm).2
  · rw [List.mem_singleton.mp hm]
    exact ⟨by omega, e2⟩
end
end K65

set_option maxHeartbeats 2000000
/-! ZH: a procedure, drawn: from its beginning. -/
namespace K65
open PySem PySem.Spec L2 StX PyProof.Rows DL
section
variable {k : Nat} {n : Int} {w : Str} {handed back regs : Nat} {cs : List (Nat × Nat × Nat)} {μ : Mu} {Q : DK}
abbrev LB (A B : List St) : List Vl := (A.map St.t) ++ .non :: B.map St.t
theorem lb_len {A B : List St} : (LB A B).length = A.length + B.length + 1 := by simp [LB]; omega
theorem lb_add {A B C : List St} : LB A B ++ C.map St.t = LB A (B ++ C) := by simp [LB]
theorem lb_one {A B : List St} {s : St} : LB A B ++ [s.t] = LB A (B ++ [s]) := by simp [LB]
theorem g_sets {regs back pl : Nat} {ss : List St} (h : ∀ s ∈ ss, SetOk regs s ∧ isSet s) : ∀ s ∈ ss, StG cs regs back pl s := fun s hm => SetOk.g (h s hm).1 (h s hm).2
theorem g_app {regs back pl : Nat} {B C : List St} (h : ∀ s ∈ B, StG cs regs back pl s) (h2 : ∀ s ∈ C, StG cs regs back pl s) : ∀ s ∈ B ++ C, StG cs regs back pl s := fun s hm => (List.mem_append.mp hm).elim (h s) (h2 s)
theorem g_one {regs back pl : Nat} {t : St} (h : StG cs regs back pl t) : ∀ s ∈ [t], StG cs regs back pl s := fun s hm => by rw [List.mem_singleton.mp hm]; exact h
abbrev QP (k : Nat) (n : Int) (w : Str) (handed back regs : Nat) (cs : List (Nat × Nat × Nat)) (μ : Mu) (Q : DK) : Prop := ∀ (p : Pr) μ', p.word = w → p.handed = handed → p.back = back → p.regs = regs → PrX cs p → Mv k (n + 300) μ μ' → Q p.v μ'
theorem p_8 (hr : 1 ≤ regs ∧ regs ≤ 3) (hb : back ≤ 3) (hk : PenI k n μ) (hn : n + 2000 ≤ 900000) (q : QP k n w handed back regs cs μ Q)
    {μ1 : Mu} {r : Nat} {A B : List St} {o9 o10 o11 o12 o13 : Option Vl} (hs : PSt k (n + 140) μ μ1 r (LB A B)) (hA : ∀ s ∈ A, StG cs regs back A.length s) (hB : ∀ s ∈ B, StG cs regs back A.length s)
    (hlA : A.length ≤ 10) (hlB : B.length ≤ 5) : t__law_procedure_8 (spEnds Q) (rhoP k w handed back regs cs (some (.ref r)) (some (.int A.length)) (some (.int ((A.length + 1 : Nat) : Int))) o9 o10 o11 o12 o13) μ1 := by
  have hsl := sizeLine_eq
  have hkl := hk.lt
  refine ⟨k, n + 140, regs, 1, rfl, hr.1, hr.2, by omega, hs.mv.pen, by omega, fun ss r2 μ2 hss hl2 hm2 hr2 hw2 => ?_⟩
  have hs2 := hs.step hkl hm2
  refine ⟨_, _, mview_of hs2.at_, mview_of hw2, by rw [lb_len, st_len, hsl]; omega, .inr ?_⟩
  have hs3 := PSt.new (L := LB A (B ++ ss)) hs2.mv
  refine mem_eq (fun m => t__law_procedure_9 (spEnds Q) (rhoP k w handed back regs cs (some (.ref μ2.length)) (some (.int A.length)) (some (.int ((A.length + 1 : Nat) : Int))) o9 o10 o11 o12 o13) m) (congrArg (fun l => μ2 ++ [Mo.lst l]) lb_add) ?_
  have hB2 := g_app hB (g_sets (cs := cs) (back := back) (pl := A.length) hss)
  refine ⟨by rw [lv_ref hs3.at_]; rfl, ?_⟩
  refine draw_use (many := (3 : Int)) hs3.mv.pen (by omega) (by decide) fun d μ4 d1 d2 hm4 => ?_
  have hs4 := hs3.step hkl hm4
  refine dec_splitE (p := d = 0) (fun _ => ?_) (fun _ => ?_)
  · refine ⟨by show 2 ≤ _; omega, ?_⟩
    refine ⟨_, _, _, rfl, rfl, hs4.at_, by rw [lb_len, List.length_append, hsl]; omega, ?_⟩
    refine mem_eq (fun m => t__law_procedure_10 (spEnds Q) (rhoP k w handed back regs cs (some (.ref μ2.length)) (some (.int A.length)) (some (.int ((A.length + 1 : Nat) : Int))) o9 o10 o11 o12 o13) m) (congrArg (fun l => μ4.set μ2.length (Mo.lst l)) (lb_one (s := St.go A.length))) ?_
    exact p_10 hr hb hk hn q ((hs4.put hkl).le (by omega)) hA (g_app hB2 (g_one rfl)) hlA (by simp; omega)
  · refine ⟨(back : Int), rfl, by omega, by omega, ?_⟩
    refine lc_pen (z := 50) (k := k) (c := 1) (fun y => ∃ d : Int, y = .int d ∧ (0 ≤ d ∧ d < regs)) (by decide) (fun _ => trivial) _ (fun x hx μ3 M R hp3 hl3 hR => ?_) [] μ4 (n + 140 + 25 + 1) hm4.pen (by rw [rng_len]; omega) fun ys μ5 hl hy hm5 => ?_
    · exact draw_use (many := (regs : Int)) hp3 (by omega) (by omega) fun d μ4 d1 d2 hm4 => hR _ _ ⟨d, rfl, d1, by omega⟩ hm4
    rw [rng_len] at hl hm5
    obtain ⟨rs, e1, e2, e3⟩ := ints_lift hy
    subst e1
    have hs5 := hs4.step hkl hm5
    refine .inl ⟨_, _, rfl, rfl, ?_⟩
    refine ⟨by show 2 ≤ _; omega, ?_⟩
    refine ⟨_, _, _, rfl, rfl, hs5.at_, by rw [lb_len, List.length_append, hsl]; omega, ?_⟩
    refine mem_eq (fun m => t__law_procedure_10 (spEnds Q) (rhoP k w handed back regs cs (some (.ref μ2.length)) (some (.int A.length)) (some (.int ((A.length + 1 : Nat) : Int))) o9 o10 o11 o12 o13) m) (congrArg (fun l => μ5.set μ2.length (Mo.lst l)) (lb_one (s := St.back rs))) ?_
    exact p_10 hr hb hk hn q ((hs5.put hkl).le (by omega)) hA (g_app hB2 (g_one ⟨by omega, e2⟩)) hlA (by simp; omega)
theorem ne_nil {xs : List Vl} {μ : Mu} {Q : DK} (hp : plainVs xs = true) (hd : depVs xs ≤ 60) (h1 : xs = [] → Q (.bl false) μ) (h2 : xs ≠ [] → Q (.bl true) μ) : dEqN true (.lst xs) (.lst []) μ Q := by
  cases xs with
  | nil => exact eq_lstI (r := []) (s := []) (h1 rfl)
  | cons x xs =>
    refine datEq_plain (neg := true) (x := .lst (x :: xs)) (y := .lst []) (by rw [plainV]; exact hp) rfl ?_ (by decide) ?_
    · rw [depV]; omega
    · have e : (PyData.eqv (dataV (.lst (x :: xs))) (dataV (.lst [])) != true) = true := by rw [dataV, dataV, dataVs, dataVs]; rfl
      rw [e]
      exact h2 (by simp)
theorem cal_plain : ∀ cs : List (Nat × Nat × Nat), plainVs (cs.map calV) = true ∧ depVs (cs.map calV) ≤ 1
  | [] => ⟨rfl, by decide⟩
  | c :: cs => by
    obtain ⟨h1, h2⟩ := cal_plain cs
    refine ⟨?_, ?_⟩
    · rw [List.map_cons, plainVs, h1]; rfl
    · rw [List.map_cons, depVs]
      have : depV (calV c) = 1 := rfl
      omega
theorem p_7 (hr : 1 ≤ regs ∧ regs ≤ 3) (hb : back ≤ 3) (hcs : ∀ c ∈ cs, c.2.1 ≤ 3 ∧ c.2.2 ≤ regs) (hcl : cs.length ≤ 4) (hk : PenI k n μ) (hn : n + 2000 ≤ 900000) (q : QP k n w handed back regs cs μ Q)
    {μ1 : Mu} {r : Nat} {A B : List St} {o9 o10 o11 o12 o13 : Option Vl} (hs : PSt k (n + 100) μ μ1 r (LB A B)) (hA : ∀ s ∈ A, StG cs regs back A.length s) (hB : ∀ s ∈ B, StG cs regs back A.length s)
    (hlA : A.length ≤ 10) (hlB : B.length ≤ 4) : t__law_procedure_7 (spEnds Q) (rhoP k w handed back regs cs (some (.ref r)) (some (.int A.length)) (some (.int ((A.length + 1 : Nat) : Int))) o9 o10 o11 o12 o13) μ1 := by
  have hsl := sizeLine_eq
  have hkl := hk.lt
  obtain ⟨hp, hd⟩ := cal_plain cs
  have skip : t__law_procedure_8 (spEnds Q) (rhoP k w handed back regs cs (some (.ref r)) (some (.int A.length)) (some (.int ((A.length + 1 : Nat) : Int))) o9 o10 o11 o12 o13) μ1 := p_8 hr hb hk hn q (hs.le (by omega)) hA hB hlA (by omega)
  refine ⟨by show 0 ≤ _; omega, .inl ?_⟩
  refine ne_nil hp (by omega) (fun _ => skip) (fun hne => ?_)
  have hne' : 0 < cs.length := by
    cases cs with
    | nil => exact absurd rfl hne
    | cons c r => simp
  refine draw_use (many := (4 : Int)) hs.mv.pen (by omega) (by decide) fun d μ2 d1 d2 hm2 => ?_
  have hs2 := hs.step hkl hm2
  refine dec_split (p := (0 : Int) < d) (fun _ => ?_) (fun _ => p_8 hr hb hk hn q (hs2.le (by omega)) hA hB hlA (by omega))
  refine pick_use (x := .lst (cs.map calV)) hs2.mv.pen (by omega) (fun _ => rfl) (by rw [List.length_map]; exact hne') (by rw [List.length_map]; omega) fun v μ3 hv hm3 => ?_
  obtain ⟨c, hc, ev⟩ := List.mem_map.mp hv
  subst ev
  obtain ⟨hc1, hc2⟩ := hcs c hc
  have hs3 := hs2.step hkl hm3
  refine ⟨rfl, rfl, ?_⟩
  refine ⟨(regs : Int), rfl, rg_ok (by omega), .inl ?_⟩
  refine mixed_use (regs := regs) hs3.mv.pen (by omega) (by omega) fun ns r4 μ4 hpm hm4 hrl hw4 => ?_
  have hs4 := hs3.step hkl hm4
  refine ⟨_, lv_ref hw4, .inl ?_⟩
  rw [cut_head (by omega), ← List.map_take]
  refine ⟨_, _, rfl, rfl, ?_⟩
  refine ⟨by rw [lv_ref hs4.at_]; rfl, ?_⟩
  refine ⟨(c.2.1 : Int), rfl, by omega, by omega, ?_⟩
  refine lc_pen (z := 50) (k := k) (c := 1) (fun y => ∃ d : Int, y = .int d ∧ (0 ≤ d ∧ d < regs)) (by decide) (fun _ => trivial) _ (fun x hx μ3 M R hp3 hl3 hR => ?_) [] μ4 (n + 100 + 1 + 1 + regs) hm4.pen (by rw [rng_len]; omega) fun ys μ5 hl hy hm5 => ?_
  · exact draw_use (many := (regs : Int)) hp3 (by omega) (by omega) fun d μ4 d1 d2 hm4 => hR _ _ ⟨d, rfl, d1, by omega⟩ hm4
  rw [rng_len] at hl hm5
  obtain ⟨rs, e1, e2, e3⟩ := ints_lift hy
  subst e1
  have hs5 := hs4.step hkl hm5
  refine .inl ⟨_, _, rfl, rfl, ?_⟩
  refine ⟨by show 4 ≤ _; omega, ?_⟩
  refine ⟨_, _, _, rfl, rfl, hs5.at_, by rw [lb_len, hsl]; omega, ?_⟩
  have en : (c.2.2 : Int).toNat = c.2.2 := by omega
  refine mem_eq (fun m => t__law_procedure_8 (spEnds Q) (rhoP k w handed back regs cs (some (.ref r)) (some (.int A.length)) (some (.int ((A.length + 1 : Nat) : Int))) (some (.int c.1)) (some (.int c.2.1)) (some (.int c.2.2)) (some (iT (ns.take (c.2.2 : Int).toNat))) o13) m) (congrArg (fun l => μ5.set r (Mo.lst l)) (lb_one (s := St.call c.1 rs (ns.take (c.2.2 : Int).toNat)))) ?_
  refine p_8 hr hb hk hn q ((hs5.put hkl).le (by omega)) hA (g_app hB (g_one ?_)) hlA (by simp; omega)
  refine ⟨c, hc, rfl, by omega, ?_, e2, fun x hx => rngI_in x (hpm.mem_iff.mp (List.mem_of_mem_take hx)), (hpm.nodup_iff.mpr (up_nodup rngI_up)).sublist (List.take_sublist _ _)⟩
  rw [List.length_take, hpm.length_eq, rngI_len]; omega
theorem p_3 (hr : 1 ≤ regs ∧ regs ≤ 3) (hb : back ≤ 3) (hcs : ∀ c ∈ cs, c.2.1 ≤ 3 ∧ c.2.2 ≤ regs) (hcl : cs.length ≤ 4) (hk : PenI k n μ) (hn : n + 2000 ≤ 900000) (q : QP k n w handed back regs cs μ Q)
    {μ1 : Mu} {r : Nat} {A : List St} {o7 o8 o9 o10 o11 o12 o13 : Option Vl} (hs : PSt k (n + 60) μ μ1 r (A.map St.t)) (hA : ∀ s ∈ A, StG cs regs back A.length s)
    (hlA : A.length ≤ 10) : t__law_procedure_3 (spEnds Q) (rhoP k w handed back regs cs (some (.ref r)) o7 o8 o9 o10 o11 o12 o13) μ1 := by
  have hsl := sizeLine_eq
  have hkl := hk.lt
  refine ⟨_, _, rfl, sv_ref hs.at_, ?_⟩
  refine ⟨by rw [lv_ref hs.at_]; rfl, ?_⟩
  refine ⟨_, _, _, rfl, rfl, hs.at_, by rw [st_len, hsl]; omega, ?_⟩
  have hs2 := hs.put (L' := LB A []) hkl
  refine ⟨_, _, rfl, sv_ref hs2.at_, ?_⟩
  refine ⟨k, n + 60, regs, 2, rfl, hr.1, hr.2, by omega, hs2.mv.pen, by omega, fun ss r2 μ2 hss hl2 hm2 hr2 hw2 => ?_⟩
  have hs3 := hs2.step hkl hm2
  refine ⟨_, _, mview_of hs3.at_, mview_of hw2, by rw [lb_len, st_len, hsl]; simp; omega, .inr ?_⟩
  have hs4 := PSt.new (L := LB A ([] ++ ss)) hs3.mv
  have e7 : ((LB A []).length : Int) = ((A.length + 1 : Nat) : Int) := by rw [lb_len]; rfl
  have e8 : (((A.map St.t).length : Nat) : Int) = (A.length : Int) := by rw [st_len]
  have z := p_7 hr hb hcs hcl hk hn q (hs4.le (by omega)) hA (g_app (fun s h => by cases h) (g_sets (cs := cs) (back := back) (pl := A.length) hss)) hlA (by simp; omega) (o9 := o9) (o10 := o10) (o11 := o11) (o12 := o12) (o13 := o13)
  rw [← e7, ← e8] at z
  exact mem_eq (fun m => t__law_procedure_7 (spEnds Q) (rhoP k w handed back regs cs (some (.ref μ2.length)) (some (.int ((A.map St.t).length : Nat))) (some (.int ((LB A []).length : Nat))) o9 o10 o11 o12 o13) m) (congrArg (fun l => μ2 ++ [Mo.lst l]) lb_add) z
end
theorem r__law_procedure : ∀ xs μ Q, c__law_procedure xs μ Q → b__law_procedure (spEnds Q) (startD ["pen", "word", "handed", "back", "registers", "callees", "steps", "at", "yes", "number", "its_handed", "its_back", "puts", "no", "turn"] xs) μ := by
  intro xs μ Q ⟨⟨k, n, w, handed, back, regs, cs, e, hr1, hr3, hb, hcs, hcl, hk, hn, q⟩⟩
  subst e
  have hsl := sizeLine_eq
  have hkl := hk.lt
  refine ⟨k, n, regs, 2, rfl, hr1, hr3, by omega, hk, by omega, fun ss r μ2 hss hl2 hm2 hr2 hw2 => ?_⟩
  have hs : PSt k (n + 25) μ μ2 r (ss.map St.t) := ⟨hm2, hr2, hw2⟩
  refine draw_use (many := (3 : Int)) hs.mv.pen (by omega) (by decide) fun d μ3 d1 d2 hm3 => ?_
  have hs3 := hs.step hkl hm3
  refine dec_splitE (p := d = 0) (fun _ => ?_) (fun _ => p_3 ⟨hr1, hr3⟩ hb hcs hcl hk hn q (hs3.le (by omega)) (g_sets hss) (by omega))
  refine ⟨by rw [lv_ref hs3.at_]; rfl, ?_⟩
  refine ⟨by show 2 ≤ _; omega, .inl ?_⟩
  refine pickS_use ["d", "e"] (by decide +kernel) hs3.mv.pen (by omega) (by decide) (by decide) fun wt μ4 hw hm4 => ?_
  have hs4 := hs3.step hkl hm4
  refine ⟨k, n + 25 + 1 + 1, regs, rfl, hr1, hr3, hs4.mv.pen, by omega, fun rs μ5 hl hin hm5 => ?_⟩
  have hs5 := hs4.step hkl hm5
  refine ⟨by show 3 ≤ _; omega, ?_⟩
  refine ⟨_, _, _, rfl, rfl, hs5.at_, by rw [st_len, hsl]; omega, ?_⟩
  have e1 : ss.map St.t ++ [(St.deed wt rs).t] = (ss ++ [St.deed wt rs]).map St.t := by simp
  refine mem_eq (fun m => t__law_procedure_3 (spEnds Q) (rhoP k w handed back regs cs (some (.ref r)) none none none none none none none) m) (congrArg (fun l => μ5.set r (Mo.lst l)) e1) ?_
  refine p_3 ⟨hr1, hr3⟩ hb hcs hcl hk hn q ((hs5.put hkl).le (by omega)) (g_app (g_sets hss) (g_one ?_)) (by simp; omega)
  exact fun ps p ep => ⟨hw, hl, by rw [ep]; exact hin⟩
end K65

set_option maxHeartbeats 2000000
/-! ZI: a code, drawn. -/
namespace K65
open PySem PySem.Spec L2 StX PyProof.Rows DL
def shV (s : Nat × Nat) : Vl := .tup [.int s.1, .int s.2]
def nI (z : Nat) : Vl := .int z
def cal (sh : List (Nat × Nat)) (j : Nat) : Nat × Nat × Nat := (j, (sh.getD j (0, 0)).1, (sh.getD j (0, 0)).2)
def cals (sh : List (Nat × Nat)) : List (Nat × Nat × Nat) := (List.range (sh.length - 1)).map fun i => cal sh (1 + i)
theorem PrX.mono {cs cs' : List (Nat × Nat × Nat)} {p : Pr} (h : PrX cs p) (hs : ∀ c ∈ cs, c ∈ cs') : PrX cs' p := by
  refine ⟨h.steps, fun s hm => ?_, h.last⟩
  have := h.ok s hm
  cases s with
  | call j a b =>
    obtain ⟨c, hc, r⟩ := this
    exact ⟨c, hs c hc, r⟩
  | _ => exact this
/-- the procedures so far -/
structure Sofar (sh : List (Nat × Nat)) (sz : List Nat) (F : List Pr) : Prop where
  ok : ∀ (j : Nat) (p : Pr), F[j]? = some p → p.word ∈ names ∧ p.handed = (sh.getD j (0, 0)).1 ∧ p.back = (sh.getD j (0, 0)).2 ∧ p.regs = sz.getD j 0 ∧ PrX (cals sh) p
structure ShOk (sh : List (Nat × Nat)) : Prop where
  len : 1 ≤ sh.length ∧ sh.length ≤ 3
  le : ∀ s ∈ sh, s.1 ≤ 3 ∧ s.2 ≤ 3
structure SzOk (sh : List (Nat × Nat)) (sz : List Nat) : Prop where
  len : sz.length = sh.length
  ok : ∀ j, j < sh.length → 1 ≤ sz.getD j 0 ∧ sz.getD j 0 ≤ 3 ∧ (sh.getD j (0, 0)).1 ≤ sz.getD j 0 ∧ (sh.getD j (0, 0)).2 ≤ sz.getD j 0
theorem getD_of {α : Type} {xs : List α} {i : Nat} {d : α} (h : i < xs.length) : xs[i]? = some (xs.getD i d) := by
  rw [List.getD_eq_getElem?_getD, List.getElem?_eq_getElem h]; rfl
theorem good_of {sh : List (Nat × Nat)} {sz : List Nat} {F : List Pr} (h1 : ShOk sh) (h2 : SzOk sh sz) (hl : F.length = sh.length) (h : Sofar sh sz F) : Good F := by
  refine ⟨by have := h1.len; omega, fun p hp => ?_⟩
  obtain ⟨j, hj, e⟩ := List.getElem_of_mem hp
  have hj' : F[j]? = some p := by rw [List.getElem?_eq_getElem hj, e]
  obtain ⟨a1, a2, a3, a4, a5⟩ := h.ok j p hj'
  obtain ⟨b1, b2, b3, b4⟩ := h2.ok j (by omega)
  have b5 := h1.le _ (List.mem_of_getElem? (getD_of (xs := sh) (i := j) (d := (0, 0)) (by omega)))
  refine ⟨a1, by omega, by omega, by omega, a5.steps, fun s hs => ?_, a5.last⟩
  have := a5.ok s hs
  cases s with
  | call i hs qs =>
    obtain ⟨c, hc, e1, e2, e3, e4, e5, e6⟩ := this
    obtain ⟨i', hi', e7⟩ := List.mem_map.mp hc
    have hi2 := List.mem_range.mp hi'
    subst e7
    have e8 : 1 + i' = i := e1
    obtain ⟨p', hp'⟩ : ∃ p', F[i]? = some p' := ⟨F[i]'(by omega), List.getElem?_eq_getElem _⟩
    obtain ⟨_, c2, c3, _, _⟩ := h.ok i p' hp'
    refine ⟨by omega, p', hp', ?_, ?_, e4, e5, e6⟩
    · rw [c2, ← e8]; exact e2
    · rw [c3, ← e8]; exact e3
  | set a b c => exact this
  | go a => exact this
  | test a b c d => exact this
  | deed a b => exact this
  | back a => exact this
def p__law_plain : Ct := fun xs μ Q => ∃ (k : Nat) (n : Int), xs = [.ref k, .int 3] ∧ PenI k n μ ∧ n + 5000 ≤ 900000 ∧ ∀ ps μ', Good ps → ps.length ≤ 3 → Mv k (n + 1500) μ μ' → Q (codeV ps) μ'
def c__law_plain : Ct := Shut p__law_plain
def s__law_plain_1 : DS :=
    (dAsg (dOp dAdd (dC (.int 1)) (dCall c__law_draw (dCons (dVar 0) (dCons (dVar 1) dNil)))) (dgName 2))
def s__law_plain_2 : DS :=
    (dAsg (dLc (dRange1 (dCons (dVar 2) dNil)) (dgName 7) dYes (dTup (dCons (dCall c__law_draw (dCons (dVar 0) (dCons (dC (.int 3)) dNil))) (dCons (dCall c__law_pick (dCons (dVar 0) (dCons (dLst (dCons (dC (.int 1)) (dCons (dC (.int 1)) (dCons (dC (.int 0)) (dCons (dC (.int 2)) dNil))))) dNil))) dNil))) [7]) (dgName 3))
def s__law_plain_3 : DS :=
    (dIf (dTest (dOp dEq (dCall c__law_draw (dCons (dVar 0) (dCons (dC (.int 6)) dNil))) (dC (.int 0)))) (dSeq (dAsg (dLc (dRange1 (dCons (dCB fMin2 (dCons (dVar 2) (dCons (dC (.int 2)) dNil))) dNil)) (dgName 7) dYes (dTup (dCons (dCall c__law_pick (dCons (dVar 0) (dCons (dLst (dCons (dC (.int 2)) (dCons (dC (.int 3)) (dCons (dC (.int 3)) dNil)))) dNil))) (dCons (dCall c__law_pick (dCons (dVar 0) (dCons (dLst (dCons (dC (.int 1)) (dCons (dC (.int 2)) (dCons (dC (.int 3)) (dCons (dC (.int 3)) dNil))))) dNil))) dNil))) [7]) (dgName 3))
    (dAsg (dCB fLen (dCons (dVar 3) dNil)) (dgName 2))) dNext)
def s__law_plain_4 : DS :=
    (dAsg (dLc (dIter (dVar 3)) (dgTup 2 (dgCons (dgName 9) (dgCons (dgName 10) dgNil))) dYes (dCB fMin2 (dCons (dC (.int 3)) (dCons (dOp dAdd (dCB fMax3 (dCons (dC (.int 1)) (dCons (dVar 9) (dCons (dVar 10) dNil)))) (dCall c__law_draw (dCons (dVar 0) (dCons (dC (.int 2)) dNil)))) dNil))) [9, 10]) (dgName 4))
def s__law_plain_5 : DS :=
    (dAsg (dLc (dRange2 (dCons (dC (.int 1)) (dCons (dVar 2) dNil))) (dgName 7) dYes (dTup (dCons (dVar 7) (dCons (dOp dIx (dOp dIx (dVar 3) (dVar 7)) (dC (.int 0))) (dCons (dOp dIx (dOp dIx (dVar 3) (dVar 7)) (dC (.int 1))) dNil)))) [7]) (dgName 5))
def s__law_plain_6 : DS :=
    (dAsg (dLst dNil) (dgName 6))
def s__law_plain_7 : DS :=
    (dFor (dRange1 (dCons (dVar 2) dNil)) (dgName 7) (dSeq (dAsg (dLc (dIter (dVar 5)) (dgName 11) (dTest (dOp dLe (dOp dIx (dVar 11) (dC (.int 2))) (dOp dIx (dVar 4) (dVar 7)))) (dVar 11) [11]) (dgName 8))
    (dDrop (dBM mAppend (dVar 6) (dCons (dCall c__law_procedure (dCons (dVar 0) (dCons (dOp dIx (dLst (dCons (dC (.str "main")) (dCons (dC (.str "f")) (dCons (dC (.str "g")) (dCons (dC (.str "h")) dNil))))) (dVar 7)) (dCons (dOp dIx (dOp dIx (dVar 3) (dVar 7)) (dC (.int 0))) (dCons (dOp dIx (dOp dIx (dVar 3) (dVar 7)) (dC (.int 1))) (dCons (dOp dIx (dVar 4) (dVar 7)) (dCons (dVar 8) dNil))))))) dNil)))))
def s__law_plain_8 : DS :=
    (dRet (dCB fTuple (dCons (dVar 6) dNil)))
def t__law_plain_8 : DS := s__law_plain_8
def t__law_plain_7 : DS := dSeq (s__law_plain_7) (t__law_plain_8)
def t__law_plain_6 : DS := dSeq (s__law_plain_6) (t__law_plain_7)
def t__law_plain_5 : DS := dSeq (s__law_plain_5) (t__law_plain_6)
def t__law_plain_4 : DS := dSeq (s__law_plain_4) (t__law_plain_5)
def t__law_plain_3 : DS := dSeq (s__law_plain_3) (t__law_plain_4)
def t__law_plain_2 : DS := dSeq (s__law_plain_2) (t__law_plain_3)
def t__law_plain_1 : DS := dSeq (s__law_plain_1) (t__law_plain_2)
def b__law_plain : DS := t__law_plain_1
theorem l__law_plain : ∀ xs μ Q, c__law_plain xs μ Q → xs.length = 2 := by
  intro xs μ Q ⟨⟨_, _, e, _⟩⟩; subst e; rfl
theorem proc_use {k : Nat} {n : Int} {w : Str} {handed back regs : Nat} {cs : List (Nat × Nat × Nat)} {μ : Mu} {Q : DK} (h1 : 1 ≤ regs) (h2 : regs ≤ 3) (h3 : back ≤ 3) (h4 : ∀ c ∈ cs, c.2.1 ≤ 3 ∧ c.2.2 ≤ regs) (h5 : cs.length ≤ 4) (hk : PenI k n μ) (hn : n + 2000 ≤ 900000)
    (q : ∀ (p : Pr) μ', p.word = w → p.handed = handed → p.back = back → p.regs = regs → PrX cs p → Mv k (n + 300) μ μ' → Q p.v μ') : c__law_procedure [.ref k, .str w, .int handed, .int back, .int regs, .lst (cs.map calV)] μ Q :=
  ⟨⟨k, n, w, handed, back, regs, cs, rfl, h1, h2, h3, h4, h5, hk, hn, q⟩⟩
theorem word4 {i : Nat} (h : i < 4) : ∃ w, ([.str "main", .str "f", .str "g", .str "h"] : List Vl)[i]? = some (.str w) ∧ w ∈ names := by
  match i, h with
  | 0, _ => exact ⟨"main", rfl, by decide +kernel⟩
  | 1, _ => exact ⟨"f", rfl, by decide +kernel⟩
  | 2, _ => exact ⟨"g", rfl, by decide +kernel⟩
  | 3, _ => exact ⟨"h", rfl, by decide +kernel⟩
theorem cals_le {sh : List (Nat × Nat)} (h : ShOk sh) : (cals sh).length ≤ 2 ∧ ∀ c ∈ cals sh, c.2.1 ≤ 3 := by
  refine ⟨by unfold cals; rw [List.length_map, List.length_range]; have := h.len; omega, fun c hc => ?_⟩
  obtain ⟨i, hi, e⟩ := List.mem_map.mp hc
  have := List.mem_range.mp hi
  subst e
  exact (h.le _ (List.mem_of_getElem? (getD_of (xs := sh) (i := 1 + i) (d := (0, 0)) (by omega)))).1
theorem sh_at {sh : List (Nat × Nat)} {i : Nat} (h : i < sh.length) : L2.atI (sh.map shV) (i : Int) = some (shV (sh.getD i (0, 0))) := atI_nat (by rw [List.getElem?_map, getD_of h]; rfl)
theorem sz_at {sz : List Nat} {i : Nat} (h : i < sz.length) : L2.atI (sz.map nI) (i : Int) = some (nI (sz.getD i 0)) := atI_nat (by rw [List.getElem?_map, getD_of h]; rfl)
section
variable {k : Nat} {n : Int} {μ : Mu} {Q : DK}
abbrev rhoL (k : Nat) (o2 o3 o4 o5 o6 o7 o8 : Option Vl) : Rho := [some (.ref k), some (.int 3), o2, o3, o4, o5, o6, o7, o8, none, none, none]
theorem q_7 {sh : List (Nat × Nat)} {sz : List Nat} (h1 : ShOk sh) (h2 : SzOk sh sz) (hk : PenI k n μ) (hn : n + 5000 ≤ 900000) (q : ∀ ps μ', Good ps → ps.length ≤ 3 → Mv k (n + 1500) μ μ' → Q (codeV ps) μ')
    {μ1 : Mu} {r : Nat} (hs : PSt k (n + 200) μ μ1 r []) : t__law_plain_7 (spEnds Q) (rhoL k (some (.int sh.length)) (some (.lst (sh.map shV))) (some (.lst (sz.map nI))) (some (.lst ((cals sh).map calV))) (some (.ref r)) none none) μ1 := by
  have hsl := sizeLine_eq
  have hkl := hk.lt
  have hlen := h1.len
  refine ⟨(sh.length : Int), rfl, by omega, by omega, ?_⟩
  refine DL.forD_inv (fun rest ρ μ2 => ∃ (F : List Pr) (o7 o8 : Option Vl), (rngD 0 ((sh.length : Int)).toNat).drop F.length = rest ∧ F.length ≤ sh.length ∧ ρ = rhoL k (some (.int sh.length)) (some (.lst (sh.map shV))) (some (.lst (sz.map nI))) (some (.lst ((cals sh).map calV))) (some (.ref r)) o7 o8 ∧ PSt k (n + 200 + 300 * F.length) μ μ2 r (F.map Pr.v) ∧ Sofar sh sz F)
    (fun _ _ _ _ => trivial) (fun ρ μ2 h => ?_) (fun x rest ρ μ2 h D hD hrt _ => ?_) _ _ _ ?_
  · obtain ⟨F, o7, o8, e0, hl, e1, hs2, hF⟩ := h
    subst e1
    have hl2 : F.length = sh.length := by
      have := congrArg List.length e0
      rw [List.length_drop, rng_len] at this
      simp at this; omega
    refine ⟨_, _, rfl, sv_ref hs2.at_, ?_⟩
    exact q F μ2 (good_of h1 h2 hl2 hF) (by omega) (hs2.mv.le (by omega))
  · obtain ⟨F, o7, o8, e0, hl, e1, hs2, hF⟩ := h
    subst e1
    obtain ⟨g1, g2, g3⟩ := drop_cons e0
    rw [rng_len] at g3
    rw [show ((sh.length : Int)).toNat = sh.length by omega] at g1
    have ex : x = .int (F.length : Int) := by
      rw [rngD_get g3] at g1
      rw [← Option.some.inj g1, Int.zero_add]
    subst ex
    obtain ⟨c1, c2⟩ := cals_le h1
    obtain ⟨z1, z2, z3, z4⟩ := h2.ok F.length g3
    have b5 := h1.le _ (List.mem_of_getElem? (getD_of (xs := sh) (i := F.length) (d := (0, 0)) g3))
    refine ⟨_, rfl, ?_⟩
    refine DL.lc_filter (μ := μ2) trivial calV (fun c => decide ((c.2.2 : Int) ≤ ((sz.getD F.length 0 : Nat) : Int))) calV (cals sh) [] (fun c hc P R hR hP => ?_) ?_
    · refine ⟨_, .int c.2.2, rfl, rfl, ?_⟩
      refine ⟨_, nI (sz.getD F.length 0), rfl, sz_at (by rw [h2.len]; exact g3), ?_⟩
      exact dec_split (p := (c.2.2 : Int) ≤ ((sz.getD F.length 0 : Nat) : Int)) (fun h => hR (decide_eq_true h)) (fun h => hP (decide_eq_false h))
    refine .inl ?_
    refine ⟨by rw [lv_ref hs2.at_]; rfl, ?_⟩
    obtain ⟨w, hw, hwn⟩ := word4 (i := F.length) (by omega)
    refine ⟨by show 4 ≤ _; omega, .inl ?_⟩
    refine ⟨_, .str w, rfl, atI_nat hw, ?_⟩
    refine ⟨_, shV (sh.getD F.length (0, 0)), rfl, sh_at g3, _, .int ((sh.getD F.length (0, 0)).1), rfl, rfl, ?_⟩
    refine ⟨_, shV (sh.getD F.length (0, 0)), rfl, sh_at g3, _, .int ((sh.getD F.length (0, 0)).2), rfl, rfl, ?_⟩
    refine ⟨_, nI (sz.getD F.length 0), rfl, sz_at (by rw [h2.len]; exact g3), ?_⟩
    refine proc_use (n := n + 200 + 300 * F.length) (cs := (cals sh).filter fun c => decide ((c.2.2 : Int) ≤ ((sz.getD F.length 0 : Nat) : Int))) z1 z2 (by omega) (fun c hc => ?_) (Nat.le_trans (List.length_filter_le _ _) (by omega)) hs2.mv.pen (by omega) fun p μ3 p1 p2 p3 p4 p5 hm3 => ?_
    · obtain ⟨m1, m2⟩ := List.mem_filter.mp hc
      have := of_decide_eq_true m2
      exact ⟨c2 c m1, by omega⟩
    have hs3 := hs2.step hkl hm3
    refine ⟨_, _, _, rfl, rfl, hs3.at_, by rw [List.length_map, hsl]; omega, ?_⟩
    refine hD _ _ ⟨F ++ [p], _, _, by rw [List.length_append]; exact g2, by rw [List.length_append]; exact g3, rfl, ?_, ⟨fun j p' hj => ?_⟩⟩
    · have z := (hs3.put (L' := F.map Pr.v ++ [p.v]) hkl).le (M := n + 200 + 300 * ((F ++ [p]).length : Nat)) (by rw [List.length_append]; show _ ≤ n + 200 + 300 * (((F.length + 1 : Nat)) : Int); omega)
      rw [show (F ++ [p]).map Pr.v = F.map Pr.v ++ [p.v] by simp]
      exact z
    · by_cases hj2 : j < F.length
      · rw [List.getElem?_append_left hj2] at hj
        exact hF.ok j p' hj
      · have hj3 := (List.getElem?_eq_some_iff.mp hj).1
        rw [List.length_append] at hj3
        have ej : j = F.length := by simp at hj3; omega
        subst ej
        rw [List.getElem?_append_right (Nat.le_refl _), Nat.sub_self] at hj
        have e' : p = p' := by simpa using hj
        subst e'
        exact ⟨by rw [p1]; exact hwn, p2, p3, p4, p5.mono fun c hc => (List.mem_filter.mp hc).1⟩
  · exact ⟨[], _, _, rfl, Nat.zero_le _, rfl, by simpa using hs, ⟨fun j p h => by simp at h⟩⟩
theorem sz_of : ∀ {sh : List (Nat × Nat)} {ys : List Vl}, All2 (fun x y : Vl => ∃ (s : Nat × Nat) (z : Nat), x = shV s ∧ y = nI z ∧ 1 ≤ z ∧ z ≤ 3 ∧ s.1 ≤ z ∧ s.2 ≤ z) (sh.map shV) ys → ∃ sz : List Nat, ys = sz.map nI ∧ SzOk sh sz
  | [], _, .nil => ⟨[], rfl, rfl, fun j h => absurd h (by simp)⟩
  | s :: sh, _, .cons r t => by
    obtain ⟨s', z, e1, e2, h⟩ := r
    obtain ⟨sz, e3, h3⟩ := sz_of t
    have es : s = s' := by
      unfold shV at e1
      have := Vl.tup.inj e1
      simp at this
      exact Prod.ext (by have := this.1; omega) (by have := this.2; omega)
    subst es
    refine ⟨z :: sz, by rw [e2, e3]; rfl, by simp [h3.len], fun j hj => ?_⟩
    cases j with
    | zero => exact h
    | succ j => exact h3.ok j (by simpa using hj)
theorem q_4 {sh : List (Nat × Nat)} (h1 : ShOk sh) (hk : PenI k n μ) (hn : n + 5000 ≤ 900000) (q : ∀ ps μ', Good ps → ps.length ≤ 3 → Mv k (n + 1500) μ μ' → Q (codeV ps) μ')
    {μ1 : Mu} (hm : Mv k (n + 100) μ μ1) : t__law_plain_4 (spEnds Q) (rhoL k (some (.int sh.length)) (some (.lst (sh.map shV))) none none none none none) μ1 := by
  have hsl := sizeLine_eq
  have hlen := h1.len
  have hlm : ((sh.map shV).length : Int) ≤ 3 := by rw [List.length_map]; omega
  refine ⟨_, rfl, ?_⟩
  refine lc_penR (z := 50) (k := k) (c := 1) (fun x y => ∃ (s : Nat × Nat) (z : Nat), x = shV s ∧ y = nI z ∧ 1 ≤ z ∧ z ≤ 3 ∧ s.1 ≤ z ∧ s.2 ≤ z) (by decide) (fun _ => trivial) _ (fun x hx μ3 M R hp3 hl3 hR => ?_) [] μ1 (n + 100) hm.pen (by omega) fun ys μ3 ha hm3 => ?_
  · obtain ⟨s, hs, e⟩ := List.mem_map.mp hx
    subst e
    have hle := h1.le s hs
    refine ⟨rfl, rfl, ?_⟩
    refine draw_use (many := (2 : Int)) hp3 (by omega) (by decide) fun d μ4 d1 d2 hm4 => ?_
    show R (.int (if mx2 (mx2 1 s.1) s.2 + d < 3 then mx2 (mx2 1 s.1) s.2 + d else 3)) μ4
    obtain ⟨z, hz⟩ : ∃ z : Nat, (if mx2 (mx2 1 s.1) s.2 + d < 3 then mx2 (mx2 1 s.1) s.2 + d else 3) = (z : Int) ∧ 1 ≤ z ∧ z ≤ 3 ∧ s.1 ≤ z ∧ s.2 ≤ z := by
      refine ⟨(if mx2 (mx2 1 s.1) s.2 + d < 3 then mx2 (mx2 1 s.1) s.2 + d else 3).toNat, ?_⟩
      have m1 : ∀ a b : Int, a ≤ mx2 a b ∧ b ≤ mx2 a b ∧ (mx2 a b = a ∨ mx2 a b = b) := fun a b => by unfold mx2; split <;> omega
      have q1 := m1 1 s.1
      have q2 := m1 (mx2 1 s.1) s.2
      split <;> omega
    rw [hz.1]
    exact hR _ _ ⟨s, z, rfl, rfl, hz.2⟩ hm4
  obtain ⟨sz, e1, h2⟩ := sz_of ha
  subst e1
  refine .inl ?_
  have hm3' : Mv k (n + 200) μ μ3 := (hm.trans hm3).le (by omega)
  refine ⟨1, (sh.length : Int), rfl, ⟨by decide, by decide, by omega, by omega⟩, by omega, ?_⟩
  have er : rngD 1 ((sh.length : Int) - 1).toNat = (List.range (sh.length - 1)).map fun (i : Nat) => Vl.int (1 + (i : Int)) := by
    unfold rngD
    rw [show ((sh.length : Int) - 1).toNat = sh.length - 1 by omega]
  show lcD _ _ _ _ _ _ (rngD 1 ((sh.length : Int) - 1).toNat) [] μ3
  rw [er]
  refine DL.lc_map (μ := μ3) trivial (fun (i : Nat) => Vl.int (1 + (i : Int))) (fun i => calV (cal sh (1 + i))) (List.range (sh.length - 1)) [] (fun i hi P hP => ?_) ?_
  · have hi' := List.mem_range.mp hi
    have ei : (1 + (i : Int)) = ((1 + i : Nat) : Int) := by omega
    show (dTup _) _ μ3 P
    rw [ei]
    refine ⟨_, shV (sh.getD (1 + i) (0, 0)), rfl, sh_at (by omega), _, .int ((sh.getD (1 + i) (0, 0)).1), rfl, rfl, ?_⟩
    refine ⟨_, shV (sh.getD (1 + i) (0, 0)), rfl, sh_at (by omega), _, .int ((sh.getD (1 + i) (0, 0)).2), rfl, rfl, ?_⟩
    exact ⟨by show 3 ≤ _; omega, hP⟩
  refine .inl ?_
  refine ⟨by show 0 ≤ _; omega, .inr ?_⟩
  have ec : ([] ++ (List.range (sh.length - 1)).map fun i => calV (cal sh (1 + i))) = (cals sh).map calV := by rw [List.nil_append]; unfold cals; rw [List.map_map]; rfl
  have z := q_7 h1 h2 hk hn q (PSt.new (L := []) hm3')
  rw [← ec] at z
  exact z
end
theorem sh_lift {n : Nat} {ys : List Vl} (hl : ys.length = n) (hn : 1 ≤ n ∧ n ≤ 3) (h : ∀ y ∈ ys, ∃ s : Nat × Nat, y = shV s ∧ (s.1 ≤ 3 ∧ s.2 ≤ 3)) : ∃ sh, ys = sh.map shV ∧ ShOk sh ∧ sh.length = n := by
  obtain ⟨sh, e1, e2, e3⟩ := lift_all ys h
  exact ⟨sh, e1, ⟨by omega, e2⟩, by omega⟩
theorem r__law_plain : ∀ xs μ Q, c__law_plain xs μ Q → b__law_plain (spEnds Q) (startD ["pen", "procedures", "many", "shapes", "sizes", "callees", "found", "at", "some", "handed", "back", "row"] xs) μ := by
  intro xs μ Q ⟨⟨k, n, e, hk, hn, q⟩⟩
  subst e
  have hsl := sizeLine_eq
  refine draw_use (many := (3 : Int)) hk (by omega) (by decide) fun d μ1 d1 d2 hm1 => ?_
  obtain ⟨m, hm, hm3⟩ : ∃ m : Nat, 1 + d = (m : Int) ∧ (1 ≤ m ∧ m ≤ 3) := ⟨(1 + d).toNat, by omega, by omega⟩
  show t__law_plain_2 (spEnds Q) (rhoL k (some (.int (1 + d))) none none none none none none) μ1
  rw [hm]
  refine ⟨(m : Int), rfl, by omega, by omega, ?_⟩
  refine lc_pen (z := 50) (k := k) (c := 2) (fun y => ∃ s : Nat × Nat, y = shV s ∧ (s.1 ≤ 3 ∧ s.2 ≤ 3)) (by decide) (fun _ => trivial) _ (fun x hx μ3 M R hp3 hl3 hR => ?_) [] μ1 (n + 1) hm1.pen (by rw [rng_len]; omega) fun ys μ2 hl hy hm2 => ?_
  · refine draw_use (many := (3 : Int)) hp3 (by omega) (by decide) fun d μ4 d1 d2 hm4 => ?_
    refine ⟨by show 4 ≤ _; omega, .inl ?_⟩
    refine pickI_use [1, 1, 0, 2] 0 2 (by decide) hm4.pen (by omega) (by decide) (by decide) fun b μ5 b1 b2 hm5 => ?_
    refine ⟨by show 2 ≤ _; omega, ?_⟩
    obtain ⟨a, rfl⟩ : ∃ a : Nat, d = (a : Int) := ⟨d.toNat, by omega⟩
    obtain ⟨c, rfl⟩ : ∃ c : Nat, b = (c : Int) := ⟨b.toNat, by omega⟩
    exact hR _ _ ⟨(a, c), rfl, by show a ≤ 3; omega, by show c ≤ 3; omega⟩ ((hm4.trans hm5).le (by omega))
  rw [rng_len] at hl hm2
  obtain ⟨sh, e1, h1, hlen⟩ := sh_lift hl hm3 hy
  subst e1
  refine .inl ?_
  have hmA := hm1.trans hm2
  refine draw_use (many := (6 : Int)) hmA.pen (by omega) (by decide) fun d μ3 d1 d2 hm3 => ?_
  have hmB := hmA.trans hm3
  refine dec_splitE (p := d = 0) (fun _ => ?_) (fun _ => ?_)
  · obtain ⟨m2, hm2', hm4⟩ : ∃ m2 : Nat, (if (2 : Int) < (m : Int) then (2 : Int) else (m : Int)) = (m2 : Int) ∧ (1 ≤ m2 ∧ m2 ≤ 3) := by
      refine ⟨(if (2 : Int) < (m : Int) then (2 : Int) else (m : Int)).toNat, ?_⟩
      split <;> omega
    refine ⟨_, rfl, by split <;> omega, by split <;> omega, ?_⟩
    show lcD _ _ _ _ _ _ (rngD 0 ((if (2 : Int) < (m : Int) then (2 : Int) else (m : Int))).toNat) [] μ3
    rw [hm2']
    refine lc_pen (z := 50) (k := k) (c := 2) (fun y => ∃ s : Nat × Nat, y = shV s ∧ (s.1 ≤ 3 ∧ s.2 ≤ 3)) (by decide) (fun _ => trivial) _ (fun x hx μ3 M R hp3 hl3 hR => ?_) [] μ3 (n + 1 + 2 * m + 1) hmB.pen (by rw [rng_len]; omega) fun ys μ4 hl hy hm2 => ?_
    · refine ⟨by show 3 ≤ _; omega, .inl ?_⟩
      refine pickI_use [2, 3, 3] 2 3 (by decide) hp3 (by omega) (by decide) (by decide) fun a μ4 a1 a2 hm4 => ?_
      refine ⟨by show 4 ≤ _; omega, .inl ?_⟩
      refine pickI_use [1, 2, 3, 3] 1 3 (by decide) hm4.pen (by omega) (by decide) (by decide) fun b μ5 b1 b2 hm5 => ?_
      refine ⟨by show 2 ≤ _; omega, ?_⟩
      obtain ⟨a, rfl⟩ : ∃ a' : Nat, a = (a' : Int) := ⟨a.toNat, by omega⟩
      obtain ⟨c, rfl⟩ : ∃ c : Nat, b = (c : Int) := ⟨b.toNat, by omega⟩
      exact hR _ _ ⟨(a, c), rfl, by show a ≤ 3; omega, by show c ≤ 3; omega⟩ ((hm4.trans hm5).le (by omega))
    rw [rng_len] at hl hm2
    obtain ⟨sh2, e1, h2, hlen2⟩ := sh_lift hl hm4 hy
    subst e1
    refine .inl ?_
    refine ⟨_, _, rfl, rfl, ?_⟩
    have z := q_4 h2 hk hn q ((hmB.trans hm2).le (by omega))
    rw [show (sh2.length : Int) = (((sh2.map shV).length : Nat) : Int) by rw [List.length_map]] at z
    exact z
  · have z := q_4 h1 hk hn q (hmB.le (by omega))
    rw [hlen] at z
    exact z
end K65

set_option maxHeartbeats 1000000
/-! ZJ: lots as data; readings of joined, nexts_at, behind, wanted. -/
namespace K65
open PySem PySem.Spec L2 StX PyProof.Rows DL
def CellV (μ : Mu) (c : Vl) (ns : List Int) : Prop := sview μ c = some (ns.map .int)
def RowV (μ : Mu) (x : Vl) (L : List (List Int)) : Prop := ∃ cells, sview μ x = some cells ∧ All2 (CellV μ) cells L
def LotsV (μ : Mu) (x : Vl) (LL : List (List (List Int))) : Prop := ∃ rows, sview μ x = some rows ∧ All2 (RowV μ) rows LL
theorem All2.get {α β : Type} {R : α → β → Prop} : ∀ {xs : List α} {ys : List β} {i : Nat} {y : β}, All2 R xs ys → ys[i]? = some y → ∃ x, xs[i]? = some x ∧ R x y
  | _, _, i, y, .nil, h => by cases h
  | _, _, 0, y, .cons r t, h => by
    have e := Option.some.inj h
    subst e
    exact ⟨_, rfl, r⟩
  | _, _, i + 1, y, .cons r t, h => All2.get (i := i) t h
theorem All2.imp {α β : Type} {R S : α → β → Prop} (f : ∀ a b, R a b → S a b) : ∀ {xs : List α} {ys : List β}, All2 R xs ys → All2 S xs ys
  | _, _, .nil => .nil
  | _, _, .cons r t => .cons (f _ _ r) (All2.imp f t)
theorem sview_app {μ ex : Mu} {x : Vl} {xs : List Vl} (h : sview μ x = some xs) : sview (μ ++ ex) x = some xs := by
  cases x with
  | ref k =>
    have h2 := mview_ref (by simpa [sview, lview, mview] using h : mview μ (.ref k) = some xs)
    exact sv_ref (by rw [List.getElem?_append_left (List.getElem?_eq_some_iff.mp h2).1]; exact h2)
  | _ => exact h
theorem CellV.app {μ ex : Mu} {c : Vl} {ns : List Int} (h : CellV μ c ns) : CellV (μ ++ ex) c ns := sview_app h
theorem RowV.app {μ ex : Mu} {c : Vl} {ns : List (List Int)} (h : RowV μ c ns) : RowV (μ ++ ex) c ns := let ⟨cs, h1, h2⟩ := h; ⟨cs, sview_app h1, h2.imp fun _ _ r => CellV.app r⟩
theorem LotsV.app {μ ex : Mu} {c : Vl} {ns : List (List (List Int))} (h : LotsV μ c ns) : LotsV (μ ++ ex) c ns := let ⟨cs, h1, h2⟩ := h; ⟨cs, sview_app h1, h2.imp fun _ _ r => RowV.app r⟩
/-! what comes next, what is asked -/
def St.nexts (s : St) (pl : Nat) : List Nat := match s with
  | .test _ _ y n => [y, n]
  | .back _ => []
  | .go p => [p]
  | _ => [pl + 1]
def behindL (L : List (List Int)) (s : St) (pl : Nat) : List Int := ((s.nexts pl).map fun q => L.getD q []).flatten
def handL (hs : List Int) (lot : List Int) : List Int := ((hs.zipIdx).filter fun p => decide ((p.2 : Int) ∈ lot)).map Prod.fst
def St.need (s : St) (found : List Int) (LL : List (List (List Int))) (bk : List Int) : List Int := match s with
  | .set r _ qs => if r ∈ found then (found.filter fun z => decide (z ≠ r)) ++ slots qs else found
  | .go _ => found
  | .test _ rs _ _ => found ++ rs
  | .deed _ rs => found ++ rs
  | .call j hs qs => (found.filter fun z => decide (z ∉ qs)) ++ handL hs ((LL.getD j []).getD 0 [])
  | .back rs => bk.map fun i => rs.getD i.toNat 0
theorem need_mem {s : St} {f g : List Int} {LL : List (List (List Int))} {bk : List Int} (h : ∀ z, z ∈ f ↔ z ∈ g) (z : Int) : z ∈ s.need f LL bk ↔ z ∈ s.need g LL bk := by
  cases s with
  | set r c qs =>
    simp only [St.need]
    by_cases hr : r ∈ f
    · rw [if_pos hr, if_pos ((h r).mp hr)]
      simp [h]
    · rw [if_neg hr, if_neg (fun q => hr ((h r).mpr q))]
      exact h z
  | go p => exact h z
  | test w rs y n => simp [St.need, h]
  | deed w rs => simp [St.need, h]
  | call j hs qs => simp [St.need, h]
  | back rs => exact Iff.rfl
/-- lots in form: as many rows as procedures, as many cells as places, each ascending, of registers -/
structure RowOk (p : Pr) (L : List (List Int)) : Prop where
  len : L.length = p.steps.length
  ok : ∀ c ∈ L, inR p.regs c ∧ c.Pairwise (· < ·)
structure LotsOk (ps : List Pr) (LL : List (List (List Int))) : Prop where
  len : LL.length = ps.length
  ok : ∀ (i : Nat) (p : Pr) (L : List (List Int)), ps[i]? = some p → LL[i]? = some L → RowOk p L
structure BacksOk (ps : List Pr) (BB : List (List Int)) : Prop where
  len : BB.length = ps.length
  ok : ∀ (i : Nat) (p : Pr) (c : List Int), ps[i]? = some p → BB[i]? = some c → inR p.back c ∧ c.Pairwise (· < ·)
theorem nexts_lt {ps : List Pr} {p : Pr} {i : Nat} {s : St} (ok : PrOk ps p) (h : p.steps[i]? = some s) : ∀ q ∈ s.nexts i, q < p.steps.length := by
  have hi := (List.getElem?_eq_some_iff.mp h).1
  have os := ok.ok s (List.mem_of_getElem? h)
  obtain ⟨t, ht, hl⟩ := ok.last
  have nl : s.isLast = false → i + 1 < p.steps.length := fun e => by
    by_cases z : i = p.steps.length - 1
    · subst z
      rw [h] at ht
      have := Option.some.inj ht
      subst this
      rw [hl] at e; cases e
    · omega
  intro q hq
  cases s with
  | set r c qs => rw [List.mem_singleton.mp hq]; exact nl rfl
  | go p => rw [List.mem_singleton.mp hq]; exact os
  | test w rs y n =>
    obtain ⟨_, _, _, h4, h5⟩ := os
    rcases List.mem_cons.mp hq with e | e
    · rw [e]; exact h4
    · rw [List.mem_singleton.mp e]; exact h5
  | deed w rs => rw [List.mem_singleton.mp hq]; exact nl rfl
  | call j hs qs => rw [List.mem_singleton.mp hq]; exact nl rfl
  | back rs => cases hq
theorem nexts_len {s : St} {i : Nat} : (s.nexts i).length ≤ 2 := by cases s <;> simp [St.nexts]
theorem lot_len {n : Nat} {c : List Int} (h : inR n c ∧ c.Pairwise (· < ·)) : c.length ≤ n := up_short h.2 h.1
theorem flat_len {n : Nat} : ∀ {xs : List (List Int)}, (∀ c ∈ xs, c.length ≤ n) → xs.flatten.length ≤ n * xs.length
  | [], _ => by simp
  | x :: xs, h => by
    have a := h x List.mem_cons_self
    have b := flat_len (xs := xs) fun c hc => h c (List.mem_cons_of_mem _ hc)
    rw [List.flatten_cons, List.length_append, List.length_cons, Nat.mul_succ]; omega
theorem row_at {p : Pr} {L : List (List Int)} (h : RowOk p L) {q : Nat} (hq : q < p.steps.length) : L[q]? = some (L.getD q []) := getD_of (by rw [h.len]; exact hq)
theorem behind_in {ps : List Pr} {p : Pr} {L : List (List Int)} {i : Nat} {s : St} (ok : PrOk ps p) (hL : RowOk p L) (h : p.steps[i]? = some s) : inR p.regs (behindL L s i) ∧ (behindL L s i).length ≤ 6 := by
  have nl := nexts_lt ok h
  refine ⟨fun z hz => ?_, ?_⟩
  · obtain ⟨c, hc, hz⟩ := List.mem_flatten.mp hz
    obtain ⟨q, hq, e⟩ := List.mem_map.mp hc
    subst e
    exact (hL.ok _ (List.mem_of_getElem? (row_at hL (nl q hq)))).1 z hz
  · refine Nat.le_trans (flat_len (n := 3) fun c hc => ?_) ?_
    · obtain ⟨q, hq, e⟩ := List.mem_map.mp hc
      subst e
      have := lot_len (hL.ok _ (List.mem_of_getElem? (row_at hL (nl q hq))))
      have := ok.regs
      omega
    · rw [List.length_map]
      have := nexts_len (s := s) (i := i)
      omega
/-! joined -/
def c_joined : Ct := fun xs μ Q => ∃ (x y : Vl) (f g : List Int), xs = [x, y] ∧ sview μ x = some (f.map .int) ∧ sview μ y = some (g.map .int) ∧ f.length + g.length < 64 ∧ ∀ out : List Int, out.Pairwise (· < ·) → (∀ z, z ∈ out ↔ z ∈ f ++ g) → Q (iT out) μ
def b_joined : DS :=
    (dRet (dCB fTuple (dCons (dCB fSortedSet (dCons (dLst (dStar (dVar 0) (dStar (dVar 1) dNil))) dNil)) dNil)))
theorem l_joined : ∀ xs μ Q, c_joined xs μ Q → xs.length = 2 := by
  intro xs μ Q ⟨_, _, _, _, e, _⟩; subst e; rfl
theorem rfb_iT {n : Nat} {r : List Int} : rfb n (iT r) = true := by
  unfold iT
  rw [rfb]; exact rfbs_ints r
theorem r_joined : ∀ xs μ Q, c_joined xs μ Q → b_joined (pureEnds μ Q) (startD ["some", "more"] xs) μ := by
  intro xs μ Q ⟨x, y, f, g, e, hx, hy, hl, q⟩
  subst e
  have hsl := sizeLine_eq
  refine ⟨_, hx, _, hy, ?_⟩
  refine ⟨by simp; omega, .inl ?_⟩
  refine ⟨_, f ++ g, rfl, ?_, by rw [List.length_append]; exact hl, fun out h1 h2 => ?_⟩
  · show some _ = some _
    simp
  refine .inl ?_
  refine ⟨_, _, rfl, rfl, ?_⟩
  exact DL.pure_rt rfb_iT (q out h1 h2)
/-! nexts_at -/
theorem ifE_word {i : Nat} {x : Vl} {w w' : Str} {r : List Vl} {A B : DE} {ρ : Rho} {μ : Mu} {Q : DK} (hi : ρ[i]? = some (some x)) (hv : sview μ x = some (.str w :: r)) (h1 : w = w' → A ρ μ Q) (h2 : w ≠ w' → B ρ μ Q) :
    dIfE (dTest (dOp dEq (dOp dIx (dVar i) (dC (.int 0))) (dC (.str w')))) A B ρ μ Q := by
  unfold dIfE dTest dOp
  refine dVar_at hi ?_
  refine ⟨.str w :: r, .str w, hv, atI0, ?_⟩
  exact dec_splitE (p := w = w') h1 h2
theorem ret_s {de : DE} {D : DEnds} {ρ : Rho} {μ : Mu} (h : de ρ μ D.rt) : dRet de D ρ μ := h
theorem asg_s {de : DE} {i : Nat} {U : DS} {D : DEnds} {ρ : Rho} {μ : Mu} (h : de ρ μ fun x μ1 => U D (ρ.set i (some x)) μ1) : dSeq (dAsg de (dgName i)) U D ρ μ := h
def c_nexts_at : Ct := fun xs μ Q => ∃ (y : Vl) (p : Pr) (i : Nat) (s : St), xs = [y, .int i] ∧ sview μ y = some (p.steps.map St.t) ∧ p.steps[i]? = some s ∧ Q (.tup ((s.nexts i).map nI)) μ
def b_nexts_at : DS :=
    (dSeq (dAsg (dOp dIx (dVar 0) (dVar 1)) (dgName 2))
    (dSeq (dIf (dTest (dOp dEq (dOp dIx (dVar 2) (dC (.int 0))) (dC (.str "test")))) (dRet (dSlA (dVar 2) (dPart (dC (.int 3))) dNoPart)) dNext)
    (dSeq (dIf (dTest (dOp dEq (dOp dIx (dVar 2) (dC (.int 0))) (dC (.str "back")))) (dRet (dTup dNil)) dNext)
    (dRet (dIfE (dTest (dOp dEq (dOp dIx (dVar 2) (dC (.int 0))) (dC (.str "go")))) (dTup (dCons (dOp dIx (dVar 2) (dC (.int 1))) dNil)) (dTup (dCons (dOp dAdd (dVar 1) (dC (.int 1))) dNil)))))))
theorem l_nexts_at : ∀ xs μ Q, c_nexts_at xs μ Q → xs.length = 2 := by
  intro xs μ Q ⟨_, _, _, _, e, _⟩; subst e; rfl
theorem rfb_nI {n : Nat} : ∀ {l : List Nat}, rfb n (.tup (l.map nI)) = true := by
  intro l
  rw [rfb]
  induction l with
  | nil => rfl
  | cons a l ih => rw [List.map_cons, rfbs, ih, nI, rfb_int]; rfl
theorem r_nexts_at : ∀ xs μ Q, c_nexts_at xs μ Q → b_nexts_at (pureEnds μ Q) (startD ["steps", "place", "step"] xs) μ := by
  intro xs μ Q ⟨y, p, i, s, e, hy, hs, q⟩
  subst e
  have hsl := sizeLine_eq
  refine asg_s ⟨_, s.t, hy, atI_nat (by rw [List.getElem?_map, hs]; rfl), ?_⟩
  have fin : ∀ {l : List Nat}, l = s.nexts i → (pureEnds μ Q).rt (.tup (l.map nI)) μ := fun e => by
    subst e
    exact DL.pure_rt rfb_nI q
  cases s with
  | test w rs y n =>
    refine if_wordS (by rfl) (by rfl) (fun _ => ?_) (fun h => absurd rfl h)
    exact fin (l := [y, n]) rfl
  | back rs =>
    refine if_wordS (by rfl) (by rfl) (fun h => absurd h (by decide +kernel)) (fun _ => ?_)
    refine if_wordS (by rfl) (by rfl) (fun _ => ?_) (fun h => absurd rfl h)
    exact ⟨by show 0 ≤ _; omega, fin (l := []) rfl⟩
  | go j =>
    refine if_wordS (by rfl) (by rfl) (fun h => absurd h (by decide +kernel)) (fun _ => ?_)
    refine if_wordS (by rfl) (by rfl) (fun h => absurd h (by decide +kernel)) (fun _ => ?_)
    refine ret_s (ifE_word (by rfl) (by rfl) (fun _ => ?_) (fun h => absurd rfl h))
    exact ⟨_, .int j, rfl, rfl, by show 1 ≤ _; omega, fin (l := [j]) rfl⟩
  | set r c qs =>
    refine if_wordS (by rfl) (by rfl) (fun h => absurd h (by decide +kernel)) (fun _ => ?_)
    refine if_wordS (by rfl) (by rfl) (fun h => absurd h (by decide +kernel)) (fun _ => ?_)
    refine ret_s (ifE_word (by rfl) (by rfl) (fun h => absurd h (by decide +kernel)) (fun h => ?_))
    exact ⟨by show 1 ≤ _; omega, fin (l := [i + 1]) rfl⟩
  | deed w rs =>
    refine if_wordS (by rfl) (by rfl) (fun h => absurd h (by decide +kernel)) (fun _ => ?_)
    refine if_wordS (by rfl) (by rfl) (fun h => absurd h (by decide +kernel)) (fun _ => ?_)
    refine ret_s (ifE_word (by rfl) (by rfl) (fun h => absurd h (by decide +kernel)) (fun h => ?_))
    exact ⟨by show 1 ≤ _; omega, fin (l := [i + 1]) rfl⟩
  | call j hs qs =>
    refine if_wordS (by rfl) (by rfl) (fun h => absurd h (by decide +kernel)) (fun _ => ?_)
    refine if_wordS (by rfl) (by rfl) (fun h => absurd h (by decide +kernel)) (fun _ => ?_)
    refine ret_s (ifE_word (by rfl) (by rfl) (fun h => absurd h (by decide +kernel)) (fun h => ?_))
    exact ⟨by show 1 ≤ _; omega, fin (l := [i + 1]) rfl⟩
/-! behind -/
def kb (z : Int) : Key × Vl := (Sum.inl z, .bl true)
def addK (ks : List Int) : List Int → List Int
  | [] => ks
  | z :: r => addK (if z ∈ ks then ks else ks ++ [z]) r
theorem addK_mem {x : Int} : ∀ (r ks : List Int), x ∈ addK ks r ↔ x ∈ ks ∨ x ∈ r
  | [], ks => by simp [addK]
  | z :: r, ks => by
    rw [addK, addK_mem r]
    by_cases h : z ∈ ks
    · rw [if_pos h, List.mem_cons]
      constructor
      · rintro (a | a)
        · exact .inl a
        · exact .inr (.inr a)
      · rintro (a | a | a)
        · exact .inl a
        · subst a; exact .inl h
        · exact .inr a
    · rw [if_neg h, List.mem_append, List.mem_singleton, List.mem_cons, or_assoc]
theorem addK_nodup : ∀ (r ks : List Int), ks.Nodup → (addK ks r).Nodup
  | [], ks, h => h
  | z :: r, ks, h => by
    rw [addK]
    refine addK_nodup r _ ?_
    by_cases hz : z ∈ ks
    · rw [if_pos hz]; exact h
    · rw [if_neg hz, List.nodup_append]
      refine ⟨h, by simp, fun a ha b hb e => ?_⟩
      rw [List.mem_singleton.mp hb] at e
      rw [e] at ha
      exact hz ha
theorem addK_len : ∀ (r ks : List Int), (addK ks r).length ≤ ks.length + r.length
  | [], ks => by simp [addK]
  | z :: r, ks => by
    have := addK_len r (if z ∈ ks then ks else ks ++ [z])
    rw [addK, List.length_cons]
    split at this <;> rename_i h
    · rw [if_pos h]; omega
    · rw [if_neg h]; rw [List.length_append] at this; simp at this; omega
theorem putK_kb {z : Int} {ks : List Int} : putK' (ks.map kb) (Sum.inl z) (.bl true) = (if z ∈ ks then ks else ks ++ [z]).map kb := by
  unfold putK'
  by_cases h : z ∈ ks
  · rw [if_pos h, if_pos]
    · rw [List.map_map]
      refine List.map_congr_left fun a _ => ?_
      show (if (Sum.inl a : Key) = Sum.inl z then ((Sum.inl a : Key), Vl.bl true) else kb a) = kb a
      split <;> rfl
    · rw [List.any_eq_true]
      exact ⟨kb z, List.mem_map_of_mem h, by simp [kb]⟩
  · rw [if_neg h, if_neg]
    · rw [List.map_append]; rfl
    · rw [List.any_eq_true]
      rintro ⟨kv, hk, e⟩
      obtain ⟨a, ha, e2⟩ := List.mem_map.mp hk
      subst e2
      have : a = z := by simpa [kb] using e
      rw [this] at ha
      exact h ha
theorem dc_add {G : Mu → Prop} {ρ : Rho} {μ : Mu} {K : List (Key × Vl) → Mu → Prop} (hG : G μ) (hρ : ρ.length = 5) : ∀ (ns ks : List Int), ks.length + ns.length ≤ 1000 → K ((addK ks ns).map kb) μ → dcIn G (dgName 4) (dVar 4) (dC (.bl true)) ρ K (ns.map .int) (ks.map kb) μ
  | [], ks, _, h => ⟨hG, h⟩
  | z :: ns, ks, hl, h => by
    have hsl := sizeLine_eq
    rw [List.length_cons] at hl
    refine ⟨hG, ?_⟩
    unfold dgName
    refine dVar_at (x := .int z) (by show (ρ.set 4 (some (.int z)))[4]? = _; rw [List.getElem?_set_self (by omega)]) ?_
    refine ⟨Sum.inl z, rfl, by rw [List.length_map]; omega, ?_⟩
    rw [putK_kb]
    refine dc_add hG hρ ns _ ?_ h
    split
    · omega
    · rw [List.length_append]; simp; omega
def c_behind : Ct := fun xs μ Q => ∃ (x y : Vl) (ps : List Pr) (p : Pr) (i : Nat) (s : St) (L : List (List Int)), xs = [x, y, .int i] ∧ PrOk ps p ∧ RowV μ x L ∧ RowOk p L ∧ sview μ y = some (p.steps.map St.t) ∧ p.steps[i]? = some s ∧
  ∀ (o : Obj) (vs : List (Key × V)) (ks : List Int), ks.Nodup → (∀ z, z ∈ ks ↔ z ∈ behindL L s i) → ks.length ≤ 6 → Q (.ref μ.length) (μ ++ [.fdict o vs (ks.map kb)])
def b_behind : DS :=
    (dRet (dFrz (dDc2 (dIter (dCall c_nexts_at (dCons (dVar 1) (dCons (dVar 2) dNil)))) (dgName 3) (dIter (dOp dIx (dVar 0) (dVar 3))) (dgName 4) (dVar 4) (dC (.bl true)) [3, 4] [4])))
theorem l_behind : ∀ xs μ Q, c_behind xs μ Q → xs.length = 3 := by
  intro xs μ Q ⟨_, _, _, _, _, _, _, e, _⟩; subst e; rfl
theorem r_behind : ∀ xs μ Q, c_behind xs μ Q → b_behind (spEnds Q) (startD ["lots", "steps", "place", "one", "register"] xs) μ := by
  intro xs μ Q ⟨x, y, ps, p, i, s, L, e, ok, ⟨cells, hx, hc⟩, hL, hy, hs, q⟩
  subst e
  have hsl := sizeLine_eq
  refine ⟨y, p, i, s, rfl, hy, hs, ?_⟩
  refine ⟨(s.nexts i).map nI, rfl, ?_⟩
  have go : ∀ (R A : List Nat) (ρ : Rho) (ks : List Int), ks.Nodup → (∀ z, z ∈ ks ↔ z ∈ ((A.map fun q => L.getD q []).flatten)) → ks.length + 3 * R.length ≤ 6 → A ++ R = s.nexts i → ρ = [some x, some y, some (.int i), none, none] →
      dcOut (fun _ => True) (dgName 3) (dIter (dOp dIx (dVar 0) (dVar 3))) (dgName 4) (dVar 4) (dC (.bl true)) [4] ρ (fun acc μ2 => newD acc μ2 fun x μ1 => ∃ (k : Nat) (kvs : List (Key × Vl)), x = .ref k ∧ μ1[k]? = some (.dict kvs) ∧ ∀ o vs, (spEnds Q).rt x (μ1.set k (.fdict o vs kvs))) (R.map nI) (ks.map kb) μ := by
    intro R
    induction R with
    | nil =>
      intro A ρ ks h1 h2 h5 h3 _
      refine ⟨trivial, ?_⟩
      refine ⟨_, _, rfl, get_app, fun o vs => ?_⟩
      rw [set_app]
      refine q o vs ks h1 (fun z => ?_) (by simpa using h5)
      rw [List.append_nil] at h3
      rw [h2 z, h3]
      exact Iff.rfl
    | cons j R ih =>
      intro A ρ ks h1 h2 hl h3 h4
      subst h4
      have hj : j < p.steps.length := nexts_lt ok hs j (by rw [← h3]; simp)
      have hr := row_at hL hj
      obtain ⟨c, hc1, hc2⟩ := hc.get hr
      have hll := lot_len (hL.ok _ (List.mem_of_getElem? hr))
      have hrg := ok.regs
      rw [List.length_cons] at hl
      refine ⟨trivial, ?_⟩
      refine ⟨cells, c, hx, atI_nat hc1, ?_⟩
      refine ⟨_, hc2, ?_⟩
      refine dc_add (asLong_of hc2) rfl _ ks (by omega) ?_
      refine ih (A ++ [j]) _ _ (addK_nodup _ _ h1) (fun z => ?_) ?_ (by rw [List.append_assoc]; exact h3) rfl
      · rw [addK_mem, h2 z]
        simp
      · have := addK_len (L.getD j []) ks
        omega
  refine go (s.nexts i) [] _ [] List.nodup_nil (fun z => by simp) ?_ rfl rfl
  have := nexts_len (s := s) (i := i)
  simp; omega
end K65

set_option maxHeartbeats 1000000
/-! ZK: reading of wanted. -/
namespace K65
open PySem PySem.Spec L2 StX PyProof.Rows DL
theorem kb_keys {ks : List Int} : (ks.map kb).map (fun f => vKey f.1) = ks.map .int := by rw [List.map_map]; rfl
theorem kb_fst {ks : List Int} : (ks.map kb).map (·.1) = ks.map Sum.inl := by rw [List.map_map]; rfl
theorem valD_kb {z : Int} : ∀ {ks : List Int}, (valD (ks.map kb) (Sum.inl z)).isSome = decide (z ∈ ks)
  | [] => rfl
  | k :: ks => by
    have ih := valD_kb (z := z) (ks := ks)
    by_cases h : k = z
    · subst h
      simp [valD, kb]
    · have e : valD ((k :: ks).map kb) (Sum.inl z) = valD (ks.map kb) (Sum.inl z) := by simp [valD, kb, List.find?_cons, h]
      rw [e, ih]
      simp [show ¬ z = k from fun e => h e.symm]
theorem dp_f {μ : Mu} {k : Nat} {o : Obj} {vs : List (Key × V)} {fs : List (Key × Vl)} (h : μ[k]? = some (.fdict o vs fs)) : dpairs μ (.ref k) = some fs := by
  show (match μ[k]? with
    | some (.dict fs) => some fs
    | some (.fdict _ _ fs) => some fs
    | _ => none) = _
  rw [h]
theorem numbered_zip (hs : List Int) : numbered (hs.map .int) = hs.zipIdx.map fun p => Vl.tup [.int (p.2 : Int), .int p.1] := by
  apply List.ext_getElem?
  intro i
  by_cases hi : i < hs.length
  · rw [numbered_get (x := .int hs[i]) (by rw [List.getElem?_map, List.getElem?_eq_getElem hi]; rfl), List.getElem?_map, List.getElem?_zipIdx, List.getElem?_eq_getElem hi]
    simp
  · rw [List.getElem?_eq_none (by rw [numbered_len, List.length_map]; omega), List.getElem?_eq_none (by rw [List.length_map, List.length_zipIdx]; omega)]
theorem handL_len {hs lot : List Int} : (handL hs lot).length ≤ hs.length := by
  unfold handL
  rw [List.length_map]
  refine Nat.le_trans (List.length_filter_le _ _) ?_
  rw [List.length_zipIdx]; exact Nat.le_refl _
theorem st_regs {ps : List Pr} {p : Pr} {s : St} (ok : StOk ps p s) (hr : p.regs ≤ 3) (hg : ∀ c ∈ ps, c.handed ≤ 3) : (match s with
    | .set _ _ qs => qs.length ≤ 3
    | .test _ rs _ _ => rs.length ≤ 4
    | .deed _ rs => rs.length ≤ 4
    | .call _ hs _ => hs.length ≤ 3
    | _ => True) := by
  cases s with
  | set r c qs => obtain ⟨_, _, _, _, _, h⟩ := ok; exact Nat.le_trans h hr
  | test w rs y n => exact ok.2.1
  | deed w rs => exact ok.2.1
  | call j hs qs =>
    obtain ⟨_, c, hc, h, _⟩ := ok
    show hs.length ≤ 3
    rw [h]; exact hg c (List.mem_of_getElem? hc)
  | _ => trivial
def c_wanted : Ct := fun xs μ Q => ∃ (s : St) (ps : List Pr) (p : Pr) (k : Nat) (o : Obj) (vs : List (Key × V)) (ks : List Int) (x b : Vl) (LL : List (List (List Int))) (bk : List Int), xs = [s.t, .ref k, x, b] ∧ Good ps ∧ p ∈ ps ∧ StOk ps p s ∧ μ[k]? = some (.fdict o vs (ks.map kb)) ∧ ks.Nodup ∧ ks.length ≤ 6 ∧
  LotsV μ x LL ∧ LotsOk ps LL ∧ CellV μ b bk ∧ inR p.back bk ∧ bk.Pairwise (· < ·) ∧ ∀ out : List Int, out.Pairwise (· < ·) → (∀ z, z ∈ out ↔ z ∈ s.need ks LL bk) → Q (iT out) μ
def b_wanted : DS :=
    (dSeq (dIf (dTest (dOp dEq (dOp dIx (dVar 0) (dC (.int 0))) (dC (.str "set")))) (dSeq (dIf (dTest (dDInA true (dOp dIx (dVar 0) (dC (.int 1))) (dVar 1))) (dRet (dCB fTuple (dCons (dCB fSortedD (dCons (dVar 1) dNil)) dNil))) dNext)
    (dRet (dCall c_joined (dCons (dLc (dKeys (dVar 1)) (dgName 7) (dTest (dOp dNe (dVar 7) (dOp dIx (dVar 0) (dC (.int 1))))) (dVar 7) [7]) (dCons (dLc (dIter (dOp dIx (dVar 0) (dC (.int 3)))) (dgName 8) dYes (dOp dIx (dVar 8) (dC (.int 0))) [8]) dNil))))) dNext)
    (dSeq (dIf (dTest (dOp dEq (dOp dIx (dVar 0) (dC (.int 0))) (dC (.str "call")))) (dSeq (dAsg (dLc (dEnum (dCons (dOp dIx (dVar 0) (dC (.int 2))) dNil)) (dgTup 2 (dgCons (dgName 5) (dgCons (dgName 6) dgNil))) (dTest (dOp (dInS false) (dVar 5) (dOp dIx (dOp dIx (dVar 2) (dOp dIx (dVar 0) (dC (.int 1)))) (dC (.int 0))))) (dVar 6) [5, 6]) (dgName 4))
    (dRet (dCall c_joined (dCons (dLc (dKeys (dVar 1)) (dgName 7) (dTest (dOp (dInS true) (dVar 7) (dOp dIx (dVar 0) (dC (.int 3))))) (dVar 7) [7]) (dCons (dVar 4) dNil))))) dNext)
    (dSeq (dIf (dTest (dOp dEq (dOp dIx (dVar 0) (dC (.int 0))) (dC (.str "back")))) (dRet (dCall c_joined (dCons (dLc (dIter (dVar 3)) (dgName 5) dYes (dOp dIx (dOp dIx (dVar 0) (dC (.int 1))) (dVar 5)) [5]) (dCons (dLst dNil) dNil)))) dNext)
    (dRet (dCall c_joined (dCons (dCB fListD (dCons (dVar 1) dNil)) (dCons (dIfE (dTest (dOp dNe (dOp dIx (dVar 0) (dC (.int 0))) (dC (.str "go")))) (dOp dIx (dVar 0) (dC (.int 2))) (dLst dNil)) dNil)))))))
theorem l_wanted : ∀ xs μ Q, c_wanted xs μ Q → xs.length = 4 := by
  intro xs μ Q ⟨_, _, _, _, _, _, _, _, _, _, _, e, _⟩; subst e; rfl
theorem filter_len {p : Int → Bool} {ks : List Int} (h : ks.length ≤ 6) : (ks.filter p).length ≤ 6 := Nat.le_trans (List.length_filter_le _ _) h
theorem lot0 {ps : List Pr} {LL : List (List (List Int))} {j : Nat} {c : Pr} (gd : Good ps) (hLL : LotsOk ps LL) (hc : ps[j]? = some c) : LL[j]? = some (LL.getD j []) ∧ (LL.getD j [])[0]? = some ((LL.getD j []).getD 0 []) ∧ ((LL.getD j []).getD 0 []).length ≤ 3 := by
  have hj := (List.getElem?_eq_some_iff.mp hc).1
  have h1 : LL[j]? = some (LL.getD j []) := getD_of (by rw [hLL.len]; exact hj)
  have ok := gd.ok c (List.mem_of_getElem? hc)
  have hr := hLL.ok j c _ hc h1
  have h2 := row_at hr (q := 0) (by have := ok.steps; omega)
  exact ⟨h1, h2, Nat.le_trans (lot_len (hr.ok _ (List.mem_of_getElem? h2))) ok.regs.2⟩
theorem r_wanted : ∀ xs μ Q, c_wanted xs μ Q → b_wanted (pureEnds μ Q) (startD ["step", "found", "lots", "backs", "handed", "at", "register", "one", "pair"] xs) μ := by
  intro xs μ Q ⟨s, ps, p, k, o, vs, ks, x, b, LL, bk, e, gd, hpm, hok, hk, hnd, hkl, hx, hLL, hb, hbr, hbu, q⟩
  subst e
  have hsl := sizeLine_eq
  have okp := gd.ok p hpm
  have hdp := dp_f hk
  have fin : ∀ out : List Int, out.Pairwise (· < ·) → (∀ z, z ∈ out ↔ z ∈ s.need ks LL bk) → (pureEnds μ Q).rt (iT out) μ := fun out h1 h2 => DL.pure_rt rfb_iT (q out h1 h2)
  have hsz := st_regs hok okp.regs.2 (fun c hc => (gd.ok c hc).handed.1)
  cases s with
  | set r c qs =>
    have hsz : qs.length ≤ 3 := hsz
    refine if_wordS (by rfl) (by rfl) (fun _ => ?_) (fun h => absurd rfl h)
    refine ⟨_, .int r, rfl, rfl, ks.map kb, Sum.inl r, hdp, rfl, ?_⟩
    rw [valD_kb]
    refine dec_splitN (p := r ∈ ks) (fun hr => ?_) (fun hr => ?_)
    · refine ⟨_, ks.map kb, ks, rfl, hdp, kb_fst, by omega, fun ys hp hs => .inl ?_⟩
      refine ⟨_, _, rfl, rfl, ?_⟩
      refine fin ys (sorted_up hs (hp.nodup_iff.mpr hnd)) fun z => ?_
      rw [St.need, if_neg hr]
      exact hp.mem_iff
    · refine ⟨k, o, vs, ks.map kb, rfl, hk, by rw [List.length_map]; omega, ?_⟩
      rw [kb_keys]
      refine DL.lc_filter (μ := μ) hk .int (fun z => decide (z ≠ r)) .int ks [] (fun z hz P R hR hP => ?_) ?_
      · refine ⟨_, .int r, rfl, rfl, ?_⟩
        exact dec_splitN (p := z = r) (fun h => hR (decide_eq_true h)) (fun h => hP (decide_eq_false fun g => g h))
      refine .inl ?_
      refine ⟨_, .tup (qs.map pairV), rfl, rfl, _, rfl, ?_⟩
      refine DL.lc_map (μ := μ) trivial pairV (fun q => .int q.1) qs [] (fun q hq P hP => ⟨_, .int q.1, rfl, rfl, hP⟩) ?_
      refine .inl ?_
      refine ⟨_, _, ks.filter fun z => decide (z ≠ r), slots qs, rfl, rfl, ?_, ?_, fun out h1 h2 => fin out h1 fun z => ?_⟩
      · show some _ = some _
        simp [slots]
      · have := filter_len (p := fun z => decide (z ≠ r)) hkl
        rw [show (slots qs).length = qs.length by simp [slots]]; omega
      · rw [St.need, if_pos hr]; exact h2 z
  | call j hs qs =>
    have hsz : hs.length ≤ 3 := hsz
    obtain ⟨h1, c, hc, h2, h3, h4, h5, h6⟩ := hok
    obtain ⟨rows, hx1, hx2⟩ := hx
    obtain ⟨l1, l2, l3⟩ := lot0 gd hLL hc
    obtain ⟨row, hr1, hr2⟩ := hx2.get l1
    obtain ⟨cells, hr3, hr4⟩ := hr2
    obtain ⟨cell, hc1, hc2⟩ := hr4.get l2
    refine if_wordS (by rfl) (by rfl) (fun h => absurd h (by decide +kernel)) (fun _ => ?_)
    refine if_wordS (by rfl) (by rfl) (fun _ => ?_) (fun h => absurd rfl h)
    refine ⟨_, iT hs, rfl, rfl, _, hs.map .int, rfl, rfl, ?_⟩
    rw [numbered_zip]
    refine DL.lc_filter (μ := μ) trivial (fun p : Int × Nat => Vl.tup [.int (p.2 : Int), .int p.1]) (fun p => decide ((p.2 : Int) ∈ (LL.getD j []).getD 0 [])) (fun p => .int p.1) hs.zipIdx [] (fun z hz P R hR hP => ?_) ?_
    · refine ⟨rfl, rfl, ?_⟩
      refine ⟨_, .int j, rfl, rfl, rows, row, hx1, atI_nat hr1, cells, cell, hr3, atI_nat (i := 0) hc1, ?_⟩
      refine ⟨_, _, _, hc2, rfl, flVs_ints _, ?_⟩
      rw [inV_ints]
      exact dec_splitE (p := (z.2 : Int) ∈ (LL.getD j []).getD 0 []) (fun h => hR (decide_eq_true h)) (fun h => hP (decide_eq_false h))
    refine .inl ?_
    refine ⟨k, o, vs, ks.map kb, rfl, hk, by rw [List.length_map]; omega, ?_⟩
    rw [kb_keys]
    refine DL.lc_filter (μ := μ) hk .int (fun z => decide (z ∉ qs)) .int ks [] (fun z hz P R hR hP => ?_) ?_
    · refine ⟨_, iT qs, rfl, rfl, ?_⟩
      refine ⟨_, _, _, rfl, rfl, flVs_ints _, ?_⟩
      rw [inV_ints]
      exact dec_splitN (p := z ∈ qs) (fun h => hR (decide_eq_true h)) (fun h => hP (decide_eq_false fun g => g h))
    refine .inl ?_
    refine ⟨_, _, ks.filter fun z => decide (z ∉ qs), handL hs ((LL.getD j []).getD 0 []), rfl, rfl, ?_, ?_, fun out g1 g2 => fin out g1 g2⟩
    · show some _ = some _
      simp [handL]
    · have := filter_len (p := fun z => decide (z ∉ qs)) hkl
      have := handL_len (hs := hs) (lot := (LL.getD j []).getD 0 [])
      omega
  | back rs =>
    obtain ⟨h1, h2⟩ := hok
    have hbl : bk.length ≤ 3 := Nat.le_trans (lot_len ⟨hbr, hbu⟩) okp.back.1
    refine if_wordS (by rfl) (by rfl) (fun h => absurd h (by decide +kernel)) (fun _ => ?_)
    refine if_wordS (by rfl) (by rfl) (fun h => absurd h (by decide +kernel)) (fun _ => ?_)
    refine if_wordS (by rfl) (by rfl) (fun _ => ?_) (fun h => absurd rfl h)
    refine ⟨_, hb, ?_⟩
    refine DL.lc_map (μ := μ) (asLong_of hb) Vl.int (fun i => .int (rs.getD i.toNat 0)) bk [] (fun i hi P hP => ?_) ?_
    · obtain ⟨b1, b2⟩ := hbr i hi
      refine ⟨_, iT rs, rfl, rfl, _, .int (rs.getD i.toNat 0), rfl, ?_, hP⟩
      have := atI_nat (xs := rs.map Vl.int) (i := i.toNat) (x := .int (rs.getD i.toNat 0)) (by rw [List.getElem?_map, getD_of (xs := rs) (i := i.toNat) (d := 0) (by omega)]; rfl)
      rw [show ((i.toNat : Nat) : Int) = i by omega] at this
      exact this
    refine .inl ?_
    refine ⟨by show 0 ≤ _; omega, .inl ?_⟩
    refine ⟨_, _, bk.map fun i => rs.getD i.toNat 0, [], rfl, ?_, rfl, by simp; omega, fun out g1 g2 => fin out g1 fun z => ?_⟩
    · show some _ = some _
      simp
    · rw [g2 z, List.append_nil]; rfl
  | go i =>
    refine if_wordS (by rfl) (by rfl) (fun h => absurd h (by decide +kernel)) (fun _ => ?_)
    refine if_wordS (by rfl) (by rfl) (fun h => absurd h (by decide +kernel)) (fun _ => ?_)
    refine if_wordS (by rfl) (by rfl) (fun h => absurd h (by decide +kernel)) (fun _ => ?_)
    refine ⟨_, ks.map kb, rfl, hdp, by rw [List.length_map]; omega, .inl ?_⟩
    rw [kb_keys]
    refine ⟨_, .str "go", rfl, rfl, ?_⟩
    refine ⟨by show 0 ≤ _; omega, .inl ?_⟩
    exact ⟨_, _, ks, [], rfl, rfl, rfl, by simp; omega, fun out g1 g2 => fin out g1 fun z => by rw [g2 z, List.append_nil]; rfl⟩
  | test w rs y n =>
    have hsz : rs.length ≤ 4 := hsz
    refine if_wordS (by rfl) (by rfl) (fun h => absurd h (by decide +kernel)) (fun _ => ?_)
    refine if_wordS (by rfl) (by rfl) (fun h => absurd h (by decide +kernel)) (fun _ => ?_)
    refine if_wordS (by rfl) (by rfl) (fun h => absurd h (by decide +kernel)) (fun _ => ?_)
    refine ⟨_, ks.map kb, rfl, hdp, by rw [List.length_map]; omega, .inl ?_⟩
    rw [kb_keys]
    refine ⟨_, .str "test", rfl, rfl, ?_⟩
    refine ⟨_, iT rs, rfl, rfl, ?_⟩
    exact ⟨_, _, ks, rs, rfl, rfl, rfl, by omega, fun out g1 g2 => fin out g1 g2⟩
  | deed w rs =>
    have hsz : rs.length ≤ 4 := hsz
    refine if_wordS (by rfl) (by rfl) (fun h => absurd h (by decide +kernel)) (fun _ => ?_)
    refine if_wordS (by rfl) (by rfl) (fun h => absurd h (by decide +kernel)) (fun _ => ?_)
    refine if_wordS (by rfl) (by rfl) (fun h => absurd h (by decide +kernel)) (fun _ => ?_)
    refine ⟨_, ks.map kb, rfl, hdp, by rw [List.length_map]; omega, .inl ?_⟩
    rw [kb_keys]
    refine ⟨_, .str "deed", rfl, rfl, ?_⟩
    refine ⟨_, iT rs, rfl, rfl, ?_⟩
    exact ⟨_, _, ks, rs, rfl, rfl, rfl, by omega, fun out g1 g2 => fin out g1 g2⟩
end K65

set_option maxHeartbeats 1000000
/-! ZL: the law's own lots: what comes next, what is needed at a place. -/
namespace K65
open PySem PySem.Spec L2 StX PyProof.Rows DL
theorem seq_i {A U : DS} {D : DEnds} {ρ : Rho} {μ : Mu} (h : A { D with nx := fun ρ' μ' => U D ρ' μ' } ρ μ) : dSeq A U D ρ μ := h
def c__law_nexts : Ct := fun xs μ Q => ∃ (y : Vl) (p : Pr) (i : Nat) (s : St), xs = [y, .int i] ∧ sview μ y = some (p.steps.map St.t) ∧ p.steps[i]? = some s ∧ Q (.lst ((s.nexts i).map nI)) μ
def b__law_nexts : DS :=
    (dSeq (dAsg (dOp dIx (dVar 0) (dVar 1)) (dgName 2))
    (dSeq (dIf (dTest (dOp dEq (dOp dIx (dVar 2) (dC (.int 0))) (dC (.str "test")))) (dRet (dLst (dCons (dOp dIx (dVar 2) (dC (.int 3))) (dCons (dOp dIx (dVar 2) (dC (.int 4))) dNil)))) dNext)
    (dRet (dIfE (dTest (dOp dEq (dOp dIx (dVar 2) (dC (.int 0))) (dC (.str "back")))) (dLst dNil) (dIfE (dTest (dOp dEq (dOp dIx (dVar 2) (dC (.int 0))) (dC (.str "go")))) (dLst (dCons (dOp dIx (dVar 2) (dC (.int 1))) dNil)) (dLst (dCons (dOp dAdd (dVar 1) (dC (.int 1))) dNil)))))))
theorem l__law_nexts : ∀ xs μ Q, c__law_nexts xs μ Q → xs.length = 2 := by
  intro xs μ Q ⟨_, _, _, _, e, _⟩; subst e; rfl
theorem rfb_nIL {n : Nat} {l : List Nat} : rfb n (.lst (l.map nI)) = true := by
  rw [rfb]
  induction l with
  | nil => rfl
  | cons a l ih => rw [List.map_cons, rfbs, ih, nI, rfb_int]; rfl
theorem r__law_nexts : ∀ xs μ Q, c__law_nexts xs μ Q → b__law_nexts (pureEnds μ Q) (startD ["steps", "place", "step"] xs) μ := by
  intro xs μ Q ⟨y, p, i, s, e, hy, hs, q⟩
  subst e
  have hsl := sizeLine_eq
  refine asg_s ⟨_, s.t, hy, atI_nat (by rw [List.getElem?_map, hs]; rfl), ?_⟩
  have fin : ∀ {l : List Nat}, l = s.nexts i → (pureEnds μ Q).rt (.lst (l.map nI)) μ := fun e => by
    subst e
    exact DL.pure_rt rfb_nIL q
  cases s with
  | test w rs y n =>
    refine if_wordS (by rfl) (by rfl) (fun _ => ?_) (fun h => absurd rfl h)
    exact ⟨_, .int y, rfl, rfl, _, .int n, rfl, rfl, by show 2 ≤ _; omega, .inl (fin (l := [y, n]) rfl)⟩
  | back rs =>
    refine if_wordS (by rfl) (by rfl) (fun h => absurd h (by decide +kernel)) (fun _ => ?_)
    refine ret_s (ifE_word (by rfl) (by rfl) (fun _ => ?_) (fun h => absurd rfl h))
    exact ⟨by show 0 ≤ _; omega, .inl (fin (l := []) rfl)⟩
  | go j =>
    refine if_wordS (by rfl) (by rfl) (fun h => absurd h (by decide +kernel)) (fun _ => ?_)
    refine ret_s (ifE_word (by rfl) (by rfl) (fun h => absurd h (by decide +kernel)) (fun h => ?_))
    refine ifE_word (by rfl) (by rfl) (fun _ => ?_) (fun h => absurd rfl h)
    exact ⟨_, .int j, rfl, rfl, by show 1 ≤ _; omega, .inl (fin (l := [j]) rfl)⟩
  | set r c qs =>
    refine if_wordS (by rfl) (by rfl) (fun h => absurd h (by decide +kernel)) (fun _ => ?_)
    refine ret_s (ifE_word (by rfl) (by rfl) (fun h => absurd h (by decide +kernel)) (fun h => ?_))
    refine ifE_word (by rfl) (by rfl) (fun h => absurd h (by decide +kernel)) (fun h => ?_)
    exact ⟨by show 1 ≤ _; omega, .inl (fin (l := [i + 1]) rfl)⟩
  | deed w rs =>
    refine if_wordS (by rfl) (by rfl) (fun h => absurd h (by decide +kernel)) (fun _ => ?_)
    refine ret_s (ifE_word (by rfl) (by rfl) (fun h => absurd h (by decide +kernel)) (fun h => ?_))
    refine ifE_word (by rfl) (by rfl) (fun h => absurd h (by decide +kernel)) (fun h => ?_)
    exact ⟨by show 1 ≤ _; omega, .inl (fin (l := [i + 1]) rfl)⟩
  | call j hs qs =>
    refine if_wordS (by rfl) (by rfl) (fun h => absurd h (by decide +kernel)) (fun _ => ?_)
    refine ret_s (ifE_word (by rfl) (by rfl) (fun h => absurd h (by decide +kernel)) (fun h => ?_))
    refine ifE_word (by rfl) (by rfl) (fun h => absurd h (by decide +kernel)) (fun h => ?_)
    exact ⟨by show 1 ≤ _; omega, .inl (fin (l := [i + 1]) rfl)⟩
/-! lots as the law keeps them: lists of lists -/
def iL (ns : List Int) : Vl := .lst (ns.map .int)
def LRow (μ : Mu) (r : Vl) (L : List (List Int)) : Prop := sview μ r = some (L.map iL)
def LotsM (μ : Mu) (x : Vl) (LL : List (List (List Int))) : Prop := ∃ rows, sview μ x = some rows ∧ All2 (LRow μ) rows LL
def p__law_lot : Ct := fun xs μ Q => ∃ (ps : List Pr) (p : Pr) (num pl : Nat) (s : St) (x b : Vl) (LL : List (List (List Int))) (BB : List (List Int)), xs = [codeV ps, x, b, .int num, .int pl] ∧ Good ps ∧ ps[num]? = some p ∧ p.steps[pl]? = some s ∧ LotsM μ x LL ∧ LotsOk ps LL ∧ LRow μ b BB ∧ BacksOk ps BB ∧
  ∀ out : List Int, out.Pairwise (· < ·) → (∀ z, z ∈ out ↔ z ∈ s.need (behindL (LL.getD num []) s pl) LL (BB.getD num [])) → Q (iL out) μ
def c__law_lot : Ct := Shut p__law_lot
def s__law_lot_1 : DS :=
    (dAsg (dOp dIx (dOp dIx (dVar 0) (dVar 3)) (dC (.int 4))) (dgName 5))
def s__law_lot_2 : DS :=
    (dAsg (dTup (dCons (dOp dIx (dVar 5) (dVar 4)) (dCons (dLst dNil) dNil))) (dgTup 2 (dgCons (dgName 6) (dgCons (dgName 7) dgNil))))
def s__law_lot_3 : DS :=
    (dFor (dIter (dCall c__law_nexts (dCons (dVar 5) (dCons (dVar 4) dNil)))) (dgName 8) (dAsg (dOp dAdd (dVar 7) (dOp dIx (dOp dIx (dVar 1) (dVar 3)) (dVar 8))) (dgName 7)))
def s__law_lot_4 : DS :=
    (dIf (dTest (dOp dEq (dOp dIx (dVar 6) (dC (.int 0))) (dC (.str "set")))) (dAsg (dIfE (dTest (dOp (dInS true) (dOp dIx (dVar 6) (dC (.int 1))) (dVar 7))) (dVar 7) (dOp dAdd (dLc (dIter (dVar 7)) (dgName 8) (dTest (dOp dNe (dVar 8) (dOp dIx (dVar 6) (dC (.int 1))))) (dVar 8) [8]) (dLc (dIter (dOp dIx (dVar 6) (dC (.int 3)))) (dgName 9) dYes (dOp dIx (dVar 9) (dC (.int 0))) [9]))) (dgName 7)) (dIf (dTest (dOp (dInS false) (dOp dIx (dVar 6) (dC (.int 0))) (dTup (dCons (dC (.str "test")) (dCons (dC (.str "deed")) dNil))))) (dAsg (dOp dAdd (dVar 7) (dCB fList (dCons (dOp dIx (dVar 6) (dC (.int 2))) dNil))) (dgName 7)) (dIf (dTest (dOp dEq (dOp dIx (dVar 6) (dC (.int 0))) (dC (.str "call")))) (dAsg (dOp dAdd (dLc (dIter (dVar 7)) (dgName 8) (dTest (dOp (dInS true) (dVar 8) (dOp dIx (dVar 6) (dC (.int 3))))) (dVar 8) [8]) (dLc (dEnum (dCons (dOp dIx (dVar 6) (dC (.int 2))) dNil)) (dgTup 2 (dgCons (dgName 10) (dgCons (dgName 8) dgNil))) (dTest (dOp (dInS false) (dVar 10) (dOp dIx (dOp dIx (dVar 1) (dOp dIx (dVar 6) (dC (.int 1)))) (dC (.int 0))))) (dVar 8) [10, 8])) (dgName 7)) (dIf (dTest (dOp dEq (dOp dIx (dVar 6) (dC (.int 0))) (dC (.str "back")))) (dAsg (dLc (dIter (dOp dIx (dVar 2) (dVar 3))) (dgName 10) dYes (dOp dIx (dOp dIx (dVar 6) (dC (.int 1))) (dVar 10)) [10]) (dgName 7)) dNext))))
def s__law_lot_5 : DS :=
    (dRet (dCB fSortedSet (dCons (dVar 7) dNil)))
def t__law_lot_5 : DS := s__law_lot_5
def t__law_lot_4 : DS := dSeq (s__law_lot_4) (t__law_lot_5)
def t__law_lot_3 : DS := dSeq (s__law_lot_3) (t__law_lot_4)
def t__law_lot_2 : DS := dSeq (s__law_lot_2) (t__law_lot_3)
def t__law_lot_1 : DS := dSeq (s__law_lot_1) (t__law_lot_2)
def b__law_lot : DS := t__law_lot_1
theorem l__law_lot : ∀ xs μ Q, c__law_lot xs μ Q → xs.length = 5 := by
  intro xs μ Q ⟨_, _, _, _, _, _, _, _, _, e, _⟩; subst e; rfl
theorem flV_str2 : flVs ([.str "test", .str "deed"] : List Vl) = some [.str "test", .str "deed"] := rfl
theorem if_in2 {i : Nat} {x : Vl} {w : Str} {r : List Vl} {A B : DS} {D : DEnds} {ρ : Rho} {μ : Mu} (hi : ρ[i]? = some (some x)) (hv : sview μ x = some (.str w :: r)) (h1 : inV (.str w) [.str "test", .str "deed"] = true → A D ρ μ) (h2 : inV (.str w) [.str "test", .str "deed"] = false → B D ρ μ) :
    dIf (dTest (dOp (dInS false) (dOp dIx (dVar i) (dC (.int 0))) (dTup (dCons (dC (.str "test")) (dCons (dC (.str "deed")) dNil))))) A B D ρ μ := by
  unfold dIf dTest dOp
  refine dVar_at hi ?_
  refine ⟨.str w :: r, .str w, hv, atI0, ?_⟩
  refine ⟨by rw [sizeLine_eq]; show 2 ≤ _; omega, ?_⟩
  refine ⟨_, _, _, rfl, rfl, flV_str2, ?_⟩
  cases h : inV (.str w) [.str "test", .str "deed"] with
  | true => exact h1 h
  | false => exact h2 h
section
variable {ps : List Pr} {p : Pr} {num pl : Nat} {s : St} {x b : Vl} {LL : List (List (List Int))} {BB : List (List Int)} {μ : Mu} {Q : DK}
abbrev rhoT (ps : List Pr) (p : Pr) (num pl : Nat) (s : St) (x b : Vl) (f : List Int) (o8 : Option Vl) : Rho := [some (codeV ps), some x, some b, some (.int num), some (.int pl), some (.tup (p.steps.map St.t)), some s.t, some (.lst (f.map .int)), o8, none, none]
theorem lot_5 {f g : List Int} {o8 : Option Vl} (hl : g.length < 64) (q : ∀ out : List Int, out.Pairwise (· < ·) → (∀ z, z ∈ out ↔ z ∈ g) → Q (iL out) μ) : t__law_lot_5 (spEnds Q) (rhoT ps p num pl s x b g o8) μ :=
  ⟨_, g, rfl, rfl, hl, fun out h1 h2 => .inl (q out h1 h2)⟩
theorem lot_4 {f : List Int} {o8 : Option Vl} (gd : Good ps) (hp : ps[num]? = some p) (hst : p.steps[pl]? = some s) (hx : LotsM μ x LL) (hLL : LotsOk ps LL) (hb : LRow μ b BB) (hBB : BacksOk ps BB) (hf : f.length ≤ 6)
    (q : ∀ out : List Int, out.Pairwise (· < ·) → (∀ z, z ∈ out ↔ z ∈ s.need f LL (BB.getD num [])) → Q (iL out) μ) : t__law_lot_4 (spEnds Q) (rhoT ps p num pl s x b f o8) μ := by
  have hsl := sizeLine_eq
  have okp := gd.ok p (List.mem_of_getElem? hp)
  have hok := okp.ok s (List.mem_of_getElem? hst)
  have hsz := st_regs hok okp.regs.2 (fun c hc => (gd.ok c hc).handed.1)
  have fin : ∀ (g : List Int), g.length < 64 → (∀ z, z ∈ g ↔ z ∈ s.need f LL (BB.getD num [])) → ∀ o8, t__law_lot_5 (spEnds Q) (rhoT ps p num pl s x b g o8) μ := fun g h1 h2 o8 => lot_5 (ps := ps) (p := p) (num := num) (pl := pl) (s := s) (x := x) (b := b) (f := f) (g := g) (o8 := o8) h1 fun out a1 a2 => q out a1 fun z => (a2 z).trans (h2 z)
  unfold t__law_lot_4 s__law_lot_4
  cases s with
  | set r c qs =>
    have hsz : qs.length ≤ 3 := hsz
    refine seq_i (if_word (by rfl) (by rfl) (fun _ => ?_) (fun h => absurd rfl h))
    refine ⟨_, .int r, rfl, rfl, ?_⟩
    refine ⟨_, _, _, rfl, rfl, flVs_ints f, ?_⟩
    rw [inV_ints]
    refine dec_splitN (p := r ∈ f) (fun hr => ?_) (fun hr => ?_)
    · refine fin f (by omega) (fun z => ?_) o8
      rw [St.need, if_neg hr]
    · refine ⟨_, rfl, ?_⟩
      refine DL.lc_filter (μ := μ) trivial .int (fun z => decide (z ≠ r)) .int f [] (fun z hz P R hR hP => ?_) ?_
      · refine ⟨_, .int r, rfl, rfl, ?_⟩
        exact dec_splitN (p := z = r) (fun h => hR (decide_eq_true h)) (fun h => hP (decide_eq_false fun g => g h))
      refine .inl ?_
      refine ⟨_, .tup (qs.map pairV), rfl, rfl, _, rfl, ?_⟩
      refine DL.lc_map (μ := μ) trivial pairV (fun q => .int q.1) qs [] (fun q hq P hP => ⟨_, .int q.1, rfl, rfl, hP⟩) ?_
      refine .inl ?_
      have h6 := filter_len (p := fun z => decide (z ≠ r)) hf
      refine ⟨_, _, rfl, rfl, by simp only [List.nil_append, List.length_map]; omega, .inl ?_⟩
      have e : ([] ++ (f.filter fun z => decide (z ≠ r)).map Vl.int) ++ ([] ++ qs.map fun q => Vl.int q.1) = ((f.filter fun z => decide (z ≠ r)) ++ slots qs).map .int := by simp [slots]
      rw [e]
      refine fin _ (by rw [List.length_append, show (slots qs).length = qs.length by simp [slots]]; omega) (fun z => ?_) o8
      rw [St.need, if_pos hr]
  | test w rs y n =>
    have hsz : rs.length ≤ 4 := hsz
    refine seq_i (if_word (by rfl) (by rfl) (fun h => absurd h (by decide +kernel)) (fun _ => ?_))
    refine if_in2 (by rfl) (by rfl) (fun _ => ?_) (fun h => absurd h (by decide +kernel))
    refine ⟨_, iT rs, rfl, rfl, _, _, rfl, rfl, .inl ?_⟩
    refine ⟨_, _, rfl, rfl, by simp only [List.length_map]; omega, .inl ?_⟩
    rw [← List.map_append]
    exact fin _ (by show (_ ++ _ : List Int).length < 64; rw [List.length_append]; omega) (fun z => Iff.rfl) o8
  | deed w rs =>
    have hsz : rs.length ≤ 4 := hsz
    refine seq_i (if_word (by rfl) (by rfl) (fun h => absurd h (by decide +kernel)) (fun _ => ?_))
    refine if_in2 (by rfl) (by rfl) (fun _ => ?_) (fun h => absurd h (by decide +kernel))
    refine ⟨_, iT rs, rfl, rfl, _, _, rfl, rfl, .inl ?_⟩
    refine ⟨_, _, rfl, rfl, by simp only [List.length_map]; omega, .inl ?_⟩
    rw [← List.map_append]
    exact fin _ (by show (_ ++ _ : List Int).length < 64; rw [List.length_append]; omega) (fun z => Iff.rfl) o8
  | call j hs qs =>
    have hsz : hs.length ≤ 3 := hsz
    obtain ⟨h1, c, hc, h2, h3, h4, h5, h6⟩ := hok
    obtain ⟨rows, hx1, hx2⟩ := hx
    obtain ⟨l1, l2, l3⟩ := lot0 gd hLL hc
    obtain ⟨row, hr1, hr2⟩ := hx2.get l1
    refine seq_i (if_word (by rfl) (by rfl) (fun h => absurd h (by decide +kernel)) (fun _ => ?_))
    refine if_in2 (by rfl) (by rfl) (fun h => absurd h (by decide +kernel)) (fun _ => ?_)
    refine if_word (by rfl) (by rfl) (fun _ => ?_) (fun h => absurd rfl h)
    refine ⟨_, rfl, ?_⟩
    refine DL.lc_filter (μ := μ) trivial .int (fun z => decide (z ∉ qs)) .int f [] (fun z hz P R hR hP => ?_) ?_
    · refine ⟨_, iT qs, rfl, rfl, ?_⟩
      refine ⟨_, _, _, rfl, rfl, flVs_ints _, ?_⟩
      rw [inV_ints]
      exact dec_splitN (p := z ∈ qs) (fun h => hR (decide_eq_true h)) (fun h => hP (decide_eq_false fun g => g h))
    refine .inl ?_
    refine ⟨_, iT hs, rfl, rfl, _, hs.map .int, rfl, rfl, ?_⟩
    rw [numbered_zip]
    refine DL.lc_filter (μ := μ) trivial (fun p : Int × Nat => Vl.tup [.int (p.2 : Int), .int p.1]) (fun p => decide ((p.2 : Int) ∈ (LL.getD j []).getD 0 [])) (fun p => .int p.1) hs.zipIdx [] (fun z hz P R hR hP => ?_) ?_
    · refine ⟨rfl, rfl, ?_⟩
      refine ⟨_, .int j, rfl, rfl, rows, row, hx1, atI_nat hr1, _, iL ((LL.getD j []).getD 0 []), hr2, atI_nat (i := 0) (by rw [List.getElem?_map, l2]; rfl), ?_⟩
      refine ⟨_, _, _, rfl, rfl, flVs_ints _, ?_⟩
      rw [inV_ints]
      exact dec_splitE (p := (z.2 : Int) ∈ (LL.getD j []).getD 0 []) (fun h => hR (decide_eq_true h)) (fun h => hP (decide_eq_false h))
    refine .inl ?_
    have a1 := filter_len (p := fun z => decide (z ∉ qs)) hf
    have a2 := handL_len (hs := hs) (lot := (LL.getD j []).getD 0 [])
    have e : ([] ++ (f.filter fun z => decide (z ∉ qs)).map Vl.int) ++ ([] ++ ((hs.zipIdx.filter fun p => decide ((p.2 : Int) ∈ (LL.getD j []).getD 0 [])).map fun p => Vl.int p.1)) = ((f.filter fun z => decide (z ∉ qs)) ++ handL hs ((LL.getD j []).getD 0 [])).map .int := by simp [handL]
    refine ⟨_, _, rfl, rfl, ?_, .inl ?_⟩
    · rw [← List.length_append, e, List.length_map, List.length_append]; omega
    rw [e]
    exact fin _ (by show (_ ++ _ : List Int).length < 64; rw [List.length_append]; omega) (fun z => Iff.rfl) o8
  | back rs =>
    obtain ⟨h1, h2⟩ := hok
    have hbk : BB[num]? = some (BB.getD num []) := getD_of (by rw [hBB.len]; exact (List.getElem?_eq_some_iff.mp hp).1)
    obtain ⟨hbr, hbu⟩ := hBB.ok num p _ hp hbk
    have hbl : (BB.getD num []).length ≤ 3 := Nat.le_trans (lot_len ⟨hbr, hbu⟩) okp.back.1
    refine seq_i (if_word (by rfl) (by rfl) (fun h => absurd h (by decide +kernel)) (fun _ => ?_))
    refine if_in2 (by rfl) (by rfl) (fun h => absurd h (by decide +kernel)) (fun _ => ?_)
    refine if_word (by rfl) (by rfl) (fun h => absurd h (by decide +kernel)) (fun _ => ?_)
    refine if_word (by rfl) (by rfl) (fun _ => ?_) (fun h => absurd rfl h)
    refine ⟨_, iL (BB.getD num []), hb, atI_nat (by rw [List.getElem?_map, hbk]; rfl), _, rfl, ?_⟩
    refine DL.lc_map (μ := μ) trivial Vl.int (fun i => .int (rs.getD i.toNat 0)) (BB.getD num []) [] (fun i hi P hP => ?_) ?_
    · obtain ⟨b1, b2⟩ := hbr i hi
      refine ⟨_, iT rs, rfl, rfl, _, .int (rs.getD i.toNat 0), rfl, ?_, hP⟩
      have := atI_nat (xs := rs.map Vl.int) (i := i.toNat) (x := .int (rs.getD i.toNat 0)) (by rw [List.getElem?_map, getD_of (xs := rs) (i := i.toNat) (d := 0) (by omega)]; rfl)
      rw [show ((i.toNat : Nat) : Int) = i by omega] at this
      exact this
    refine .inl ?_
    rw [List.nil_append, show ((BB.getD num []).map fun i => Vl.int (rs.getD i.toNat 0)) = ((BB.getD num []).map fun i => rs.getD i.toNat 0).map .int by rw [List.map_map]; rfl]
    exact fin _ (by show (List.map _ _ : List Int).length < 64; rw [List.length_map]; omega) (fun z => Iff.rfl) o8
  | go i =>
    refine seq_i (if_word (by rfl) (by rfl) (fun h => absurd h (by decide +kernel)) (fun _ => ?_))
    refine if_in2 (by rfl) (by rfl) (fun h => absurd h (by decide +kernel)) (fun _ => ?_)
    refine if_word (by rfl) (by rfl) (fun h => absurd h (by decide +kernel)) (fun _ => ?_)
    refine if_word (by rfl) (by rfl) (fun h => absurd h (by decide +kernel)) (fun _ => ?_)
    exact fin f (by omega) (fun z => Iff.rfl) o8
end
theorem r__law_lot : ∀ xs μ Q, c__law_lot xs μ Q → b__law_lot (spEnds Q) (startD ["plain", "lots", "backs", "number", "place", "steps", "step", "later", "one", "pair", "at"] xs) μ := by
  intro xs μ Q ⟨ps, p, num, pl, s, x, b, LL, BB, e, gd, hp, hs, hx, hLL, hb, hBB, q⟩
  subst e
  have hsl := sizeLine_eq
  have okp := gd.ok p (List.mem_of_getElem? hp)
  have hL : LL[num]? = some (LL.getD num []) := getD_of (by rw [hLL.len]; exact (List.getElem?_eq_some_iff.mp hp).1)
  have hR := hLL.ok num p _ hp hL
  refine ⟨_, p.v, rfl, atI_nat (by rw [List.getElem?_map, hp]; rfl), _, .tup (p.steps.map St.t), rfl, rfl, ?_⟩
  refine ⟨_, s.t, rfl, atI_nat (by rw [List.getElem?_map, hs]; rfl), by show 0 ≤ _; omega, .inl ?_⟩
  refine ⟨by show 2 ≤ _; omega, rfl, rfl, ?_⟩
  refine ⟨_, p, pl, s, rfl, rfl, hs, ?_⟩
  refine ⟨_, rfl, ?_⟩
  obtain ⟨rows, hx1, hx2⟩ := id hx
  obtain ⟨row, hr1, hr2⟩ := hx2.get hL
  refine DL.forD_inv (fun rest ρ μ1 => ∃ (A R : List Nat) (o8 : Option Vl), A ++ R = s.nexts pl ∧ rest = R.map nI ∧ μ1 = μ ∧ ρ = rhoT ps p num pl s x b ((A.map fun q => (LL.getD num []).getD q []).flatten) o8) (fun _ _ _ _ => trivial) (fun ρ μ1 h => ?_) (fun y rest ρ μ1 h D hD hrt _ => ?_) _ _ _ ?_
  · obtain ⟨A, R, o8, e0, e1, e2, e3⟩ := h
    subst e2; subst e3
    have : R = [] := by cases R with
      | nil => rfl
      | cons a r => cases e1
    subst this
    rw [List.append_nil] at e0
    subst e0
    exact lot_4 gd hp hs hx hLL hb hBB (behind_in okp hR hs).2 q
  · obtain ⟨A, R, o8, e0, e1, e2, e3⟩ := h
    subst e2; subst e3
    cases R with
    | nil => cases e1
    | cons j R =>
      have ey := (List.cons.inj e1).1
      have er := (List.cons.inj e1).2
      subst ey; subst er
      have hj : j < p.steps.length := nexts_lt okp hs j (by rw [← e0]; simp)
      have hc := row_at hR hj
      refine ⟨rows, row, hx1, atI_nat hr1, _, iL ((LL.getD num []).getD j []), hr2, atI_nat (by rw [List.getElem?_map, hc]; rfl), ?_⟩
      have bl := (behind_in okp hR hs).2
      have ef : ((A.map fun q => (LL.getD num []).getD q []).flatten).length + ((LL.getD num []).getD j []).length ≤ 6 := by
        refine Nat.le_trans ?_ bl
        unfold behindL
        rw [← e0]
        simp
      refine ⟨_, _, rfl, rfl, by simp only [List.length_map]; omega, .inl ?_⟩
      rw [← List.map_append]
      refine hD _ _ ⟨A ++ [j], R, some (nI j), by rw [List.append_assoc]; exact e0, rfl, rfl, ?_⟩
      rw [show ((A ++ [j]).map fun q => (LL.getD num []).getD q []).flatten = (A.map fun q => (LL.getD num []).getD q []).flatten ++ (LL.getD num []).getD j [] by simp]
      rfl
  · exact ⟨[], s.nexts pl, none, rfl, rfl, rfl, rfl⟩
end K65

set_option maxHeartbeats 1000000
/-! ZM: closed lots: by the package, by the law. -/
namespace K65
open PySem PySem.Spec L2 StX PyProof.Rows DL
def rowT (L : List (List Int)) : Vl := .tup (L.map iT)
def StClosed (LL : List (List (List Int))) (BB : List (List Int)) (num pl : Nat) (s : St) : Prop :=
  (∀ z ∈ s.need (behindL (LL.getD num []) s pl) LL (BB.getD num []), z ∈ (LL.getD num []).getD pl []) ∧
  match s with
  | .call j _ qs => ∀ (i : Nat) (q : Int), qs[i]? = some q → q ∈ (LL.getD num []).getD (pl + 1) [] → (i : Int) ∈ BB.getD j []
  | _ => True
def Closed (ps : List Pr) (LL : List (List (List Int))) (BB : List (List Int)) : Prop :=
  (∀ p, ps[0]? = some p → BB.getD 0 [] = rngI p.back) ∧ ∀ (num : Nat) (p : Pr), ps[num]? = some p → ∀ (pl : Nat) (s : St), p.steps[pl]? = some s → StClosed LL BB num pl s
theorem All2.mapL {α β : Type} {R : α → β → Prop} (f : β → α) : ∀ xs : List β, (∀ x ∈ xs, R (f x) x) → All2 R (xs.map f) xs
  | [], _ => .nil
  | x :: xs, h => .cons (h x List.mem_cons_self) (All2.mapL f xs fun y hy => h y (List.mem_cons_of_mem _ hy))
theorem cellT {μ : Mu} {c : List Int} : CellV μ (iT c) c := rfl
theorem rowV_T {μ : Mu} {L : List (List Int)} : RowV μ (rowT L) L := ⟨_, rfl, All2.mapL iT L fun _ _ => cellT⟩
theorem lotsV_T {μ : Mu} {LL : List (List (List Int))} : LotsV μ (.tup (LL.map rowT)) LL := ⟨_, rfl, All2.mapL rowT LL fun _ _ => rowV_T⟩
theorem if_andW {i : Nat} {x : Vl} {w w' : Str} {r : List Vl} {T : DT} {A B : DS} {D : DEnds} {ρ : Rho} {μ : Mu} (hi : ρ[i]? = some (some x)) (hv : sview μ x = some (.str w :: r)) (h1 : w = w' → dIf T A B D ρ μ) (h2 : w ≠ w' → B D ρ μ) :
    dIf (dAndT (dTest (dOp dEq (dOp dIx (dVar i) (dC (.int 0))) (dC (.str w')))) T) A B D ρ μ := by
  unfold dIf dAndT dTest dOp
  refine dVar_at hi ?_
  refine ⟨.str w :: r, .str w, hv, atI0, ?_⟩
  exact dec_splitE (p := w = w') h1 h2
theorem seq_if {T : DT} {A U : DS} {D : DEnds} {ρ : Rho} {μ : Mu} (h : T ρ μ fun b μ1 => match b with
    | true => A { D with nx := fun ρ' μ' => U D ρ' μ' } ρ μ1
    | false => U D ρ μ1) : dSeq (dIf T A dNext) U D ρ μ := h
theorem s_word (s : St) : (∃ j hs qs, s = .call j hs qs) ∨ (∃ w r, s.v = .str w :: r ∧ w ≠ "call" ∧ ∀ LL BB num pl, StClosed LL BB num pl s ↔ ∀ z ∈ s.need (behindL (LL.getD num []) s pl) LL (BB.getD num []), z ∈ (LL.getD num []).getD pl []) := by
  cases s with
  | call j hs qs => exact .inl ⟨_, _, _, rfl⟩
  | set r c qs => exact .inr ⟨_, _, rfl, by decide +kernel, fun _ _ _ _ => ⟨fun h => h.1, fun h => ⟨h, trivial⟩⟩⟩
  | test w rs y n => exact .inr ⟨_, _, rfl, by decide +kernel, fun _ _ _ _ => ⟨fun h => h.1, fun h => ⟨h, trivial⟩⟩⟩
  | deed w rs => exact .inr ⟨_, _, rfl, by decide +kernel, fun _ _ _ _ => ⟨fun h => h.1, fun h => ⟨h, trivial⟩⟩⟩
  | go i => exact .inr ⟨_, _, rfl, by decide +kernel, fun _ _ _ _ => ⟨fun h => h.1, fun h => ⟨h, trivial⟩⟩⟩
  | back rs => exact .inr ⟨_, _, rfl, by decide +kernel, fun _ _ _ _ => ⟨fun h => h.1, fun h => ⟨h, trivial⟩⟩⟩
theorem all_iff {α : Type} {f : α → Bool} {xs : List α} : ((xs.map f).all id = true) ↔ ∀ x ∈ xs, f x = true := by simp
theorem map_blF {α : Type} {μ : Mu} (f : α → Bool) (xs : List α) : lview μ (.lst ([] ++ xs.map fun x => Vl.bl (f x))) = some ((xs.map f).map .bl) := by
  show some _ = some _
  rw [List.nil_append, List.map_map]; rfl
theorem zipIdx_mem {hs : List Int} {z : Int × Nat} : z ∈ hs.zipIdx ↔ hs[z.2]? = some z.1 := by
  obtain ⟨a, i⟩ := z
  rw [List.mem_zipIdx_iff_getElem?]
theorem call_found {LL : List (List (List Int))} {num pl j : Nat} {hs qs : List Int} : behindL (LL.getD num []) (.call j hs qs) pl = (LL.getD num []).getD (pl + 1) [] := by simp [behindL, St.nexts]
def c_is_closed (G : Cs) : Ct := fun xs μ Q => ∃ (c : Nat) (ps : List Pr) (LL : List (List (List Int))) (BB : List (List Int)), xs = [.ref c, .tup (BB.map iT), .tup (LL.map rowT)] ∧ μ[c]? = some (codeM G ps) ∧ Good ps ∧ LotsOk ps LL ∧ BacksOk ps BB ∧ ∀ v : Bool, (v = true ↔ Closed ps LL BB) → Q (.bl v) μ
def b_is_closed (G : Cs) : DS :=
    (dSeq (dIf (dTest (dOp dNe (dOp dIx (dVar 1) (dC (.int 0))) (dTupRg (dOp dIx (dOp dIx (dFld G.Code "procedures" (dVar 0)) (dC (.int 0))) (dC (.int 2)))))) (dRet (dC (.bl false))) dNext)
    (dSeq (dFor (dEnum (dCons (dFld G.Code "procedures" (dVar 0)) dNil)) (dgTup 2 (dgCons (dgName 3) (dgCons (dgName 4) dgNil))) (dFor (dEnum (dCons (dOp dIx (dVar 4) (dC (.int 4))) dNil)) (dgTup 2 (dgCons (dgName 5) (dgCons (dgName 6) dgNil))) (dSeq (dAsg (dCall c_behind (dCons (dOp dIx (dVar 2) (dVar 3)) (dCons (dOp dIx (dVar 4) (dC (.int 4))) (dCons (dVar 5) dNil)))) (dgName 7))
    (dSeq (dIf (dNotT (dTest (dCB fAll (dCons (dLc (dIter (dCall c_wanted (dCons (dVar 6) (dCons (dVar 7) (dCons (dVar 2) (dCons (dOp dIx (dVar 1) (dVar 3)) dNil)))))) (dgName 8) dYes (dOp (dInS false) (dVar 8) (dOp dIx (dOp dIx (dVar 2) (dVar 3)) (dVar 5))) [8]) dNil)))) (dRet (dC (.bl false))) dNext)
    (dIf (dAndT (dTest (dOp dEq (dOp dIx (dVar 6) (dC (.int 0))) (dC (.str "call")))) (dNotT (dTest (dCB fAll (dCons (dLc (dEnum (dCons (dOp dIx (dVar 6) (dC (.int 3))) dNil)) (dgTup 2 (dgCons (dgName 9) (dgCons (dgName 10) dgNil))) (dTest (dDInA false (dVar 10) (dVar 7))) (dOp (dInS false) (dVar 9) (dOp dIx (dVar 1) (dOp dIx (dVar 6) (dC (.int 1))))) [9, 10]) dNil))))) (dRet (dC (.bl false))) dNext)))))
    (dRet (dC (.bl true)))))
theorem l_is_closed (G : Cs) : ∀ xs μ Q, c_is_closed G xs μ Q → xs.length = 3 := by
  intro xs μ Q ⟨_, _, _, _, e, _⟩; subst e; rfl
theorem r_is_closed (G : Cs) : ∀ xs μ Q, c_is_closed G xs μ Q → b_is_closed G (pureEnds μ Q) (startD ["code", "backs", "lots", "number", "one", "place", "step", "found", "register", "at", "its"] xs) μ := by
  intro xs μ Q ⟨c, ps, LL, BB, e, hc, gd, hLL, hBB, q⟩
  subst e
  have hsl := sizeLine_eq
  have hlen := gd.len
  have hf : ∀ ex, (μ ++ ex)[c]? = some (.ins G.Code (codeFs ps)) := fun ex => by rw [List.getElem?_append_left (List.getElem?_eq_some_iff.mp hc).1]; exact hc
  obtain ⟨p0, hp0⟩ : ∃ p0, ps[0]? = some p0 := ⟨ps[0], List.getElem?_eq_getElem (by omega)⟩
  have no : ∀ ex, ¬ Closed ps LL BB → (pureEnds μ Q).rt (.bl false) (μ ++ ex) := fun ex h => DL.pure_rt' rfb_bl (q false ⟨fun e => Bool.noConfusion e, fun g => absurd g h⟩)
  have bat : ∀ {i : Nat} {p : Pr}, ps[i]? = some p → BB[i]? = some (BB.getD i []) := fun h => getD_of (by rw [hBB.len]; exact (List.getElem?_eq_some_iff.mp h).1)
  have lat : ∀ {i : Nat} {p : Pr}, ps[i]? = some p → LL[i]? = some (LL.getD i []) := fun h => getD_of (by rw [hLL.len]; exact (List.getElem?_eq_some_iff.mp h).1)
  have bix : ∀ {i : Nat} {p : Pr}, ps[i]? = some p → L2.atI (BB.map iT) (i : Int) = some (iT (BB.getD i [])) := fun h => atI_nat (by rw [List.getElem?_map, bat h]; rfl)
  have lix : ∀ {i : Nat} {p : Pr}, ps[i]? = some p → L2.atI (LL.map rowT) (i : Int) = some (rowT (LL.getD i [])) := fun h => atI_nat (by rw [List.getElem?_map, lat h]; rfl)
  refine ⟨_, iT (BB.getD 0 []), rfl, bix hp0, c, _, codeV ps, rfl, hc, rfl, _, p0.v, rfl, atI_nat (i := 0) (by rw [List.getElem?_map, hp0]; rfl), _, .int p0.back, rfl, rfl, p0.back, rfl, rg_ok (by have := (gd.ok p0 (List.mem_of_getElem? hp0)).back; omega), ?_⟩
  rw [show ((p0.back : Int)).toNat = p0.back by omega, rngD_rngI]
  refine eq_tupI ?_
  refine dec_splitN (p := BB.getD 0 [] = rngI p0.back) (fun h => ?_) (fun h0 => ?_)
  · have := no [] (fun g => h (g.1 p0 hp0))
    rw [List.append_nil] at this
    exact this
  refine ⟨c, _, codeV ps, rfl, hc, rfl, codeV ps, ps.map Pr.v, rfl, rfl, ?_⟩
  refine DL.forD_inv (fun rest ρ μ1 => ∃ (i : Nat) (ex : Mu) (o3 o4 o5 o6 o7 o8 o9 o10 : Option Vl), (numbered (ps.map Pr.v)).drop i = rest ∧ μ1 = μ ++ ex ∧ ρ = [some (.ref c), some (.tup (BB.map iT)), some (.tup (LL.map rowT)), o3, o4, o5, o6, o7, o8, o9, o10] ∧
    ∀ (num : Nat) (p : Pr), num < i → ps[num]? = some p → ∀ (pl : Nat) (s : St), p.steps[pl]? = some s → StClosed LL BB num pl s) (fun _ _ _ _ => trivial) (fun ρ μ1 h => ?_) (fun x rest ρ μ1 h D hD hrt _ => ?_) _ _ _ ?_
  · obtain ⟨i, ex, o3, o4, o5, o6, o7, o8, o9, o10, e0, e1, e2, hall⟩ := h
    subst e1; subst e2
    have hi : ps.length ≤ i := by
      have := congrArg List.length e0
      rw [List.length_drop, numbered_len, List.length_map] at this
      simp at this; omega
    refine DL.pure_rt' rfb_bl (q true ⟨fun _ => ⟨fun p hp => ?_, fun num p hp => hall num p (by have := (List.getElem?_eq_some_iff.mp hp).1; omega) hp⟩, fun _ => rfl⟩)
    rw [hp0] at hp
    cases hp
    exact h0
  · obtain ⟨i, ex, o3, o4, o5, o6, o7, o8, o9, o10, e0, e1, e2, hall⟩ := h
    subst e1; subst e2
    obtain ⟨y, hy, ex', hr⟩ := numbered_drop e0
    subst ex'
    rw [List.getElem?_map] at hy
    obtain ⟨p, hp, ey⟩ := Option.map_eq_some_iff.mp hy
    subst ey
    have okp := gd.ok p (List.mem_of_getElem? hp)
    have hR := hLL.ok i p _ hp (lat hp)
    have hB := hBB.ok i p _ hp (bat hp)
    refine ⟨rfl, rfl, ?_⟩
    refine ⟨_, .tup (p.steps.map St.t), rfl, rfl, _, p.steps.map St.t, rfl, rfl, ?_⟩
    refine DL.forD_inv (fun rest ρ μ1 => ∃ (j : Nat) (ex : Mu) (o5 o6 o7 o8 o9 o10 : Option Vl), (numbered (p.steps.map St.t)).drop j = rest ∧ μ1 = μ ++ ex ∧ ρ = [some (.ref c), some (.tup (BB.map iT)), some (.tup (LL.map rowT)), some (.int i), some p.v, o5, o6, o7, o8, o9, o10] ∧
      ∀ (pl : Nat) (s : St), pl < j → p.steps[pl]? = some s → StClosed LL BB i pl s) (fun _ _ _ _ => trivial) (fun ρ μ1 h => ?_) (fun x rest ρ μ1 h D2 hD2 hrt2 _ => ?_) _ _ _ ?_
    · obtain ⟨j, ex2, o5, o6, o7, o8, o9, o10, e0, e1, e2, hin⟩ := h
      have hj : p.steps.length ≤ j := by
        have := congrArg List.length e0
        rw [List.length_drop, numbered_len, List.length_map] at this
        simp at this; omega
      refine hD _ _ ⟨i + 1, ex2, _, _, _, _, _, _, _, _, hr, e1, e2, fun num p' hn hp' pl s hs => ?_⟩
      by_cases hni : num < i
      · exact hall num p' hni hp' pl s hs
      · have en : num = i := by omega
        subst en
        rw [hp] at hp'
        cases hp'
        exact hin pl s (by have := (List.getElem?_eq_some_iff.mp hs).1; omega) hs
    · obtain ⟨j, ex2, o5, o6, o7, o8, o9, o10, e0, e1, e2, hin⟩ := h
      subst e1; subst e2
      obtain ⟨y, hy, ex', hr2⟩ := numbered_drop e0
      subst ex'
      rw [List.getElem?_map] at hy
      obtain ⟨s, hs, ey⟩ := Option.map_eq_some_iff.mp hy
      subst ey
      have nope : ∀ ex, ¬ StClosed LL BB i j s → D2.rt (.bl false) (μ ++ ex) := fun ex h => by
        rw [hrt2, hrt]
        exact no ex fun g => h (g.2 i p hp j s hs)
      refine ⟨rfl, rfl, ?_⟩
      refine asg_s ?_
      refine ⟨_, rowT (LL.getD i []), rfl, lix hp, _, .tup (p.steps.map St.t), rfl, rfl, ?_⟩
      refine ⟨_, _, ps, p, j, s, LL.getD i [], rfl, okp, rowV_T, hR, rfl, hs, fun o vs ks hn hm hl => ?_⟩
      refine seq_if ?_
      rw [List.append_assoc]
      have hk : (μ ++ (ex2 ++ [Mo.fdict o vs (ks.map kb)]))[(μ ++ ex2).length]? = some (.fdict o vs (ks.map kb)) := by rw [← List.append_assoc]; exact get_app
      have hcell := row_at hR (q := j) (List.getElem?_eq_some_iff.mp hs).1
      refine ⟨_, iT (BB.getD i []), rfl, bix hp, ?_⟩
      refine ⟨s, ps, p, _, o, vs, ks, _, _, LL, BB.getD i [], rfl, gd, List.mem_of_getElem? hp, okp.ok s (List.mem_of_getElem? hs), hk, hn, hl, lotsV_T, hLL, cellT, hB.1, hB.2, fun out g1 g2 => ?_⟩
      refine ⟨_, rfl, ?_⟩
      refine DL.lc_map (μ := μ ++ (ex2 ++ [Mo.fdict o vs (ks.map kb)])) trivial Vl.int (fun z => .bl (decide (z ∈ (LL.getD i []).getD j []))) out [] (fun z hz P hP => ?_) ?_
      · refine ⟨_, rowT (LL.getD i []), rfl, lix hp, _, iT ((LL.getD i []).getD j []), rfl, atI_nat (by rw [List.getElem?_map, hcell]; rfl), ?_⟩
        refine ⟨_, _, _, rfl, rfl, flVs_ints _, ?_⟩
        rw [inV_ints, Bool.bne_false]
        exact hP
      refine .inl ⟨_, _, rfl, map_blF _ _, ?_⟩
      refine bool_splitB (fun hb => ?_) (fun hb => ?_)
      · refine nope _ fun g => ?_
        have : (out.map fun z => decide (z ∈ (LL.getD i []).getD j [])).all id = true := all_iff.mpr fun z hz => decide_eq_true (g.1 z ((need_mem hm z).mp ((g2 z).mp hz)))
        rw [hb] at this; cases this
      have w1 : ∀ z ∈ s.need (behindL (LL.getD i []) s j) LL (BB.getD i []), z ∈ (LL.getD i []).getD j [] := fun z hz => of_decide_eq_true (all_iff.mp hb z ((g2 z).mpr ((need_mem hm z).mpr hz)))
      have ok : ∀ ex3 (o8 o9 o10 : Option Vl), StClosed LL BB i j s → D2.nx [some (.ref c), some (.tup (BB.map iT)), some (.tup (LL.map rowT)), some (.int i), some p.v, some (.int j), some s.t, some (.ref (μ ++ ex2).length), o8, o9, o10] (μ ++ ex3) := fun ex3 o8 o9 o10 hst => hD2 _ _ ⟨j + 1, ex3, _, _, _, _, _, _, hr2, rfl, rfl, fun pl s' hpl hs' => by
        by_cases hpj : pl < j
        · exact hin pl s' hpj hs'
        · have en : pl = j := by omega
          subst en
          rw [hs] at hs'
          cases hs'
          exact hst⟩
      rcases s_word s with ⟨jj, hs', qs, es⟩ | ⟨w, r, ew, hw, hcl⟩
      · subst es
        obtain ⟨_, c2, hc2, _⟩ := okp.ok _ (List.mem_of_getElem? hs)
        refine if_andW (by rfl) (by rfl) (fun _ => ?_) (fun h => absurd rfl h)
        refine ⟨_, iT qs, rfl, rfl, _, qs.map .int, rfl, rfl, ?_⟩
        rw [numbered_zip]
        refine DL.lc_filter (μ := μ ++ (ex2 ++ [Mo.fdict o vs (ks.map kb)])) trivial (fun p : Int × Nat => Vl.tup [.int (p.2 : Int), .int p.1]) (fun p => decide (p.1 ∈ ks)) (fun p => .bl (decide ((p.2 : Int) ∈ BB.getD jj []))) qs.zipIdx [] (fun z hz P R hR hP => ?_) ?_
        · refine ⟨rfl, rfl, ?_⟩
          refine ⟨ks.map kb, Sum.inl z.1, dp_f hk, rfl, ?_⟩
          rw [valD_kb]
          refine dec_splitE (p := z.1 ∈ ks) (fun h => ?_) (fun h => hP (decide_eq_false h))
          refine ⟨_, .int jj, rfl, rfl, _, iT (BB.getD jj []), rfl, bix hc2, ?_⟩
          refine ⟨_, _, _, rfl, rfl, flVs_ints _, ?_⟩
          rw [inV_ints, Bool.bne_false]
          exact hR (decide_eq_true h)
        refine .inl ⟨_, _, rfl, map_blF _ _, ?_⟩
        have key : (((qs.zipIdx.filter fun p => decide (p.1 ∈ ks)).map fun p : Int × Nat => decide ((p.2 : Int) ∈ BB.getD jj [])).all id = true) ↔ ∀ (n : Nat) (q : Int), qs[n]? = some q → q ∈ (LL.getD i []).getD (j + 1) [] → (n : Int) ∈ BB.getD jj [] := by
          rw [all_iff]
          constructor
          · intro h n q hq hin'
            refine of_decide_eq_true (h (q, n) (List.mem_filter.mpr ⟨zipIdx_mem.mpr hq, decide_eq_true ((hm q).mpr ?_)⟩))
            rw [call_found]; exact hin'
          · intro h z hz
            obtain ⟨z1, z2⟩ := List.mem_filter.mp hz
            refine decide_eq_true (h z.2 z.1 (zipIdx_mem.mp z1) ?_)
            have := (hm z.1).mp (of_decide_eq_true z2)
            rw [call_found] at this; exact this
        refine bool_splitB (fun hb2 => ?_) (fun hb2 => ?_)
        · refine nope _ fun g => ?_
          have := key.mpr g.2
          rw [hb2] at this; cases this
        · exact ok _ _ _ _ ⟨w1, key.mp hb2⟩
      · refine if_andW (by rfl) (by show some s.v = _; rw [ew]) (fun h => absurd h hw) (fun _ => ?_)
        exact ok _ _ _ _ ((hcl _ _ _ _).mpr w1)
    · exact ⟨0, ex, _, _, _, _, _, _, rfl, rfl, rfl, fun pl s h => absurd h (Nat.not_lt_zero _)⟩
  · exact ⟨0, [], _, _, _, _, _, _, _, _, rfl, by rw [List.append_nil], rfl, fun pl s h => absurd h (Nat.not_lt_zero _)⟩
end K65

set_option maxHeartbeats 1000000
/-! ZN: closed lots, by the law. -/
namespace K65
open PySem PySem.Spec L2 StX PyProof.Rows DL
theorem LotsM.at {μ : Mu} {x : Vl} {LL : List (List (List Int))} (h : LotsM μ x LL) {i : Nat} (hi : i < LL.length) : ∃ rows r, sview μ x = some rows ∧ L2.atI rows (i : Int) = some r ∧ sview μ r = some ((LL.getD i []).map iL) := by
  obtain ⟨rows, h1, h2⟩ := h
  obtain ⟨r, h3, h4⟩ := h2.get (getD_of hi (d := []))
  exact ⟨rows, r, h1, atI_nat h3, h4⟩
theorem atI_row {L : List (List Int)} {j : Nat} (h : j < L.length) : L2.atI (L.map iL) (j : Int) = some (iL (L.getD j [])) := atI_nat (by rw [List.getElem?_map, getD_of h]; rfl)
theorem nil_iff {α β : Type} {p : α → Bool} {f : α → β} {xs : List α} : (xs.filter p).map f = [] ↔ ∀ x ∈ xs, p x = false := by
  rw [List.map_eq_nil_iff, List.filter_eq_nil_iff]
  exact ⟨fun h x hx => by simpa using h x hx, fun h x hx => by simp [h x hx]⟩
def p__law_is_closed : Ct := fun xs μ Q => ∃ (ps : List Pr) (x b : Vl) (LL : List (List (List Int))) (BB : List (List Int)), xs = [codeV ps, b, x] ∧ Good ps ∧ LotsM μ x LL ∧ LotsOk ps LL ∧ LRow μ b BB ∧ BacksOk ps BB ∧ ∀ v : Bool, (v = true ↔ Closed ps LL BB) → Q (.bl v) μ
def c__law_is_closed : Ct := Shut p__law_is_closed
def b__law_is_closed : DS :=
    (dSeq (dIf (dTest (dOp dNe (dOp dIx (dVar 1) (dC (.int 0))) (dListRg (dOp dIx (dOp dIx (dVar 0) (dC (.int 0))) (dC (.int 2)))))) (dRet (dC (.bl false))) dNext)
    (dSeq (dFor (dEnum (dCons (dVar 0) dNil)) (dgTup 2 (dgCons (dgName 3) (dgCons (dgName 4) dgNil))) (dFor (dEnum (dCons (dOp dIx (dVar 4) (dC (.int 4))) dNil)) (dgTup 2 (dgCons (dgName 5) (dgCons (dgName 6) dgNil))) (dSeq (dIf (dTest (dOp dNe (dLc (dIter (dCall c__law_lot (dCons (dVar 0) (dCons (dVar 2) (dCons (dVar 1) (dCons (dVar 3) (dCons (dVar 5) dNil))))))) (dgName 7) (dTest (dOp (dInS true) (dVar 7) (dOp dIx (dOp dIx (dVar 2) (dVar 3)) (dVar 5)))) (dVar 7) [7]) (dLst dNil))) (dRet (dC (.bl false))) dNext)
    (dIf (dAndT (dTest (dOp dEq (dOp dIx (dVar 6) (dC (.int 0))) (dC (.str "call")))) (dTest (dOp dNe (dLc (dEnum (dCons (dOp dIx (dVar 6) (dC (.int 3))) dNil)) (dgTup 2 (dgCons (dgName 8) (dgCons (dgName 7) dgNil))) (dAndT (dTest (dOp (dInS false) (dVar 7) (dOp dIx (dOp dIx (dVar 2) (dVar 3)) (dOp dAdd (dVar 5) (dC (.int 1)))))) (dTest (dOp (dInS true) (dVar 8) (dOp dIx (dVar 1) (dOp dIx (dVar 6) (dC (.int 1))))))) (dVar 8) [8, 7]) (dLst dNil)))) (dRet (dC (.bl false))) dNext))))
    (dRet (dC (.bl true)))))
theorem l__law_is_closed : ∀ xs μ Q, c__law_is_closed xs μ Q → xs.length = 3 := by
  intro xs μ Q ⟨_, _, _, _, _, e, _⟩; subst e; rfl
theorem r__law_is_closed : ∀ xs μ Q, c__law_is_closed xs μ Q → b__law_is_closed (spEnds Q) (startD ["plain", "backs", "lots", "number", "one", "place", "step", "slot", "at"] xs) μ := by
  intro xs μ Q ⟨ps, x, b, LL, BB, e, gd, hx, hLL, hb, hBB, q⟩
  subst e
  have hsl := sizeLine_eq
  have hlen := gd.len
  obtain ⟨p0, hp0⟩ : ∃ p0, ps[0]? = some p0 := ⟨ps[0], List.getElem?_eq_getElem (by omega)⟩
  have no : ¬ Closed ps LL BB → (spEnds Q).rt (.bl false) μ := fun h => q false ⟨fun e => Bool.noConfusion e, fun g => absurd g h⟩
  have bat : ∀ {i : Nat} {p : Pr}, ps[i]? = some p → BB[i]? = some (BB.getD i []) := fun h => getD_of (by rw [hBB.len]; exact (List.getElem?_eq_some_iff.mp h).1)
  have lat : ∀ {i : Nat} {p : Pr}, ps[i]? = some p → LL[i]? = some (LL.getD i []) := fun h => getD_of (by rw [hLL.len]; exact (List.getElem?_eq_some_iff.mp h).1)
  have bix : ∀ {i : Nat} {p : Pr}, ps[i]? = some p → L2.atI (BB.map iL) (i : Int) = some (iL (BB.getD i [])) := fun h => atI_nat (by rw [List.getElem?_map, bat h]; rfl)
  refine ⟨_, iL (BB.getD 0 []), hb, bix hp0, _, p0.v, rfl, atI_nat (i := 0) (by rw [List.getElem?_map, hp0]; rfl), _, .int p0.back, rfl, rfl, p0.back, rfl, rg_ok (by have := (gd.ok p0 (List.mem_of_getElem? hp0)).back; omega), .inl ?_⟩
  rw [show ((p0.back : Int)).toNat = p0.back by omega, rngD_rngI]
  refine eq_lstI ?_
  refine dec_splitN (p := BB.getD 0 [] = rngI p0.back) (fun h => ?_) (fun h0 => ?_)
  · exact no (fun g => h (g.1 p0 hp0))
  refine ⟨codeV ps, ps.map Pr.v, rfl, rfl, ?_⟩
  refine DL.forD_inv (fun rest ρ μ1 => ∃ (i : Nat) (o3 o4 o5 o6 o7 o8 : Option Vl), (numbered (ps.map Pr.v)).drop i = rest ∧ μ1 = μ ∧ ρ = [some (codeV ps), some b, some x, o3, o4, o5, o6, o7, o8] ∧
    ∀ (num : Nat) (p : Pr), num < i → ps[num]? = some p → ∀ (pl : Nat) (s : St), p.steps[pl]? = some s → StClosed LL BB num pl s) (fun _ _ _ _ => trivial) (fun ρ μ1 h => ?_) (fun y rest ρ μ1 h D hD hrt _ => ?_) _ _ _ ?_
  · obtain ⟨i, o3, o4, o5, o6, o7, o8, e0, e1, e2, hall⟩ := h
    subst e1; subst e2
    have hi : ps.length ≤ i := by
      have := congrArg List.length e0
      rw [List.length_drop, numbered_len, List.length_map] at this
      simp at this; omega
    refine q true ⟨fun _ => ⟨fun p hp => ?_, fun num p hp => hall num p (by have := (List.getElem?_eq_some_iff.mp hp).1; omega) hp⟩, fun _ => rfl⟩
    rw [hp0] at hp
    cases hp
    exact h0
  · obtain ⟨i, o3, o4, o5, o6, o7, o8, e0, e1, e2, hall⟩ := h
    subst e1; subst e2
    obtain ⟨y, hy, ex', hr⟩ := numbered_drop e0
    subst ex'
    rw [List.getElem?_map] at hy
    obtain ⟨p, hp, ey⟩ := Option.map_eq_some_iff.mp hy
    subst ey
    have okp := gd.ok p (List.mem_of_getElem? hp)
    have hR := hLL.ok i p _ hp (lat hp)
    have hB := hBB.ok i p _ hp (bat hp)
    refine ⟨rfl, rfl, ?_⟩
    refine ⟨_, .tup (p.steps.map St.t), rfl, rfl, _, p.steps.map St.t, rfl, rfl, ?_⟩
    refine DL.forD_inv (fun rest ρ μ9 => ∃ (j : Nat) (o5 o6 o7 o8 : Option Vl), (numbered (p.steps.map St.t)).drop j = rest ∧ μ9 = μ1 ∧ ρ = [some (codeV ps), some b, some x, some (.int i), some p.v, o5, o6, o7, o8] ∧
      ∀ (pl : Nat) (s : St), pl < j → p.steps[pl]? = some s → StClosed LL BB i pl s) (fun _ _ _ _ => trivial) (fun ρ μ2 h => ?_) (fun x2 rest ρ μ2 h D2 hD2 hrt2 _ => ?_) _ _ _ ?_
    · obtain ⟨j, o5, o6, o7, o8, e0, e1, e2, hin⟩ := h
      have hj : p.steps.length ≤ j := by
        have := congrArg List.length e0
        rw [List.length_drop, numbered_len, List.length_map] at this
        simp at this; omega
      refine hD _ _ ⟨i + 1, _, _, _, _, _, _, hr, e1, e2, fun num p' hn hp' pl s hs => ?_⟩
      by_cases hni : num < i
      · exact hall num p' hni hp' pl s hs
      · have en : num = i := by omega
        subst en
        rw [hp] at hp'
        cases hp'
        exact hin pl s (by have := (List.getElem?_eq_some_iff.mp hs).1; omega) hs
    · obtain ⟨j, o5, o6, o7, o8, e0, e1, e2, hin⟩ := h
      subst e1; subst e2
      obtain ⟨y, hy, ex', hr2⟩ := numbered_drop e0
      subst ex'
      rw [List.getElem?_map] at hy
      obtain ⟨s, hs, ey⟩ := Option.map_eq_some_iff.mp hy
      subst ey
      have hj := (List.getElem?_eq_some_iff.mp hs).1
      have nope : ¬ StClosed LL BB i j s → D2.rt (.bl false) μ2 := fun h => by
        rw [hrt2, hrt]
        exact no fun g => h (g.2 i p hp j s hs)
      obtain ⟨rows, row, x1, x2, x3⟩ := hx.at (i := i) (by rw [hLL.len]; exact (List.getElem?_eq_some_iff.mp hp).1)
      refine ⟨rfl, rfl, ?_⟩
      refine seq_if ?_
      refine Shut.mk ⟨ps, p, i, j, s, x, b, LL, BB, rfl, gd, hp, hs, hx, hLL, hb, hBB, fun out g1 g2 => ?_⟩
      refine ⟨_, rfl, ?_⟩
      refine DL.lc_filter (μ := μ2) trivial .int (fun z => decide (z ∉ (LL.getD i []).getD j [])) .int out [] (fun z hz P R hR' hP => ?_) ?_
      · refine ⟨rows, row, x1, x2, _, iL ((LL.getD i []).getD j []), x3, atI_row (by rw [hR.len]; exact hj), ?_⟩
        refine ⟨_, _, _, rfl, rfl, flVs_ints _, ?_⟩
        rw [inV_ints]
        exact dec_splitN (p := z ∈ (LL.getD i []).getD j []) (fun h => hR' (decide_eq_true h)) (fun h => hP (decide_eq_false fun g => g h))
      refine .inl ?_
      refine ⟨by show 0 ≤ _; omega, .inl ?_⟩
      refine eq_lstI (s := []) ?_
      refine dec_splitN (p := (out.filter fun z => decide (z ∉ (LL.getD i []).getD j [])) = []) (fun hb1 => ?_) (fun hb1 => ?_)
      · refine nope fun g => hb1 ?_
        rw [List.filter_eq_nil_iff]
        intro z hz
        have := g.1 z ((g2 z).mp hz)
        exact fun e => (of_decide_eq_true e) this
      have w1 : ∀ z ∈ s.need (behindL (LL.getD i []) s j) LL (BB.getD i []), z ∈ (LL.getD i []).getD j [] := fun z hz => by
        rw [List.filter_eq_nil_iff] at hb1
        have := hb1 z ((g2 z).mpr hz)
        exact Decidable.of_not_not fun e => this (decide_eq_true e)
      have ok : ∀ (o7 o8 : Option Vl), StClosed LL BB i j s → D2.nx [some (codeV ps), some b, some x, some (.int i), some p.v, some (.int j), some s.t, o7, o8] μ2 := fun o7 o8 hst => hD2 _ _ ⟨j + 1, _, _, _, _, hr2, rfl, rfl, fun pl s' hpl hs' => by
        by_cases hpj : pl < j
        · exact hin pl s' hpj hs'
        · have en : pl = j := by omega
          subst en
          rw [hs] at hs'
          cases hs'
          exact hst⟩
      rcases s_word s with ⟨jj, hs', qs, es⟩ | ⟨w, r, ew, hw, hcl⟩
      · subst es
        obtain ⟨_, c2, hc2, _⟩ := okp.ok _ (List.mem_of_getElem? hs)
        have hj1 : j + 1 < p.steps.length := nexts_lt okp hs (j + 1) (by simp [St.nexts])
        refine if_andW (by rfl) (by rfl) (fun _ => ?_) (fun h => absurd rfl h)
        refine ⟨_, iT qs, rfl, rfl, _, qs.map .int, rfl, rfl, ?_⟩
        rw [numbered_zip]
        refine DL.lc_filter (μ := μ2) trivial (fun p : Int × Nat => Vl.tup [.int (p.2 : Int), .int p.1]) (fun p => decide (p.1 ∈ (LL.getD i []).getD (j + 1) []) && decide ((p.2 : Int) ∉ BB.getD jj [])) (fun p => .int (p.2 : Int)) qs.zipIdx [] (fun z hz P R hR' hP => ?_) ?_
        · refine ⟨rfl, rfl, ?_⟩
          refine ⟨rows, row, x1, x2, _, iL ((LL.getD i []).getD (j + 1) []), x3, atI_row (by rw [hR.len]; exact hj1), ?_⟩
          refine ⟨_, _, _, rfl, rfl, flVs_ints _, ?_⟩
          rw [inV_ints]
          refine dec_splitE (p := z.1 ∈ (LL.getD i []).getD (j + 1) []) (fun h => ?_) (fun h => hP (by rw [decide_eq_false h]; rfl))
          refine ⟨_, .int jj, rfl, rfl, _, iL (BB.getD jj []), hb, bix hc2, ?_⟩
          refine ⟨_, _, _, rfl, rfl, flVs_ints _, ?_⟩
          rw [inV_ints]
          exact dec_splitN (p := (z.2 : Int) ∈ BB.getD jj []) (fun h' => hR' (by rw [decide_eq_true h, decide_eq_true h']; rfl)) (fun h' => hP (by rw [decide_eq_true h, decide_eq_false (fun g => g h')]; rfl))
        refine .inl ?_
        refine ⟨by show 0 ≤ _; omega, .inl ?_⟩
        rw [show ([] ++ ((qs.zipIdx.filter fun p => decide (p.1 ∈ (LL.getD i []).getD (j + 1) []) && decide ((p.2 : Int) ∉ BB.getD jj [])).map fun p : Int × Nat => Vl.int (p.2 : Int))) = ((qs.zipIdx.filter fun p => decide (p.1 ∈ (LL.getD i []).getD (j + 1) []) && decide ((p.2 : Int) ∉ BB.getD jj [])).map fun p : Int × Nat => (p.2 : Int)).map .int by simp]
        refine eq_lstI (s := []) ?_
        have key : ((qs.zipIdx.filter fun p => decide (p.1 ∈ (LL.getD i []).getD (j + 1) []) && decide ((p.2 : Int) ∉ BB.getD jj [])).map fun p : Int × Nat => (p.2 : Int)) = [] ↔ ∀ (n : Nat) (q : Int), qs[n]? = some q → q ∈ (LL.getD i []).getD (j + 1) [] → (n : Int) ∈ BB.getD jj [] := by
          rw [nil_iff]
          constructor
          · intro h n q hq hin'
            have := h (q, n) (zipIdx_mem.mpr hq)
            rw [Bool.and_eq_false_iff] at this
            rcases this with t | t
            · exact absurd hin' (of_decide_eq_false t)
            · exact Decidable.of_not_not (of_decide_eq_false t)
          · intro h z hz
            by_cases hin' : z.1 ∈ (LL.getD i []).getD (j + 1) []
            · rw [Bool.and_eq_false_iff]
              exact .inr (decide_eq_false fun g => g (h z.2 z.1 (zipIdx_mem.mp hz) hin'))
            · rw [decide_eq_false hin']; rfl
        refine dec_splitN (p := ((qs.zipIdx.filter fun p => decide (p.1 ∈ (LL.getD i []).getD (j + 1) []) && decide ((p.2 : Int) ∉ BB.getD jj [])).map fun p : Int × Nat => (p.2 : Int)) = []) (fun hb2 => ?_) (fun hb2 => ?_)
        · exact nope fun g => hb2 (key.mpr g.2)
        · exact ok _ _ ⟨w1, key.mp hb2⟩
      · refine if_andW (by rfl) (by show some s.v = _; rw [ew]) (fun h => absurd h hw) (fun _ => ?_)
        exact ok _ _ ((hcl _ _ _ _).mpr w1)
    · exact ⟨0, _, _, _, _, rfl, rfl, rfl, fun pl s h => absurd h (Nat.not_lt_zero _)⟩
  · exact ⟨0, _, _, _, _, _, _, rfl, rfl, rfl, fun pl s h => absurd h (Nat.not_lt_zero _)⟩
end K65

set_option maxHeartbeats 1000000
/-! ZO: is_lot, shows_needed. -/
namespace K65
open PySem PySem.Spec L2 StX PyProof.Rows DL
/-- a fixed value: flat, or a tuple, all the way in -/
def FF : Nat → Vl → Prop
  | 0, x => flB x = true ∨ ∃ ys, x = .tup ys
  | n + 1, x => flB x = true ∨ ∃ ys, x = .tup ys ∧ ∀ y ∈ ys, FF n y
theorem FF.pl {μ : Mu} : ∀ {n : Nat} {x : Vl}, FF n x → Pl μ x
  | 0, x, h => by
    rcases h with h | ⟨ys, e⟩
    · exact (fl_pl h).1
    · subst e; exact pl_seq rfl
  | n + 1, x, h => by
    rcases h with h | ⟨ys, e, _⟩
    · exact (fl_pl h).1
    · subst e; exact pl_seq rfl
theorem FF.of {μ : Mu} : ∀ {n : Nat} {x y : Vl}, Fx μ (n + 1) x y → FF n y
  | 0, x, y, h => by
    rcases h with ⟨h1, h2⟩ | ⟨xs, ys, h1, h2, h3⟩
    · subst h2; exact .inl h1
    · exact .inr ⟨ys, h2⟩
  | n + 1, x, y, h => by
    rcases h with ⟨h1, h2⟩ | ⟨xs, ys, h1, h2, h3⟩
    · subst h2; exact .inl h1
    · refine .inr ⟨ys, h2, fun b hb => ?_⟩
      clear h1 h2
      induction h3 with
      | nil => cases hb
      | cons r _ ih =>
        rcases List.mem_cons.mp hb with e | hb
        · subst e; exact FF.of r
        · exact ih hb
def unI : Vl → Int
  | .int i => i
  | _ => 0
def isLotB (many : Int) : Vl → Bool
  | .tup xs => lotOfB many xs && ascB (xs.map unI)
  | _ => false
theorem lot_ints {many : Int} {xs : List Vl} (h : lotOfB many xs = true) : xs = (xs.map unI).map .int ∧ ∀ i ∈ xs.map unI, 0 ≤ i ∧ i < many := by
  unfold lotOfB at h
  rw [List.all_eq_true] at h
  have g : ∀ x ∈ xs, x = .int (unI x) ∧ 0 ≤ unI x ∧ unI x < many := by
    intro x hx
    have := h x hx
    cases x with
    | int i =>
      simp [inB] at this
      exact ⟨rfl, by show 0 ≤ i; omega, by show i < many; omega⟩
    | _ => simp [inB] at this
  refine ⟨?_, fun i hi => ?_⟩
  · rw [List.map_map]
    conv => lhs; rw [← List.map_id xs]
    exact List.map_congr_left fun x hx => (g x hx).1
  · obtain ⟨x, hx, e⟩ := List.mem_map.mp hi
    subst e
    exact (g x hx).2
theorem isLot_iff {n : Nat} {x : Vl} : isLotB (n : Int) x = true ↔ ∃ ns, x = iT ns ∧ inR n ns ∧ ns.Pairwise (· < ·) := by
  constructor
  · intro h
    cases x with
    | tup xs =>
      simp only [isLotB, Bool.and_eq_true] at h
      obtain ⟨h1, h2⟩ := lot_ints h.1
      exact ⟨xs.map unI, by unfold iT; rw [← h1], h2, (ascB_iff _).mp h.2⟩
    | _ => simp [isLotB] at h
  · rintro ⟨ns, e, h1, h2⟩
    subst e
    have e : (ns.map Vl.int).map unI = ns := by rw [List.map_map]; exact (List.map_congr_left fun _ _ => rfl).trans (List.map_id _)
    simp only [iT, isLotB, Bool.and_eq_true]
    refine ⟨lot_true h1, ?_⟩
    rw [e]
    exact (ascB_iff _).mpr h2
def c_is_lot : Ct := fun xs μ Q => ∃ (x : Vl) (many : Int), xs = [x, .int many] ∧ FF 1 x ∧ Q (.bl (isLotB many x)) μ
def b_is_lot : DS :=
    (dRet (dAndV (dCall c_is_lot_of (dCons (dVar 0) (dCons (dVar 1) dNil))) (dCall c_is_ascending (dCons (dVar 0) dNil))))
theorem l_is_lot : ∀ xs μ Q, c_is_lot xs μ Q → xs.length = 2 := by
  intro xs μ Q ⟨_, _, e, _⟩; subst e; rfl
theorem r_is_lot : ∀ xs μ Q, c_is_lot xs μ Q → b_is_lot (pureEnds μ Q) (startD ["value", "many"] xs) μ := by
  intro xs μ Q ⟨x, many, e, hx, q⟩
  subst e
  refine ⟨x, many, rfl, hx.pl, ?_, ?_⟩
  · intro ys hy y hm
    rcases hx with h | ⟨zs, e, h⟩
    · rw [(fl_pl (μ := μ) h).2.1] at hy; cases hy
    · subst e
      cases hy
      exact (h y hm).pl
  rcases hx with h | ⟨zs, e, h⟩
  · rw [(fl_pl (μ := μ) h).2.1]
    have e : isLotB many x = false := by cases x <;> first | rfl | cases h
    rw [e] at q
    exact DL.pure_rt rfb_bl q
  · subst e
    show (match Vl.bl (lotOfB many zs) with
      | .bl true => _
      | .bl false => _
      | _ => False)
    cases hb : lotOfB many zs with
    | false =>
      have e : isLotB many (.tup zs) = false := by simp [isLotB, hb]
      rw [e] at q
      exact DL.pure_rt rfb_bl q
    | true =>
      have e : isLotB many (.tup zs) = ascB (zs.map unI) := by simp [isLotB, hb]
      rw [e] at q
      exact ⟨.tup zs, zs.map unI, rfl, by show some zs = _; rw [← (lot_ints hb).1], DL.pure_rt rfb_bl q⟩
/-! shows_needed -/
def Right (ps : List Pr) (x y : Vl) : Prop := ∃ (BB : List (List Int)) (LL : List (List (List Int))), x = .tup (BB.map iT) ∧ y = .tup (LL.map rowT) ∧ BacksOk ps BB ∧ LotsOk ps LL ∧ Closed ps LL BB
theorem map_inj {α β : Type} {f : α → β} (hf : ∀ a b, f a = f b → a = b) : ∀ {xs ys : List α}, xs.map f = ys.map f → xs = ys
  | [], [], _ => rfl
  | [], _ :: _, h => by cases h
  | _ :: _, [], h => by cases h
  | x :: xs, y :: ys, h => by
    have h1 := (List.cons.inj h).1
    have h2 := (List.cons.inj h).2
    rw [hf x y h1, map_inj hf h2]
theorem iT_inj (a b : List Int) (h : iT a = iT b) : a = b := map_inj (fun _ _ h => Vl.int.inj h) (Vl.tup.inj h)
theorem rowT_inj (a b : List (List Int)) (h : rowT a = rowT b) : a = b := map_inj iT_inj (Vl.tup.inj h)
theorem Right.iff {ps : List Pr} {BB : List (List Int)} {LL : List (List (List Int))} (h1 : BacksOk ps BB) (h2 : LotsOk ps LL) : Right ps (.tup (BB.map iT)) (.tup (LL.map rowT)) ↔ Closed ps LL BB := by
  constructor
  · rintro ⟨B2, L2, e1, e2, _, _, h⟩
    have := map_inj iT_inj (Vl.tup.inj e1)
    have := map_inj rowT_inj (Vl.tup.inj e2)
    subst B2; subst L2
    exact h
  · exact fun h => ⟨BB, LL, rfl, rfl, h1, h2, h⟩
def ItemOk (p : Pr) (x y : Vl) : Prop := isLotB p.back x = true ∧ ∃ cs, y = .tup cs ∧ cs.length = p.steps.length ∧ ∀ c ∈ cs, isLotB p.regs c = true
theorem right_items {ps : List Pr} {xs ys : List Vl} (h : Right ps (.tup xs) (.tup ys)) {i : Nat} {p : Pr} {x y : Vl} (hp : ps[i]? = some p) (hx : xs[i]? = some x) (hy : ys[i]? = some y) : ItemOk p x y := by
  obtain ⟨BB, LL, e1, e2, h1, h2, _⟩ := h
  have e1 := Vl.tup.inj e1
  have e2 := Vl.tup.inj e2
  subst e1; subst e2
  rw [List.getElem?_map] at hx hy
  obtain ⟨b, hb, eb⟩ := Option.map_eq_some_iff.mp hx
  obtain ⟨l, hl, el⟩ := Option.map_eq_some_iff.mp hy
  subst eb; subst el
  have o1 := h1.ok i p b hp hb
  have o2 := h2.ok i p l hp hl
  refine ⟨isLot_iff.mpr ⟨b, rfl, o1.1, o1.2⟩, l.map iT, rfl, by rw [List.length_map]; exact o2.len, fun c hc => ?_⟩
  obtain ⟨ns, hn, e⟩ := List.mem_map.mp hc
  subst e
  exact isLot_iff.mpr ⟨ns, rfl, (o2.ok ns hn).1, (o2.ok ns hn).2⟩
theorem items_form {ps : List Pr} {xs ys : List Vl} (hx : xs.length = ps.length) (hy : ys.length = ps.length) (h : ∀ (i : Nat) (p : Pr) (x y : Vl), ps[i]? = some p → xs[i]? = some x → ys[i]? = some y → ItemOk p x y) :
    ∃ (BB : List (List Int)) (LL : List (List (List Int))), xs = BB.map iT ∧ ys = LL.map rowT ∧ BacksOk ps BB ∧ LotsOk ps LL := by
  have at_ : ∀ i, i < ps.length → ∃ p x y, ps[i]? = some p ∧ xs[i]? = some x ∧ ys[i]? = some y ∧ ItemOk p x y := fun i hi =>
    ⟨_, _, _, List.getElem?_eq_getElem hi, List.getElem?_eq_getElem (by omega), List.getElem?_eq_getElem (by omega), h i _ _ _ (List.getElem?_eq_getElem hi) (List.getElem?_eq_getElem (by omega)) (List.getElem?_eq_getElem (by omega))⟩
  obtain ⟨BB, e1, _, l1⟩ := lift_all (f := iT) (p := fun _ => True) xs (fun x hm => by
    obtain ⟨i, hi, e⟩ := List.getElem_of_mem hm
    obtain ⟨p, x', y, a1, a2, a3, a4⟩ := at_ i (by omega)
    rw [List.getElem?_eq_getElem hi, e] at a2
    cases a2
    obtain ⟨ns, e, _⟩ := isLot_iff.mp a4.1
    exact ⟨ns, e, trivial⟩)
  obtain ⟨LL, e2, _, l2⟩ := lift_all (f := rowT) (p := fun _ => True) ys (fun y hm => by
    obtain ⟨i, hi, e⟩ := List.getElem_of_mem hm
    obtain ⟨p, x', y', a1, a2, a3, a4⟩ := at_ i (by omega)
    rw [List.getElem?_eq_getElem hi, e] at a3
    cases a3
    obtain ⟨_, cs, ec, _, hc⟩ := a4
    obtain ⟨L, eL, _, _⟩ := lift_all (f := iT) (p := fun _ => True) cs (fun c hm => by
      obtain ⟨ns, e, _⟩ := isLot_iff.mp (hc c hm)
      exact ⟨ns, e, trivial⟩)
    exact ⟨L, by rw [ec, eL]; rfl, trivial⟩)
  subst e1; subst e2
  refine ⟨BB, LL, rfl, rfl, ⟨by rw [← hx, List.length_map], fun i p c hp hc => ?_⟩, ⟨by rw [← hy, List.length_map], fun i p L hp hL => ?_⟩⟩
  · obtain ⟨p', x', y, a1, a2, a3, a4⟩ := at_ i (List.getElem?_eq_some_iff.mp hp).1
    rw [hp] at a1
    cases a1
    rw [List.getElem?_map, hc] at a2
    cases a2
    obtain ⟨ns, e, r1, r2⟩ := isLot_iff.mp a4.1
    rw [iT_inj _ _ e]
    exact ⟨r1, r2⟩
  · obtain ⟨p', x', y, a1, a2, a3, a4⟩ := at_ i (List.getElem?_eq_some_iff.mp hp).1
    rw [hp] at a1
    cases a1
    rw [List.getElem?_map, hL] at a3
    cases a3
    obtain ⟨_, cs, ec, hl, hc⟩ := a4
    have ec := Vl.tup.inj ec
    subst ec
    refine ⟨by rw [← hl, List.length_map], fun c hm => ?_⟩
    obtain ⟨ns, e, r1, r2⟩ := isLot_iff.mp (hc (iT c) (List.mem_map_of_mem hm))
    rw [iT_inj _ _ e]
    exact ⟨r1, r2⟩
def p_shows_needed (G : Cs) : Ct := fun xs μ Q => ∃ (c : Nat) (ps : List Pr) (v : Vl), xs = [.ref c, v] ∧ μ[c]? = some (codeM G ps) ∧ Good ps ∧
  ((∃ t, knOf μ v = some t ∧ an_Needed G t = some false ∧ Q (.bl false) μ) ∨
   (∃ (k : Nat) (x y : Vl), v = .ref k ∧ μ[k]? = some (.ins G.Needed (needFs x y)) ∧ FF 6 x ∧ FF 6 y ∧ ∀ b : Bool, (b = true ↔ Right ps x y) → Q (.bl b) μ))
def c_shows_needed (G : Cs) : Ct := Shut (p_shows_needed G)
def b_shows_needed (G : Cs) : DS :=
    (dSeq (dDrop (dCall (c_need_code G) (dCons (dVar 0) (dCons (dC (.str "code")) dNil))))
    (dSeq (dAsg (dCB fLen (dCons (dFld G.Code "procedures" (dVar 0)) dNil)) (dgName 2))
    (dSeq (dIf (dOrT (dNotT (dTest (dCB (fIsi (an_Needed G) (.ref G.Needed)) (dCons (dVar 1) (dCons (dC (.op (.ref G.Needed))) dNil))))) (dOrT (dNotT (dTest (dCall c_is_row (dCons (dFld G.Needed "backs" (dVar 1)) (dCons (dVar 2) (dCons (dVar 2) dNil)))))) (dNotT (dTest (dCall c_is_row (dCons (dFld G.Needed "lots" (dVar 1)) (dCons (dVar 2) (dCons (dVar 2) dNil)))))))) (dRet (dC (.bl false))) dNext)
    (dSeq (dFor (dZip3 (dCons (dFld G.Needed "backs" (dVar 1)) (dCons (dFld G.Needed "lots" (dVar 1)) (dCons (dFld G.Code "procedures" (dVar 0)) dNil)))) (dgTup 3 (dgCons (dgName 3) (dgCons (dgName 4) (dgCons (dgName 5) dgNil)))) (dSeq (dIf (dOrT (dNotT (dTest (dCall c_is_lot (dCons (dVar 3) (dCons (dOp dIx (dVar 5) (dC (.int 2))) dNil))))) (dOrT (dNotT (dTest (dCall c_is_listed (dCons (dVar 4) dNil)))) (dTest (dOp dNe (dCB fLen (dCons (dVar 4) dNil)) (dCB fLen (dCons (dOp dIx (dVar 5) (dC (.int 4))) dNil)))))) (dRet (dC (.bl false))) dNext)
    (dIf (dNotT (dTest (dCB fAll (dCons (dLc (dIter (dVar 4)) (dgName 6) dYes (dCall c_is_lot (dCons (dVar 6) (dCons (dOp dIx (dVar 5) (dC (.int 3))) dNil))) [6]) dNil)))) (dRet (dC (.bl false))) dNext)))
    (dRet (dCall (c_is_closed G) (dCons (dVar 0) (dCons (dFld G.Needed "backs" (dVar 1)) (dCons (dFld G.Needed "lots" (dVar 1)) dNil)))))))))
theorem l_shows_needed (G : Cs) : ∀ xs μ Q, c_shows_needed G xs μ Q → xs.length = 2 := by
  intro xs μ Q ⟨_, _, _, e, _⟩; subst e; rfl
theorem FF.le : ∀ {n : Nat} {x : Vl}, FF (n + 1) x → FF n x
  | 0, x, h => h.imp id fun ⟨ys, e, _⟩ => ⟨ys, e⟩
  | n + 1, x, h => h.imp id fun ⟨ys, e, g⟩ => ⟨ys, e, fun y hy => FF.le (g y hy)⟩
theorem lc_mapV {G : Mu → Prop} {g : DG} {de : DE} {ρ : Rho} {Q : List Vl → Mu → Prop} {μ : Mu} (hG : G μ) (f : Vl → Vl) (xs acc : List Vl) (h : ∀ x ∈ xs, ∀ P : DK, P (f x) μ → g x ρ μ fun ρ2 μ2 => de ρ2 μ2 P) (q : Q (acc ++ xs.map f) μ) : lcD G g dYes de ρ Q xs acc μ := by
  have := DL.lc_map (μ := μ) (ρ := ρ) (g := g) (de := de) (Q := Q) hG id f xs acc h q
  rw [List.map_id] at this
  exact this
theorem r_shows_needed (G : Cs) : ∀ xs μ Q, c_shows_needed G xs μ Q → b_shows_needed G (pureEnds μ Q) (startD ["code", "value", "many", "backs", "lots", "one", "lot"] xs) μ := by
  intro xs μ Q ⟨c, ps, v, e, hc, gd, hv⟩
  subst e
  have hsl := sizeLine_eq
  have hlen := gd.len
  have hcl : (ps.map Pr.v).length = ps.length := List.length_map _
  refine ⟨c, "code", codeFs ps, rfl, hc, ?_⟩
  refine ⟨c, _, codeV ps, rfl, hc, rfl, _, _, rfl, rfl, ?_⟩
  rcases hv with ⟨t, ht, ha, q⟩ | ⟨k, x, y, ev, hk, fx, fy, q⟩
  · exact ⟨v, t, false, rfl, ht, ha, DL.pure_rt rfb_bl q⟩
  · subst ev
    have no : ¬ Right ps x y → (pureEnds μ Q).rt (.bl false) μ := fun h => DL.pure_rt rfb_bl (q false ⟨fun e => Bool.noConfusion e, fun g => absurd g h⟩)
    refine ⟨.ref k, .own G.Needed, true, rfl, kn_ins hk, by show List.lookup G.Needed [(G.Needed, true), (G.Paper, false)] = some true; simp [List.lookup], ?_⟩
    refine ⟨k, _, x, rfl, hk, rfl, x, _, _, rfl, fx.pl, ?_⟩
    rw [hcl]
    refine bool_splitB (fun h1 => ?_) (fun h1 => ?_)
    · refine no fun g => ?_
      obtain ⟨BB, LL, e1, _, g1, _⟩ := g
      subst e1
      rw [is_row_lo (xs := BB.map iT) rfl (by rw [List.length_map, g1.len]; omega) (by rw [List.length_map, g1.len]; omega)] at h1
      cases h1
    refine ⟨k, _, y, rfl, hk, rfl, y, _, _, rfl, fy.pl, ?_⟩
    refine bool_splitB (fun h2 => ?_) (fun h2 => ?_)
    · refine no fun g => ?_
      obtain ⟨BB, LL, _, e1, _, g1, _⟩ := g
      subst e1
      rw [is_row_lo (xs := LL.map rowT) rfl (by rw [List.length_map, g1.len]; omega) (by rw [List.length_map, g1.len]; omega)] at h2
      cases h2
    obtain ⟨xs, ex, hxs⟩ : ∃ xs, x = .tup xs ∧ ∀ z ∈ xs, FF 5 z := by
      rcases fx with h | h
      · rw [(fl_pl (μ := μ) h).2.1] at h1; cases h1
      · exact h
    obtain ⟨ys, ey, hys⟩ : ∃ ys, y = .tup ys ∧ ∀ z ∈ ys, FF 5 z := by
      rcases fy with h | h
      · rw [(fl_pl (μ := μ) h).2.1] at h2; cases h2
      · exact h
    subst ex; subst ey
    have lx : xs.length = ps.length := by
      have := of_decide_eq_true (show decide (_ ∧ _) = true from h1); omega
    have ly : ys.length = ps.length := by
      have := of_decide_eq_true (show decide (_ ∧ _) = true from h2); omega
    refine ⟨k, _, .tup xs, rfl, hk, rfl, k, _, .tup ys, rfl, hk, rfl, c, _, codeV ps, rfl, hc, rfl, ?_⟩
    refine ⟨.tup xs, .tup ys, codeV ps, xs, ys, ps.map Pr.v, rfl, rfl, rfl, rfl, ?_⟩
    refine DL.forD_inv (fun rest ρ μ9 => ∃ (i : Nat) (o3 o4 o5 o6 : Option Vl), (zip3D xs ys (ps.map Pr.v)).drop i = rest ∧ μ9 = μ ∧ ρ = [some (.ref c), some (.ref k), some (.int ps.length), o3, o4, o5, o6] ∧
      ∀ (j : Nat) (p : Pr) (x y : Vl), j < i → ps[j]? = some p → xs[j]? = some x → ys[j]? = some y → ItemOk p x y) (fun _ _ _ _ => ⟨trivial, trivial, trivial⟩) (fun ρ μ9 h => ?_) (fun z rest ρ μ9 h D hD hrt _ => ?_) _ _ _ ?_
    · obtain ⟨i, o3, o4, o5, o6, e0, e1, e2, hall⟩ := h
      have e1 := e1.symm
      subst e1; subst e2
      have hi : ps.length ≤ i := by
        have := congrArg List.length e0
        rw [List.length_drop, zip3D_len, List.length_map] at this
        simp at this; omega
      obtain ⟨BB, LL, e3, e4, g1, g2⟩ := items_form lx ly fun j p x y hp hx hy => hall j p x y (by have := (List.getElem?_eq_some_iff.mp hp).1; omega) hp hx hy
      subst e3; subst e4
      refine ⟨k, _, .tup (BB.map iT), rfl, hk, rfl, k, _, .tup (LL.map rowT), rfl, hk, rfl, ?_⟩
      exact ⟨c, ps, LL, BB, rfl, hc, gd, g2, g1, fun b hb => DL.pure_rt rfb_bl (q b (hb.trans (Right.iff g1 g2).symm))⟩
    · obtain ⟨i, o3, o4, o5, o6, e0, e1, e2, hall⟩ := h
      have e1 := e1.symm
      subst e1; subst e2
      obtain ⟨g1, g2, g3⟩ := drop_cons e0
      rw [zip3D_len, List.length_map] at g3
      have hip : i < ps.length := by omega
      have hp : ps[i]? = some ps[i] := List.getElem?_eq_getElem hip
      have hx : xs[i]? = some (xs[i]'(by omega)) := List.getElem?_eq_getElem (by omega)
      have hy : ys[i]? = some (ys[i]'(by omega)) := List.getElem?_eq_getElem (by omega)
      generalize hpe : ps[i] = p at hp
      generalize hxe : xs[i]'(by omega) = x at hx
      generalize hye : ys[i]'(by omega) = y at hy
      rw [zip3D_get hx hy (z := p.v) (by rw [List.getElem?_map, hp]; rfl)] at g1
      have ez := (Option.some.inj g1).symm
      subst ez
      have fx' := hxs x (List.mem_of_getElem? hx)
      have fy' := hys y (List.mem_of_getElem? hy)
      have nope : ¬ ItemOk p x y → D.rt (.bl false) μ := fun h => by
        rw [hrt]
        exact no fun g => h (right_items g hp hx hy)
      refine ⟨rfl, rfl, ?_⟩
      refine seq_if ?_
      refine ⟨_, .int p.back, rfl, rfl, x, p.back, rfl, fx'.le.le.le.le, ?_⟩
      refine bool_splitB (fun q1 => ?_) (fun q1 => ?_)
      · refine nope fun g => ?_
        rw [g.1] at q1; cases q1
      refine ⟨y, rfl, fy'.pl, ?_⟩
      refine bool_splitB (fun q2 => ?_) (fun q2 => ?_)
      · refine nope fun g => ?_
        obtain ⟨cs, e, _⟩ := g.2
        subst e
        cases q2
      obtain ⟨cs, ec, hcs⟩ : ∃ cs, y = .tup cs ∧ ∀ z ∈ cs, FF 4 z := by
        rcases fy' with h | h
        · rw [(fl_pl (μ := μ) h).2.1] at q2; cases q2
        · exact h
      subst ec
      refine ⟨.tup cs, cs, rfl, rfl, _, .tup (p.steps.map St.t), rfl, rfl, _, _, rfl, rfl, ?_⟩
      refine dec_splitN (p := ((cs.length : Nat) : Int) = (((p.steps.map St.t).length : Nat) : Int)) (fun q3 => ?_) (fun q3 => ?_)
      · refine nope fun g => q3 ?_
        obtain ⟨cs', e, hl, _⟩ := g.2
        cases e
        rw [List.length_map]; omega
      rw [List.length_map] at q3
      refine ⟨cs, rfl, ?_⟩
      refine lc_mapV (μ := μ) trivial (fun c => .bl (isLotB p.regs c)) cs [] (fun c hc P hP => ?_) ?_
      · exact ⟨_, .int p.regs, rfl, rfl, c, p.regs, rfl, (hcs c hc).le.le.le, hP⟩
      refine .inl ⟨_, _, rfl, map_blF _ _, ?_⟩
      refine bool_splitB (fun q4 => ?_) (fun q4 => ?_)
      · refine nope fun g => ?_
        obtain ⟨cs', e, _, hl⟩ := g.2
        cases e
        rw [all_iff.mpr hl] at q4
        cases q4
      refine hD _ _ ⟨i + 1, _, _, _, _, g2, rfl, rfl, fun j p' x' y' hj hp' hx' hy' => ?_⟩
      by_cases hji : j < i
      · exact hall j p' x' y' hji hp' hx' hy'
      · have en : j = i := by omega
        subst en
        rw [hp] at hp'; rw [hx] at hx'; rw [hy] at hy'
        cases hp'; cases hx'; cases hy'
        exact ⟨q1, cs, rfl, by omega, all_iff.mp q4⟩
    · exact ⟨0, _, _, _, _, rfl, rfl, rfl, fun j p x y h => absurd h (Nat.not_lt_zero _)⟩
end K65

set_option maxHeartbeats 1000000
/-! ZP: lots that lie in rows that may change; what is needed is of registers; repr of lots. -/
namespace K65
open PySem PySem.Spec L2 StX PyProof.Rows DL
theorem forD_invB {G : Mu → Prop} {g : DG} {body : DS} {d : DEnds} (I : List Vl → Rho → Mu → Prop) (hG : ∀ r ρ μ, I r ρ μ → G μ) (hn : ∀ ρ μ, I [] ρ μ → d.nx ρ μ)
    (hs : ∀ x r ρ μ, I (x :: r) ρ μ → ∀ D : DEnds, (∀ ρ' μ', I r ρ' μ' → D.nx ρ' μ') → D.rt = d.rt → D.bk = d.nx → g x ρ μ fun ρ2 μ2 => body D ρ2 μ2) : ∀ (xs : List Vl) (ρ : Rho) (μ : Mu), I xs ρ μ → forD G g body d xs ρ μ
  | [], ρ, μ, h => ⟨hG _ _ _ h, hn _ _ h⟩
  | x :: r, ρ, μ, h => ⟨hG _ _ _ h, hs x r ρ μ h _ (fun ρ' μ' h' => forD_invB I hG hn hs r ρ' μ' h') rfl rfl⟩
theorem need_in {ps : List Pr} {p : Pr} {LL : List (List (List Int))} {bk f : List Int} {s : St} (hok : StOk ps p s) (hf : inR p.regs f) (hb : inR p.back bk) : inR p.regs (s.need f LL bk) := by
  intro z hz
  cases s with
  | set r c qs =>
    obtain ⟨_, _, _, h4, _⟩ := hok
    simp only [St.need] at hz
    split at hz
    · rcases List.mem_append.mp hz with h | h
      · exact hf z (List.mem_filter.mp h).1
      · exact h4 z h
    · exact hf z hz
  | go i => exact hf z hz
  | test w rs y n =>
    rcases List.mem_append.mp hz with h | h
    · exact hf z h
    · exact hok.2.2.1 z h
  | deed w rs =>
    rcases List.mem_append.mp hz with h | h
    · exact hf z h
    · exact hok.2.2 z h
  | call j hs qs =>
    obtain ⟨_, c, hc, h2, h3, h4, h5, h6⟩ := hok
    rcases List.mem_append.mp hz with h | h
    · exact hf z (List.mem_filter.mp h).1
    · obtain ⟨q, hq, e⟩ := List.mem_map.mp h
      subst e
      exact h4 _ (List.mem_of_getElem? (zipIdx_mem.mp (List.mem_filter.mp hq).1))
  | back rs =>
    obtain ⟨h1, h2⟩ := hok
    obtain ⟨i, hi, e⟩ := List.mem_map.mp hz
    subst e
    obtain ⟨b1, b2⟩ := hb i hi
    exact h2 _ (List.mem_of_getElem? (getD_of (xs := rs) (i := i.toNat) (d := 0) (by omega)))
/-- lots lie in rows rs, backs in b, all behind what was there -/
structure LS (ps : List Pr) (μ μ1 : Mu) (rs : List Nat) (b : Nat) (LL : List (List (List Int))) (BB : List (List Int)) : Prop where
  len : μ.length ≤ μ1.length
  old : ∀ j, j < μ.length → μ1[j]? = μ[j]?
  rows : All2 (fun r L => μ.length ≤ r ∧ μ1[r]? = some (.lst (L.map iL))) rs LL
  nd : rs.Nodup
  nb : b ∉ rs
  back : μ.length ≤ b ∧ μ1[b]? = some (.lst (BB.map iL))
  okL : LotsOk ps LL
  okB : BacksOk ps BB
theorem All2.getL {α β : Type} {R : α → β → Prop} : ∀ {xs : List α} {ys : List β} {i : Nat} {x : α}, All2 R xs ys → xs[i]? = some x → ∃ y, ys[i]? = some y ∧ R x y
  | _, _, i, x, .nil, h => by cases h
  | _, _, 0, x, .cons r t, h => by
    have e := Option.some.inj h
    subst e
    exact ⟨_, rfl, r⟩
  | _, _, i + 1, x, .cons r t, h => All2.getL (i := i) t h
theorem All2.of {α β : Type} {R : α → β → Prop} : ∀ {xs : List α} {ys : List β}, xs.length = ys.length → (∀ (i : Nat) x y, xs[i]? = some x → ys[i]? = some y → R x y) → All2 R xs ys
  | [], [], _, _ => .nil
  | [], _ :: _, h, _ => by cases h
  | _ :: _, [], h, _ => by cases h
  | x :: xs, y :: ys, h, f => .cons (f 0 x y rfl rfl) (All2.of (by simpa using h) fun i a b ha hb => f (i + 1) a b ha hb)
section
variable {ps : List Pr} {μ μ1 : Mu} {rs : List Nat} {b : Nat} {LL : List (List (List Int))} {BB : List (List Int)}
theorem LS.lotsM (h : LS ps μ μ1 rs b LL BB) : LotsM μ1 (.lst (rs.map .ref)) LL := by
  refine ⟨_, rfl, ?_⟩
  have := h.rows
  clear h
  induction this with
  | nil => exact .nil
  | cons r _ ih => exact .cons (sv_ref r.2) ih
theorem LS.lrow (h : LS ps μ μ1 rs b LL BB) : LRow μ1 (.ref b) BB := sv_ref h.back.2
theorem LS.row_at (h : LS ps μ μ1 rs b LL BB) {i : Nat} {p : Pr} (hp : ps[i]? = some p) : ∃ r, rs[i]? = some r ∧ LL[i]? = some (LL.getD i []) ∧ μ.length ≤ r ∧ μ1[r]? = some (.lst ((LL.getD i []).map iL)) ∧ RowOk p (LL.getD i []) := by
  have hi := (List.getElem?_eq_some_iff.mp hp).1
  have hL : LL[i]? = some (LL.getD i []) := getD_of (by rw [h.okL.len]; exact hi)
  obtain ⟨r, hr, h1, h2⟩ := h.rows.get hL
  exact ⟨r, hr, hL, h1, h2, h.okL.ok i p _ hp hL⟩
theorem nd_idx {rs : List Nat} (h : rs.Nodup) {i j r : Nat} (hi : rs[i]? = some r) (hj : rs[j]? = some r) : i = j := (List.getElem?_inj (List.getElem?_eq_some_iff.mp hi).1 h).mp (hi.trans hj.symm)
theorem LS.setCell (h : LS ps μ μ1 rs b LL BB) {i j r : Nat} {p : Pr} {c : List Int} (hp : ps[i]? = some p) (hr : rs[i]? = some r) (hc : inR p.regs c ∧ c.Pairwise (· < ·)) :
    LS ps μ (μ1.set r (.lst (((LL.getD i []).set j c).map iL))) rs b (LL.set i ((LL.getD i []).set j c)) BB := by
  have hi := (List.getElem?_eq_some_iff.mp hp).1
  obtain ⟨r', hr', hL, g1, g2, g3⟩ := h.row_at hp
  rw [hr] at hr'
  cases hr'
  have hrl := (List.getElem?_eq_some_iff.mp g2).1
  refine ⟨by rw [List.length_set]; exact h.len, fun k hk => by rw [List.getElem?_set_ne (by omega)]; exact h.old k hk, All2.of ?_ ?_, h.nd, h.nb, ⟨h.back.1, ?_⟩, ⟨by rw [List.length_set]; exact h.okL.len, ?_⟩, h.okB⟩
  · rw [List.length_set]; exact All2.len h.rows
  · intro k r2 L2 h1 h2
    obtain ⟨L3, h3, h4, h5⟩ := h.rows.getL h1
    refine ⟨h4, ?_⟩
    by_cases hk : i = k
    · subst hk
      rw [hr] at h1
      cases h1
      rw [List.getElem?_set_self (List.getElem?_eq_some_iff.mp hL).1] at h2
      cases h2
      rw [List.getElem?_set_self hrl]
    · rw [List.getElem?_set_ne hk, h3] at h2
      cases h2
      have ne : r ≠ r2 := fun e => by
        subst e
        exact hk (nd_idx h.nd hr h1)
      rw [List.getElem?_set_ne ne]; exact h5
  · have ne : r ≠ b := fun e => by
      subst e
      exact h.nb (List.mem_of_getElem? hr)
    rw [List.getElem?_set_ne ne]; exact h.back.2
  · intro k p2 L2 h1 h2
    by_cases hk : i = k
    · subst hk
      rw [List.getElem?_set_self (List.getElem?_eq_some_iff.mp hL).1] at h2
      cases h2
      rw [hp] at h1
      cases h1
      refine ⟨by rw [List.length_set]; exact g3.len, fun d hd => ?_⟩
      rcases List.mem_or_eq_of_mem_set hd with h | h
      · exact g3.ok d h
      · rw [h]; exact hc
    · rw [List.getElem?_set_ne hk] at h2
      exact h.okL.ok k p2 L2 h1 h2
theorem LS.setBack (h : LS ps μ μ1 rs b LL BB) {i : Nat} {p : Pr} {c : List Int} (hp : ps[i]? = some p) (hc : inR p.back c ∧ c.Pairwise (· < ·)) : LS ps μ (μ1.set b (.lst ((BB.set i c).map iL))) rs b LL (BB.set i c) := by
  have hi := (List.getElem?_eq_some_iff.mp hp).1
  have hbl := (List.getElem?_eq_some_iff.mp h.back.2).1
  refine ⟨by rw [List.length_set]; exact h.len, fun k hk => by rw [List.getElem?_set_ne (by have := h.back.1; omega)]; exact h.old k hk, All2.of (All2.len h.rows) ?_, h.nd, h.nb, ⟨h.back.1, List.getElem?_set_self hbl⟩, h.okL, ⟨by rw [List.length_set]; exact h.okB.len, ?_⟩⟩
  · intro k r2 L2 h1 h2
    obtain ⟨L3, h3, h4, h5⟩ := h.rows.getL h1
    rw [h3] at h2
    cases h2
    refine ⟨h4, ?_⟩
    have ne : b ≠ r2 := fun e => by
      subst e
      exact h.nb (List.mem_of_getElem? h1)
    rw [List.getElem?_set_ne ne]; exact h5
  · intro k p2 c2 h1 h2
    by_cases hk : i = k
    · subst hk
      rw [List.getElem?_set_self (by rw [h.okB.len]; exact hi)] at h2
      cases h2
      rw [hp] at h1
      cases h1
      exact hc
    · rw [List.getElem?_set_ne hk] at h2
      exact h.okB.ok k p2 c2 h1 h2
/-! repr -/
def rowP (L : List (List Int)) : Vl := .lst (L.map iL)
def treeP (LL : List (List (List Int))) (BB : List (List Int)) : Vl := .lst [.lst (LL.map rowP), .lst (BB.map iL)]
theorem plainVs_map {α : Type} {f : α → Vl} : ∀ {xs : List α}, (∀ x ∈ xs, plainV (f x) = true) → plainVs (xs.map f) = true
  | [], _ => rfl
  | x :: xs, h => by rw [List.map_cons, plainVs, h x List.mem_cons_self, plainVs_map fun y hy => h y (List.mem_cons_of_mem _ hy)]; rfl
theorem shortVs_map {α : Type} {f : α → Vl} : ∀ {xs : List α}, (∀ x ∈ xs, shortV (f x) = true) → shortVs (xs.map f) = true
  | [], _ => rfl
  | x :: xs, h => by rw [List.map_cons, shortVs, h x List.mem_cons_self, shortVs_map fun y hy => h y (List.mem_cons_of_mem _ hy)]; rfl
theorem depVs_map {α : Type} {n : Nat} {f : α → Vl} : ∀ {xs : List α}, (∀ x ∈ xs, depV (f x) ≤ n) → depVs (xs.map f) ≤ n
  | [], _ => Nat.zero_le _
  | x :: xs, h => by
    rw [List.map_cons, depVs]
    have := h x List.mem_cons_self
    have := depVs_map (n := n) (f := f) (xs := xs) fun y hy => h y (List.mem_cons_of_mem _ hy)
    omega
theorem nodVs_map {α : Type} {n : Nat} {f : α → Vl} : ∀ {xs : List α}, (∀ x ∈ xs, nodV (f x) ≤ n) → nodVs (xs.map f) ≤ n * xs.length
  | [], _ => Nat.zero_le _
  | x :: xs, h => by
    rw [List.map_cons, nodVs, List.length_cons, Nat.mul_succ]
    have := h x List.mem_cons_self
    have := nodVs_map (n := n) (f := f) (xs := xs) fun y hy => h y (List.mem_cons_of_mem _ hy)
    omega
theorem iL_plain {c : List Int} : plainV (iL c) = true := by unfold iL; rw [plainV]; exact plainVs_ints c
theorem iL_dep {c : List Int} : depV (iL c) = 1 := by unfold iL; rw [depV, depVs_ints]
theorem iL_nod {c : List Int} : nodV (iL c) = c.length + 1 := by unfold iL; rw [nodV, nodVs_ints]
theorem iL_short {n : Nat} {c : List Int} (hn : n ≤ 8) (h : inR n c) : shortV (iL c) = true := by
  unfold iL
  rw [shortV, shortVs_ints, List.all_eq_true]
  intro i hi
  obtain ⟨h1, h2⟩ := h i hi
  refine decide_eq_true ?_
  have : i.natAbs < 2 ^ 8 := by omega
  by_cases hz : i.natAbs = 0
  · rw [hz]; decide
  · have := (Nat.log2_lt hz).mpr this
    omega
theorem LS.tree (h : LS ps μ μ1 rs b LL BB) (gd : Good ps) : plainV (treeP LL BB) = true ∧ shortV (treeP LL BB) = true ∧ depV (treeP LL BB) ≤ 64 ∧ 1932 * nodV (treeP LL BB) ≤ sizeLine := by
  have hsl := sizeLine_eq
  have hlen := gd.len
  have rowAt : ∀ L ∈ LL, ∃ p, PrOk ps p ∧ RowOk p L := by
    intro L hL
    obtain ⟨i, hi, e⟩ := List.getElem_of_mem hL
    have hp : ps[i]? = some (ps[i]'(by rw [← h.okL.len]; exact hi)) := List.getElem?_eq_getElem _
    exact ⟨_, gd.ok _ (List.mem_of_getElem? hp), h.okL.ok i _ L hp (by rw [List.getElem?_eq_getElem hi, e])⟩
  have backAt : ∀ c ∈ BB, ∃ p, PrOk ps p ∧ inR p.back c ∧ c.Pairwise (· < ·) := by
    intro c hc
    obtain ⟨i, hi, e⟩ := List.getElem_of_mem hc
    have hp : ps[i]? = some (ps[i]'(by rw [← h.okB.len]; exact hi)) := List.getElem?_eq_getElem _
    exact ⟨_, gd.ok _ (List.mem_of_getElem? hp), h.okB.ok i _ c hp (by rw [List.getElem?_eq_getElem hi, e])⟩
  have p1 : plainVs (LL.map rowP) = true := plainVs_map fun L _ => by unfold rowP; rw [plainV]; exact plainVs_map fun c _ => iL_plain
  have p2 : plainVs (BB.map iL) = true := plainVs_map fun c _ => iL_plain
  have s1 : shortVs (LL.map rowP) = true := shortVs_map fun L hL => by
    obtain ⟨p, ok, hr⟩ := rowAt L hL
    unfold rowP
    rw [shortV]
    exact shortVs_map fun c hc => iL_short (n := p.regs) (by have := ok.regs; omega) (hr.ok c hc).1
  have s2 : shortVs (BB.map iL) = true := shortVs_map fun c hc => by
    obtain ⟨p, ok, hr, _⟩ := backAt c hc
    exact iL_short (n := p.back) (by have := ok.back; omega) hr
  have d1 : depVs (LL.map rowP) ≤ 2 := depVs_map fun L _ => by
    unfold rowP
    rw [depV]
    have := depVs_map (n := 1) (f := iL) (xs := L) fun c _ => by rw [iL_dep]; exact Nat.le_refl _
    omega
  have d2 : depVs (BB.map iL) ≤ 1 := depVs_map fun c _ => by rw [iL_dep]; exact Nat.le_refl _
  have n1 : nodVs (LL.map rowP) ≤ 241 * LL.length := nodVs_map fun L hL => by
    obtain ⟨p, ok, hr⟩ := rowAt L hL
    unfold rowP
    rw [nodV]
    have := nodVs_map (n := 4) (f := iL) (xs := L) fun c hc => by
      rw [iL_nod]
      have := lot_len (hr.ok c hc)
      have := ok.regs
      omega
    have := hr.len
    have := ok.steps
    omega
  have n2 : nodVs (BB.map iL) ≤ 4 * BB.length := nodVs_map fun c hc => by
    obtain ⟨p, ok, hr⟩ := backAt c hc
    rw [iL_nod]
    have := lot_len hr
    have := ok.back
    omega
  have l1 := h.okL.len
  have l2 := h.okB.len
  unfold treeP
  refine ⟨?_, ?_, ?_, ?_⟩
  · simp only [plainV, plainVs, p1, p2]; rfl
  · simp only [shortV, shortVs, s1, s2]; rfl
  · simp only [depV, depVs]; omega
  · simp only [nodV, nodVs]; omega
theorem datRs_ints {μ : Mu} : ∀ ns : List Int, DatRs μ (ns.map .int) (dataVs (ns.map .int))
  | [] => .nil
  | n :: ns => .cons (by rw [dataV]; exact .int n) (datRs_ints ns)
theorem datR_iL {μ : Mu} {c : List Int} : DatR μ (iL c) (dataV (iL c)) := by
  unfold iL
  rw [dataV]
  exact .lst rfl (datRs_ints c)
theorem datRs_map {α : Type} {μ : Mu} {f g : α → Vl} : ∀ {xs : List α}, (∀ x ∈ xs, DatR μ (f x) (dataV (g x))) → DatRs μ (xs.map f) (dataVs (xs.map g))
  | [], _ => .nil
  | x :: xs, h => .cons (h x List.mem_cons_self) (datRs_map fun y hy => h y (List.mem_cons_of_mem _ hy))
theorem LS.dat (h : LS ps μ μ1 rs b LL BB) : DatR μ1 (.lst [.lst (rs.map .ref), .ref b]) (dataV (treeP LL BB)) := by
  unfold treeP
  rw [dataV, dataVs, dataVs, dataVs]
  refine .lst rfl (.cons ?_ (.cons ?_ .nil))
  · rw [dataV]
    refine .lst rfl ?_
    have := h.rows
    clear h
    induction this with
    | nil => exact .nil
    | cons r _ ih =>
      refine .cons ?_ ih
      unfold rowP
      rw [dataV]
      exact .lst (lv_ref r.2) (datRs_map fun c _ => datR_iL)
  · rw [dataV]
    exact .lst (lv_ref h.back.2) (datRs_map fun c _ => datR_iL)
theorem LS.repr (h : LS ps μ μ1 rs b LL BB) (gd : Good ps) : ∃ dd : PyData, DatR μ1 (.lst [.lst (rs.map .ref), .ref b]) dd ∧ SeqAt.shaped dd = true ∧ dd.showable = true ∧ dd.shown.length ≤ sizeLine := by
  obtain ⟨h1, h2, h3, h4⟩ := h.tree gd
  exact ⟨_, h.dat, shaped_plain h1 h3, (short_show _ h1 h2).1, shown_le h1 h2 h4⟩
end
end K65

set_option maxHeartbeats 1000000
/-! ZQ: reading of the law's least lots. -/
namespace K65
open PySem PySem.Spec L2 StX PyProof.Rows DL
def p__law_least_lots : Ct := fun xs μ Q => ∃ ps : List Pr, xs = [codeV ps] ∧ Good ps ∧ ∀ rs b μ' LL BB, LS ps μ μ' rs b LL BB → Q (.tup [.ref b, .lst (rs.map .ref)]) μ'
def c__law_least_lots : Ct := Shut p__law_least_lots
def s__law_least_lots_1 : DS :=
    (dAsg (dLc (dIter (dVar 0)) (dgName 6) dYes (dLc (dIter (dOp dIx (dVar 6) (dC (.int 4)))) (dgName 8) dYes (dLst dNil) [8]) [6]) (dgName 1))
def s__law_least_lots_2 : DS :=
    (dAsg (dLc (dEnum (dCons (dVar 0) dNil)) (dgTup 2 (dgCons (dgName 10) (dgCons (dgName 6) dgNil))) dYes (dIfE (dTest (dOp dEq (dVar 10) (dC (.int 0)))) (dListRg (dOp dIx (dVar 6) (dC (.int 2)))) (dLst dNil)) [10, 6]) (dgName 2))
def s__law_least_lots_3 : DS :=
    (dFor (dRange1 (dCons (dC (.int 400)) dNil)) (dgName 3) (dSeq (dAsg (dCB fReprD (dCons (dLst (dCons (dVar 1) (dCons (dVar 2) dNil))) dNil)) (dgName 4))
    (dSeq (dFor (dEnum (dCons (dVar 0) dNil)) (dgTup 2 (dgCons (dgName 5) (dgCons (dgName 6) dgNil))) (dFor (dEnum (dCons (dOp dIx (dVar 6) (dC (.int 4))) dNil)) (dgTup 2 (dgCons (dgName 7) (dgCons (dgName 8) dgNil))) (dSeq (dAsg (dCall c__law_lot (dCons (dVar 0) (dCons (dVar 1) (dCons (dVar 2) (dCons (dVar 5) (dCons (dVar 7) dNil)))))) (dgIx (dOp dIx (dVar 1) (dVar 5)) (dVar 7)))
    (dIf (dTest (dOp dEq (dOp dIx (dVar 8) (dC (.int 0))) (dC (.str "call")))) (dSeq (dAsg (dOp dIx (dOp dIx (dVar 1) (dVar 5)) (dOp dAdd (dVar 7) (dC (.int 1)))) (dgName 9))
    (dAsg (dCB fSortedSet (dCons (dOp dAdd (dOp dIx (dVar 2) (dOp dIx (dVar 8) (dC (.int 1)))) (dLc (dEnum (dCons (dOp dIx (dVar 8) (dC (.int 3))) dNil)) (dgTup 2 (dgCons (dgName 10) (dgCons (dgName 11) dgNil))) (dTest (dOp (dInS false) (dVar 11) (dVar 9))) (dVar 10) [10, 11])) dNil)) (dgIx (dVar 2) (dOp dIx (dVar 8) (dC (.int 1)))))) dNext))))
    (dIf (dTest (dOp dEq (dCB fReprD (dCons (dLst (dCons (dVar 1) (dCons (dVar 2) dNil))) dNil)) (dVar 4))) dBreak dNext))))
def s__law_least_lots_4 : DS :=
    (dRet (dTup (dCons (dVar 2) (dCons (dVar 1) dNil))))
def t__law_least_lots_4 : DS := s__law_least_lots_4
def t__law_least_lots_3 : DS := dSeq (s__law_least_lots_3) (t__law_least_lots_4)
def t__law_least_lots_2 : DS := dSeq (s__law_least_lots_2) (t__law_least_lots_3)
def t__law_least_lots_1 : DS := dSeq (s__law_least_lots_1) (t__law_least_lots_2)
def b__law_least_lots : DS := t__law_least_lots_1
theorem l__law_least_lots : ∀ xs μ Q, c__law_least_lots xs μ Q → xs.length = 1 := by
  intro xs μ Q ⟨_, e, _⟩; subst e; rfl
section
variable {ps : List Pr} {μ : Mu} {rs : List Nat} {b : Nat} {Q : DK}
abbrev rhoQ (ps : List Pr) (rs : List Nat) (b : Nat) (o3 o4 o5 o6 o7 o8 o9 : Option Vl) : Rho := [some (codeV ps), some (.lst (rs.map .ref)), some (.ref b), o3, o4, o5, o6, o7, o8, o9, none, none]
theorem asgG_s {de : DE} {g : DG} {U : DS} {D : DEnds} {ρ : Rho} {μ : Mu} (h : de ρ μ fun x μ1 => g x ρ μ1 fun ρ' μ' => U D ρ' μ') : dSeq (dAsg de g) U D ρ μ := h
theorem rows_at {rs : List Nat} {i r : Nat} (h : rs[i]? = some r) : L2.atI (rs.map Vl.ref) (i : Int) = some (.ref r) := atI_nat (by rw [List.getElem?_map, h]; rfl)
theorem ixN_nat {n i : Nat} (h : i < n) : ixN n (i : Int) = some i := by
  unfold ixN
  rw [if_pos (by omega), if_pos (by omega)]
  rfl
theorem map_set' {α β : Type} {f : α → β} {xs : List α} {i : Nat} {x : α} : (xs.map f).set i (f x) = (xs.set i x).map f := by rw [List.map_set]
theorem least_3 (gd : Good ps) (q : ∀ μ' LL BB, LS ps μ μ' rs b LL BB → Q (.tup [.ref b, .lst (rs.map .ref)]) μ') {μ1 : Mu} {LL : List (List (List Int))} {BB : List (List Int)} (h0 : LS ps μ μ1 rs b LL BB) : t__law_least_lots_3 (spEnds Q) (rhoQ ps rs b none none none none none none none) μ1 := by
  have hsl := sizeLine_eq
  refine ⟨400, rfl, by omega, by omega, ?_⟩
  refine forD_invB (fun rest ρ μ1 => ∃ (LL : List (List (List Int))) (BB : List (List Int)) (o3 o4 o5 o6 o7 o8 o9 : Option Vl), ρ = rhoQ ps rs b o3 o4 o5 o6 o7 o8 o9 ∧ LS ps μ μ1 rs b LL BB) (fun _ _ _ _ => trivial) (fun ρ μ1 h => ?_) (fun x rest ρ μ1 h D hD hrt hbk => ?_) _ _ _ ?_
  · obtain ⟨LL, BB, o3, o4, o5, o6, o7, o8, o9, e, h⟩ := h
    subst e
    exact ⟨by show 2 ≤ _; omega, q _ _ _ h⟩
  · obtain ⟨LL, BB, o3, o4, o5, o6, o7, o8, o9, e, h⟩ := h
    subst e
    refine asg_s ?_
    refine ⟨by show 2 ≤ _; omega, .inl ?_⟩
    obtain ⟨dd, r1, r2, r3, r4⟩ := h.repr gd
    refine ⟨_, dd, rfl, r1, r2, r3, r4, ?_⟩
    generalize dd.shown = t
    refine ⟨codeV ps, ps.map Pr.v, rfl, rfl, ?_⟩
    refine DL.forD_inv (fun rest ρ μ2 => ∃ (i : Nat) (LL : List (List (List Int))) (BB : List (List Int)) (o5 o6 o7 o8 o9 : Option Vl), (numbered (ps.map Pr.v)).drop i = rest ∧ ρ = rhoQ ps rs b (some x) (some (.str t)) o5 o6 o7 o8 o9 ∧ LS ps μ μ2 rs b LL BB) (fun _ _ _ _ => trivial) (fun ρ μ2 h => ?_) (fun y rest ρ μ2 h D2 hD2 hrt2 _ => ?_) _ _ _ ?_
    · obtain ⟨i, LL, BB, o5, o6, o7, o8, o9, _, e, h⟩ := h
      subst e
      refine ⟨by show 2 ≤ _; omega, .inl ?_⟩
      obtain ⟨dd2, r1, r2, r3, r4⟩ := h.repr gd
      refine ⟨_, dd2, rfl, r1, r2, r3, r4, ?_⟩
      generalize dd2.shown = t2
      refine dec_splitE (p := t2 = t) (fun _ => ?_) (fun _ => ?_)
      · show D.bk _ _
        rw [hbk]
        exact ⟨by show 2 ≤ _; omega, q _ _ _ h⟩
      · exact hD _ _ ⟨LL, BB, _, _, _, _, _, _, _, rfl, h⟩
    · obtain ⟨i, LL, BB, o5, o6, o7, o8, o9, e0, e, h⟩ := h
      subst e
      obtain ⟨y2, hy, ex', hr⟩ := numbered_drop e0
      subst ex'
      rw [List.getElem?_map] at hy
      obtain ⟨p, hp, ey⟩ := Option.map_eq_some_iff.mp hy
      subst ey
      have okp := gd.ok p (List.mem_of_getElem? hp)
      refine ⟨rfl, rfl, ?_⟩
      refine ⟨_, .tup (p.steps.map St.t), rfl, rfl, _, p.steps.map St.t, rfl, rfl, ?_⟩
      refine DL.forD_inv (fun rest ρ μ3 => ∃ (j : Nat) (LL : List (List (List Int))) (BB : List (List Int)) (o7 o8 o9 : Option Vl), (numbered (p.steps.map St.t)).drop j = rest ∧ ρ = rhoQ ps rs b (some x) (some (.str t)) (some (.int i)) (some p.v) o7 o8 o9 ∧ LS ps μ μ3 rs b LL BB) (fun _ _ _ _ => trivial) (fun ρ μ3 h => ?_) (fun z rest ρ μ3 h D3 hD3 hrt3 _ => ?_) _ _ _ ?_
      · obtain ⟨j, LL, BB, o7, o8, o9, _, e, h⟩ := h
        exact hD2 _ _ ⟨i + 1, LL, BB, _, _, _, _, _, hr, e, h⟩
      · obtain ⟨j, LL, BB, o7, o8, o9, e0, e, h⟩ := h
        subst e
        obtain ⟨y3, hy, ex', hr2⟩ := numbered_drop e0
        subst ex'
        rw [List.getElem?_map] at hy
        obtain ⟨s, hs, ey⟩ := Option.map_eq_some_iff.mp hy
        subst ey
        have hj := (List.getElem?_eq_some_iff.mp hs).1
        have hos := okp.ok s (List.mem_of_getElem? hs)
        obtain ⟨r, hr1, hL, g1, g2, g3⟩ := h.row_at hp
        have hbk' : BB[i]? = some (BB.getD i []) := getD_of (by rw [h.okB.len]; exact (List.getElem?_eq_some_iff.mp hp).1)
        refine ⟨rfl, rfl, ?_⟩
        refine asgG_s ?_
        refine Shut.mk ⟨ps, p, i, j, s, _, _, LL, BB, rfl, gd, hp, hs, h.lotsM, h.okL, h.lrow, h.okB, fun out q1 q2 => ?_⟩
        have hout : inR p.regs out := fun z hz => need_in hos (behind_in okp g3 hs).1 (h.okB.ok i p _ hp hbk').1 z ((q2 z).mp hz)
        have h2 := h.setCell (j := j) hp hr1 ⟨hout, q1⟩
        refine ⟨_, .ref r, rfl, rows_at hr1, ?_⟩
        refine ⟨r, j, (LL.getD i []).map iL, j, rfl, rfl, g2, ixN_nat (by rw [List.length_map, g3.len]; exact hj), ?_⟩
        rw [map_set']
        rcases s_word s with ⟨jj, hs', qs, es⟩ | ⟨w, r2, ew, hw, _⟩
        · subst es
          obtain ⟨_, c2, hc2, _, hq3, _, hq5, _⟩ := hos
          have hj1 : j + 1 < p.steps.length := nexts_lt okp hs (j + 1) (by simp [St.nexts])
          obtain ⟨r', hr1', hL', g1', g2', g3'⟩ := h2.row_at hp
          rw [hr1] at hr1'
          cases hr1'
          generalize hLL2 : LL.set i ((LL.getD i []).set j out) = LL2 at h2 hL' g2' g3' ⊢
          generalize hμ2 : μ3.set r (.lst (((LL.getD i []).set j out).map iL)) = μ4 at h2 g2' ⊢
          refine if_word (by rfl) (by rfl) (fun _ => ?_) (fun h => absurd rfl h)
          refine asg_s ?_
          refine ⟨_, .ref r, rfl, rows_at hr1, _, iL ((LL2.getD i []).getD (j + 1) []), sv_ref g2', atI_row (by rw [g3'.len]; exact hj1), ?_⟩
          have hbj : BB[jj]? = some (BB.getD jj []) := getD_of (by rw [h2.okB.len]; exact (List.getElem?_eq_some_iff.mp hc2).1)
          have okb := h2.okB.ok jj c2 _ hc2 hbj
          have okc := gd.ok c2 (List.mem_of_getElem? hc2)
          refine ⟨_, .int jj, rfl, rfl, _, iL (BB.getD jj []), h2.lrow, atI_row (by rw [h2.okB.len]; exact (List.getElem?_eq_some_iff.mp hc2).1), ?_⟩
          refine ⟨_, iT qs, rfl, rfl, _, qs.map .int, rfl, rfl, ?_⟩
          rw [numbered_zip]
          refine DL.lc_filter (μ := μ4) trivial (fun p : Int × Nat => Vl.tup [.int (p.2 : Int), .int p.1]) (fun p => decide (p.1 ∈ (LL2.getD i []).getD (j + 1) [])) (fun p => .int (p.2 : Int)) qs.zipIdx [] (fun z hz P R hR' hP => ?_) ?_
          · refine ⟨rfl, rfl, ?_⟩
            refine ⟨_, _, _, rfl, rfl, flVs_ints _, ?_⟩
            rw [inV_ints]
            exact dec_splitE (p := z.1 ∈ (LL2.getD i []).getD (j + 1) []) (fun h => hR' (decide_eq_true h)) (fun h => hP (decide_eq_false h))
          refine .inl ?_
          generalize hats : (qs.zipIdx.filter fun p => decide (p.1 ∈ (LL2.getD i []).getD (j + 1) [])) = ats
          have hal : ats.length ≤ qs.length := by
            rw [← hats]
            refine Nat.le_trans (List.length_filter_le _ _) ?_
            rw [List.length_zipIdx]; exact Nat.le_refl _
          have hain : inR c2.back (ats.map fun p => (p.2 : Int)) := fun z hz => by
            obtain ⟨q, hq, e⟩ := List.mem_map.mp hz
            subst e
            rw [← hats] at hq
            have := (List.getElem?_eq_some_iff.mp (zipIdx_mem.mp (List.mem_filter.mp hq).1)).1
            omega
          have ea : (ats.map fun p : Int × Nat => Vl.int (p.2 : Int)) = (ats.map fun p => (p.2 : Int)).map .int := by rw [List.map_map]; rfl
          rw [List.nil_append, ea]
          have hbl := lot_len okb
          refine ⟨_, _, rfl, rfl, by simp only [List.length_map]; have := okc.back; omega, .inl ?_⟩
          rw [← List.map_append]
          refine ⟨_, BB.getD jj [] ++ ats.map fun p => (p.2 : Int), rfl, rfl, by rw [List.length_append, List.length_map]; have := okc.back; omega, fun out2 e1 e2 => .inl ?_⟩
          refine ⟨_, .int jj, rfl, rfl, ?_⟩
          refine ⟨b, jj, BB.map iL, jj, rfl, rfl, h2.back.2, ixN_nat (by rw [List.length_map, h2.okB.len]; exact (List.getElem?_eq_some_iff.mp hc2).1), ?_⟩
          have h3 := h2.setBack hc2 (c := out2) ⟨fun z hz => (List.mem_append.mp ((e2 z).mp hz)).elim (okb.1 z) (hain z), e1⟩
          rw [show Vl.lst (out2.map .int) = iL out2 from rfl, map_set']
          exact hD3 _ _ ⟨j + 1, LL2, BB.set jj out2, _, _, _, hr2, rfl, h3⟩
        · refine if_word (by rfl) (by show some s.v = _; rw [ew]) (fun h => absurd h hw) (fun _ => ?_)
          exact hD3 _ _ ⟨j + 1, _, _, _, _, _, hr2, rfl, h2⟩
      · exact ⟨0, LL, BB, _, _, _, rfl, rfl, h⟩
    · exact ⟨0, LL, BB, _, _, _, _, _, rfl, rfl, h⟩
  · exact ⟨LL, BB, _, _, _, _, _, _, _, rfl, h0⟩
/-- the rows as they are first -/
def row0 (p : Pr) : List (List Int) := p.steps.map fun _ => []
def mo0 (p : Pr) : Mo := .lst ((row0 p).map iL)
theorem row0_iL {p : Pr} : (p.steps.map fun _ => iL []) = (row0 p).map iL := by unfold row0; rw [List.map_map]; rfl
theorem first_LS {BB : List (List Int)} (gd : Good ps) (hB : BacksOk ps BB) : LS ps μ ((μ ++ ps.map mo0) ++ [.lst (BB.map iL)]) ((List.range ps.length).map fun i => μ.length + i) (μ ++ ps.map mo0).length (ps.map row0) BB := by
  have e1 : ∀ i, ((List.range ps.length).map fun i => μ.length + i)[i]? = if i < ps.length then some (μ.length + i) else none := fun i => by
    rw [List.getElem?_map]
    by_cases hi : i < ps.length
    · rw [if_pos hi, List.getElem?_range hi]; rfl
    · rw [if_neg hi, List.getElem?_eq_none (by rw [List.length_range]; omega)]; rfl
  refine ⟨by simp only [List.length_append]; omega, fun j hj => ?_, All2.of (by simp) fun i r L hr hL => ?_, ?_, ?_, ⟨by simp only [List.length_append]; omega, get_app⟩, ⟨by simp, fun i p L hp hL => ?_⟩, hB⟩
  · rw [List.append_assoc, List.getElem?_append_left hj]
  · rw [e1] at hr
    split at hr
    · rename_i hi
      cases hr
      rw [List.getElem?_map, List.getElem?_eq_getElem hi] at hL
      cases hL
      refine ⟨by omega, ?_⟩
      rw [List.append_assoc, List.getElem?_append_right (by omega), show μ.length + i - μ.length = i by omega, List.getElem?_append_left (by rw [List.length_map]; exact hi), List.getElem?_map, List.getElem?_eq_getElem hi]
      rfl
    · cases hr
  · refine List.Pairwise.map _ (fun a b h => ?_) List.nodup_range
    intro e
    exact h (by omega)
  · intro h
    obtain ⟨i, hi, e⟩ := List.mem_map.mp h
    have := List.mem_range.mp hi
    rw [List.length_append, List.length_map] at e
    omega
  · rw [List.getElem?_map, hp] at hL
    cases hL
    refine ⟨by simp [row0], fun c hc => ?_⟩
    obtain ⟨_, _, e⟩ := List.mem_map.mp hc
    subst e
    exact ⟨(fun x hx => nomatch hx), List.Pairwise.nil⟩
theorem r__law_least_lots : ∀ xs μ Q, c__law_least_lots xs μ Q → b__law_least_lots (spEnds Q) (startD ["plain", "lots", "backs", "turn", "ahead", "number", "one", "place", "step", "later", "at", "its"] xs) μ := by
  intro xs μ Q ⟨ps, e, gd, q⟩
  subst e
  have hsl := sizeLine_eq
  have hlen := gd.len
  refine asg_s ?_
  refine ⟨ps.map Pr.v, rfl, ?_⟩
  refine DL.lcD_inv (fun rest acc μ1 => ∃ A R : List Pr, ps = A ++ R ∧ rest = R.map Pr.v ∧ acc = (List.range A.length).map (fun i => Vl.ref (μ.length + i)) ∧ μ1 = μ ++ A.map mo0) (fun _ _ _ _ => trivial) (fun acc μ1 h => ?_) (fun x r acc μ1 h D hD => ?_) _ _ _ ?_
  · obtain ⟨A, R, e1, e2, e3, e4⟩ := h
    have : R = [] := by cases R with
      | nil => rfl
      | cons a r => cases e2
    subst this
    rw [List.append_nil] at e1
    subst e1; subst e3; subst e4
    refine .inl ?_
    refine asg_s ?_
    refine ⟨codeV ps, ps.map Pr.v, rfl, rfl, ?_⟩
    refine DL.lcD_inv (fun rest acc μ1 => ∃ (i : Nat) (BB : List (List Int)), (numbered (ps.map Pr.v)).drop i = rest ∧ BB.length = i ∧ i ≤ ps.length ∧ acc = BB.map iL ∧ μ1 = μ ++ ps.map mo0 ∧ ∀ (j : Nat) (p : Pr) (c : List Int), ps[j]? = some p → BB[j]? = some c → inR p.back c ∧ c.Pairwise (· < ·)) (fun _ _ _ _ => trivial) (fun acc μ1 h => ?_) (fun x r acc μ1 h D hD => ?_) _ _ _ ?_
    · obtain ⟨i, BB, e0, e1, hi, e2, e3, hB⟩ := h
      subst e2; subst e3
      have hi2 : ps.length ≤ i := by
        have := congrArg List.length e0
        rw [List.length_drop, numbered_len, List.length_map] at this
        simp at this; omega
      refine .inr ?_
      have l := first_LS (μ := μ) gd (BB := BB) ⟨by omega, hB⟩
      have e5 : ((List.range ps.length).map fun i => Vl.ref (μ.length + i)) = ((List.range ps.length).map fun i => μ.length + i).map .ref := by rw [List.map_map]; rfl
      rw [e5]
      exact least_3 gd (fun μ' LL BB h => q _ _ μ' LL BB h) l
    · obtain ⟨i, BB, e0, e1, hi, e2, e3, hB⟩ := h
      subst e2; subst e3
      obtain ⟨y, hy, ex', hr⟩ := numbered_drop e0
      subst ex'
      rw [List.getElem?_map] at hy
      obtain ⟨p, hp, ey⟩ := Option.map_eq_some_iff.mp hy
      subst ey
      have hil := (List.getElem?_eq_some_iff.mp hp).1
      have okp := gd.ok p (List.mem_of_getElem? hp)
      have next : ∀ c : List Int, inR p.back c ∧ c.Pairwise (· < ·) → D (BB.map iL ++ [iL c]) (μ ++ ps.map mo0) := fun c hc => by
        refine hD _ _ ⟨i + 1, BB ++ [c], hr, by simp [e1], hil, by simp, rfl, fun j p' c' hp' hc' => ?_⟩
        by_cases hj : j < BB.length
        · rw [List.getElem?_append_left hj] at hc'
          exact hB j p' c' hp' hc'
        · have hj2 := (List.getElem?_eq_some_iff.mp hc').1
          rw [List.length_append] at hj2
          have ej : j = i := by simp at hj2; omega
          subst ej
          rw [List.getElem?_append_right (by omega), e1, Nat.sub_self] at hc'
          cases hc'
          rw [hp] at hp'
          cases hp'
          exact hc
      refine ⟨rfl, rfl, ?_⟩
      refine dec_splitE (p := ((i : Nat) : Int) = 0) (fun h0 => ?_) (fun h0 => ?_)
      · refine ⟨_, .int p.back, rfl, rfl, p.back, rfl, rg_ok (by have := okp.back; omega), .inl ?_⟩
        rw [show ((p.back : Int)).toNat = p.back by omega, rngD_rngI]
        exact next _ ⟨rngI_in, rngI_up⟩
      · exact ⟨by show 0 ≤ _; omega, .inl (next [] ⟨(fun x hx => nomatch hx), List.Pairwise.nil⟩)⟩
    · exact ⟨0, [], rfl, rfl, Nat.zero_le _, rfl, rfl, fun j p c _ h => by simp at h⟩
  · obtain ⟨A, R, e1, e2, e3, e4⟩ := h
    cases R with
    | nil => cases e2
    | cons p R =>
      have ey := (List.cons.inj e2).1
      have er := (List.cons.inj e2).2
      subst ey; subst er; subst e3; subst e4
      refine ⟨_, .tup (p.steps.map St.t), rfl, rfl, _, rfl, ?_⟩
      refine DL.lc_map (μ := μ ++ A.map mo0) trivial St.t (fun _ => iL []) p.steps [] (fun s hs P hP => ⟨by show 0 ≤ _; omega, .inl hP⟩) ?_
      refine .inr ?_
      rw [List.nil_append, row0_iL]
      refine hD _ _ ⟨A ++ [p], R, by rw [List.append_assoc]; exact e1, rfl, ?_, ?_⟩
      · rw [show (A ++ [p]).length = A.length + 1 by simp, List.range_succ, List.map_append, List.length_append, List.length_map]; rfl
      · rw [List.map_append, List.append_assoc]; rfl
  · exact ⟨[], ps, rfl, rfl, rfl, by rw [List.map_nil, List.append_nil]⟩
end
end K65

set_option maxHeartbeats 1000000
/-! ZR: the law, cut; a lap of it. -/
namespace K65
open PySem PySem.Spec L2 StX PyProof.Rows DL
def s_law_1 (G : Cs) : DS :=
    (dAsg (dCall c__law_pen (dCons (dVar 0) dNil)) (dgName 1))
def s_law_2_1 (G : Cs) : DS :=
    (dAsg (dCall c__law_plain (dCons (dVar 1) (dCons (dC (.int 3)) dNil))) (dgName 3))
def s_law_2_2 (G : Cs) : DS :=
    (dAsg (dTup (dCons (dCall (c__law_made G) (dCons (dVar 3) dNil)) (dCons (dCB fLen (dCons (dVar 3) dNil)) dNil))) (dgTup 2 (dgCons (dgName 4) (dgCons (dgName 5) dgNil))))
def s_law_2_3_1 (G : Cs) : DS :=
    (dAsg (dCall c__law_least_lots (dCons (dVar 3) dNil)) (dgTup 2 (dgCons (dgName 7) (dgCons (dgName 8) dgNil))))
def s_law_2_3_2 (G : Cs) : DS :=
    (dIf (dTest (dOp dGt (dVar 6) (dC (.int 3)))) (dSeq (dAsg (dLc (dEnum (dCons (dVar 7) dNil)) (dgTup 2 (dgCons (dgName 19) (dgCons (dgName 20) dgNil))) dYes (dCB fSortedSet (dCons (dOp dAdd (dVar 20) (dLc (dRange1 (dCons (dOp dIx (dOp dIx (dVar 3) (dVar 19)) (dC (.int 2))) dNil)) (dgName 21) (dTest (dOp dEq (dCall c__law_draw (dCons (dVar 1) (dCons (dC (.int 2)) dNil))) (dC (.int 0)))) (dVar 21) [21])) dNil)) [19, 20]) (dgName 7))
    (dAsg (dLc (dEnum (dCons (dVar 8) dNil)) (dgTup 2 (dgCons (dgName 19) (dgCons (dgName 20) dgNil))) dYes (dLc (dIter (dVar 20)) (dgName 12) dYes (dIfE (dTest (dOp dEq (dCall c__law_draw (dCons (dVar 1) (dCons (dC (.int 2)) dNil))) (dC (.int 0)))) (dListRg (dOp dIx (dOp dIx (dVar 3) (dVar 19)) (dC (.int 3)))) (dVar 12)) [12]) [19, 20]) (dgName 8))) dNext)
def s_law_2_3_3 (G : Cs) : DS :=
    (dPar 9 10 (dCons (dCall c__law_draw (dCons (dVar 1) (dCons (dVar 5) dNil))) (dCons (dCall c__law_draw (dCons (dVar 1) (dCons (dC (.int 4)) dNil))) dNil)))
def s_law_2_3_4 (G : Cs) : DS :=
    (dAsg (dCall c__law_draw (dCons (dVar 1) (dCons (dCB fLen (dCons (dOp dIx (dVar 8) (dVar 9)) dNil)) dNil))) (dgName 11))
def s_law_2_3_5 (G : Cs) : DS :=
    (dAsg (dOp dIx (dOp dIx (dVar 8) (dVar 9)) (dVar 11)) (dgName 12))
def s_law_2_3_6 (G : Cs) : DS :=
    (dIf (dAndT (dTest (dOp dEq (dVar 10) (dC (.int 0)))) (dTest (dOp dNe (dVar 12) (dLst dNil)))) (dAsg (dSlA (dVar 12) dNoPart (dPart (dNeg (dC (.int 1))))) (dgIx (dOp dIx (dVar 8) (dVar 9)) (dVar 11))) (dIf (dAndT (dTest (dOp dEq (dVar 10) (dC (.int 1)))) (dTest (dOp dLt (dCB fLen (dCons (dVar 12) dNil)) (dOp dIx (dOp dIx (dVar 3) (dVar 9)) (dC (.int 3)))))) (dAsg (dCB fSortedI (dCons (dOp dAdd (dVar 12) (dLst (dCons (dOp dIx (dLc (dRange1 (dCons (dOp dIx (dOp dIx (dVar 3) (dVar 9)) (dC (.int 3))) dNil)) (dgName 22) (dTest (dOp (dInS true) (dVar 22) (dVar 12))) (dVar 22) [22]) (dC (.int 0))) dNil))) dNil)) (dgIx (dOp dIx (dVar 8) (dVar 9)) (dVar 11))) (dIf (dAndT (dTest (dOp dEq (dVar 10) (dC (.int 2)))) (dTest (dOp dNe (dOp dIx (dVar 7) (dVar 9)) (dLst dNil)))) (dAsg (dSlA (dOp dIx (dVar 7) (dVar 9)) (dPart (dC (.int 1))) dNoPart) (dgIx (dVar 7) (dVar 9))) dNext)))
def s_law_2_3_7 (G : Cs) : DS :=
    (dIf (dTest (dOp dNe (dCB fReprD (dCons (dCall (c_shows_needed G) (dCons (dVar 4) (dCons (dMake G.Needed ((c_Needed___init__ G)) (dCons (dVar 7) (dCons (dVar 8) dNil))) dNil))) dNil)) (dCB fReprD (dCons (dCall c__law_is_closed (dCons (dVar 3) (dCons (dVar 7) (dCons (dVar 8) dNil)))) dNil)))) (dRet (dC (.bl false))) dNext)
def t_law_2_3_7 (G : Cs) : DS := s_law_2_3_7 G
def t_law_2_3_6 (G : Cs) : DS := dSeq (s_law_2_3_6 G) (t_law_2_3_7 G)
def t_law_2_3_5 (G : Cs) : DS := dSeq (s_law_2_3_5 G) (t_law_2_3_6 G)
def t_law_2_3_4 (G : Cs) : DS := dSeq (s_law_2_3_4 G) (t_law_2_3_5 G)
def t_law_2_3_3 (G : Cs) : DS := dSeq (s_law_2_3_3 G) (t_law_2_3_4 G)
def t_law_2_3_2 (G : Cs) : DS := dSeq (s_law_2_3_2 G) (t_law_2_3_3 G)
def t_law_2_3_1 (G : Cs) : DS := dSeq (s_law_2_3_1 G) (t_law_2_3_2 G)
def b_law_2_3 (G : Cs) : DS := t_law_2_3_1 G
def s_law_2_3 (G : Cs) : DS :=
    (dFor (dRange1 (dCons (dC (.int 8)) dNil)) (dgName 6) (b_law_2_3 G))
def s_law_2_4 (G : Cs) : DS :=
    (dAsg (dCall c__law_least_lots (dCons (dVar 3) dNil)) (dgTup 2 (dgCons (dgName 7) (dgCons (dgName 8) dgNil))))
def s_law_2_5 (G : Cs) : DS :=
    (dAsg (dLc (dIter (dVar 3)) (dgName 17) dYes (dLc (dIter (dOp dIx (dVar 17) (dC (.int 4)))) (dgName 18) dYes (dListRg (dOp dIx (dVar 17) (dC (.int 3)))) [18]) [17]) (dgName 13))
def s_law_2_6 (G : Cs) : DS :=
    (dAsg (dLc (dIter (dVar 3)) (dgName 17) dYes (dListRg (dOp dIx (dVar 17) (dC (.int 2)))) [17]) (dgName 14))
def s_law_2_7 (G : Cs) : DS :=
    (dAsg (dCall c__law_pick (dCons (dVar 1) (dCons (dLst (dCons (dLst (dCons (dC (.int 1)) (dCons (dC (.int 0)) dNil))) (dCons (dLst (dCons (dC (.int 0)) (dCons (dC (.int 0)) dNil))) (dCons (dLst (dCons (dNeg (dC (.int 1))) dNil)) (dCons (dLst (dCons (dC (.int 9)) dNil)) (dCons (dLst (dCons (dC (.bl true)) dNil)) (dCons (dLst (dCons (dC .non) dNil)) (dCons (dLst (dCons (dC (.str "0")) dNil)) (dCons (dC .non) (dCons (dC (.int 5)) dNil)))))))))) dNil))) (dgName 15))
def s_law_2_8 (G : Cs) : DS :=
    (dAsg (dLst (dCons (dC .non) (dCons (dC (.int 5)) (dCons (dTup dNil) (dCons (dMake G.Needed ((c_Needed___init__ G)) (dCons (dC .non) (dCons (dVar 13) dNil))) (dCons (dMake G.Needed ((c_Needed___init__ G)) (dCons (dVar 14) (dCons (dC .non) dNil))) (dCons (dMake G.Needed ((c_Needed___init__ G)) (dCons (dOp dAdd (dVar 14) (dLst (dCons (dLst dNil) dNil))) (dCons (dVar 13) dNil))) (dCons (dMake G.Needed ((c_Needed___init__ G)) (dCons (dVar 14) (dCons (dOp dAdd (dVar 13) (dLst (dCons (dLst dNil) dNil))) dNil))) (dCons (dMake G.Needed ((c_Needed___init__ G)) (dCons (dVar 14) (dCons (dSlA (dVar 13) (dPart (dC (.int 1))) dNoPart) dNil))) (dCons (dMake G.Paper (c_Paper___init__ G.Paper) (dCons (dC (.str "needed")) (dCons (dVar 14) (dCons (dVar 13) dNil)))) dNil)))))))))) (dgName 16))
def s_law_2_9 (G : Cs) : DS :=
    (dDrop (dBM mAppend (dVar 16) (dCons (dMake G.Needed ((c_Needed___init__ G)) (dCons (dOp dAdd (dLst (dCons (dVar 15) dNil)) (dSlA (dVar 14) (dPart (dC (.int 1))) dNoPart)) (dCons (dVar 13) dNil))) dNil)))
def s_law_2_10 (G : Cs) : DS :=
    (dAsg (dOp dAdd (dVar 16) (dLst (dCons (dMake G.Needed ((c_Needed___init__ G)) (dCons (dVar 14) (dCons (dOp dAdd (dLst (dCons (dOp dAdd (dLst (dCons (dVar 15) dNil)) (dSlA (dOp dIx (dVar 13) (dC (.int 0))) (dPart (dC (.int 1))) dNoPart)) dNil)) (dSlA (dVar 13) (dPart (dC (.int 1))) dNoPart)) dNil))) (dCons (dMake G.Needed ((c_Needed___init__ G)) (dCons (dVar 14) (dCons (dOp dAdd (dLst (dCons (dSlA (dOp dIx (dVar 13) (dC (.int 0))) (dPart (dC (.int 1))) dNoPart) dNil)) (dSlA (dVar 13) (dPart (dC (.int 1))) dNoPart)) dNil))) (dCons (dMake G.Needed ((c_Needed___init__ G)) (dCons (dVar 14) (dCons (dOp dAdd (dLst (dCons (dOp dAdd (dOp dIx (dVar 13) (dC (.int 0))) (dLst (dCons (dLst dNil) dNil))) dNil)) (dSlA (dVar 13) (dPart (dC (.int 1))) dNoPart)) dNil))) (dCons (dMake G.Needed ((c_Needed___init__ G)) (dCons (dVar 14) (dCons (dOp dAdd (dLst (dCons (dC .non) dNil)) (dSlA (dVar 13) (dPart (dC (.int 1))) dNoPart)) dNil))) dNil)))))) (dgName 16))
def s_law_2_11 (G : Cs) : DS :=
    (dIf (dOrT (dTest (dOp dNe (dLc (dIter (dVar 16)) (dgName 17) (dTest (dOp (dIsB true) (dCall (c_shows_needed G) (dCons (dVar 4) (dCons (dVar 17) dNil))) (dC (.bl false)))) (dVar 17) [17]) (dLst dNil))) (dTest (dOp (dIsB true) (dCall (c_shows_needed G) (dCons (dVar 4) (dCons (dMake G.Needed ((c_Needed___init__ G)) (dCons (dVar 14) (dCons (dVar 13) dNil))) dNil))) (dC (.bl true))))) (dRet (dC (.bl false))) dNext)
def t_law_2_11 (G : Cs) : DS := s_law_2_11 G
def t_law_2_10 (G : Cs) : DS := dSeq (s_law_2_10 G) (t_law_2_11 G)
def t_law_2_9 (G : Cs) : DS := dSeq (s_law_2_9 G) (t_law_2_10 G)
def t_law_2_8 (G : Cs) : DS := dSeq (s_law_2_8 G) (t_law_2_9 G)
def t_law_2_7 (G : Cs) : DS := dSeq (s_law_2_7 G) (t_law_2_8 G)
def t_law_2_6 (G : Cs) : DS := dSeq (s_law_2_6 G) (t_law_2_7 G)
def t_law_2_5 (G : Cs) : DS := dSeq (s_law_2_5 G) (t_law_2_6 G)
def t_law_2_4 (G : Cs) : DS := dSeq (s_law_2_4 G) (t_law_2_5 G)
def t_law_2_3 (G : Cs) : DS := dSeq (s_law_2_3 G) (t_law_2_4 G)
def t_law_2_2 (G : Cs) : DS := dSeq (s_law_2_2 G) (t_law_2_3 G)
def t_law_2_1 (G : Cs) : DS := dSeq (s_law_2_1 G) (t_law_2_2 G)
def b_law_2 (G : Cs) : DS := t_law_2_1 G
def s_law_2 (G : Cs) : DS :=
    (dFor (dRange1 (dCons (dC (.int 3)) dNil)) (dgName 2) (b_law_2 G))
def s_law_3 (G : Cs) : DS :=
    (dRet (dC (.bl true)))
def t_law_3 (G : Cs) : DS := s_law_3 G
def t_law_2 (G : Cs) : DS := dSeq (s_law_2 G) (t_law_3 G)
def t_law_1 (G : Cs) : DS := dSeq (s_law_1 G) (t_law_2 G)
def b_law (G : Cs) : DS := t_law_1 G
theorem Fx.app {μ ex : Mu} : ∀ {n : Nat} {x y : Vl}, Fx μ n x y → Fx (μ ++ ex) n x y
  | 0, _, _, h => False.elim h
  | n + 1, x, y, h => by
    rcases h with h | ⟨xs, ys, h1, h2, h3⟩
    · exact .inl h
    · exact .inr ⟨xs, ys, sview_app h1, h2, h3.imp fun _ _ r => Fx.app r⟩
theorem mk_needed {G : Cs} {μ : Mu} {x y x' y' : Vl} {Q : DK} (h1 : Fx μ 7 x x') (h2 : Fx μ 7 y y') (q : Q (.ref μ.length) (μ ++ [.ins G.Needed (needFs x' y')])) :
    c_Needed___init__ G (.ref μ.length :: [x, y]) (μ ++ [.ins G.Needed []]) fun v μ2 => v = .non ∧ Q (.ref μ.length) μ2 := by
  refine ⟨μ.length, x, y, x', y', rfl, get_app, h1.app, h2.app, rfl, ?_⟩
  rw [set_app]; exact q
theorem fx_iL {μ : Mu} {n : Nat} {c : List Int} : Fx μ (n + 2) (iL c) (iT c) := fx_ints rfl
theorem fx_rows {μ : Mu} {n : Nat} {x : Vl} {L : List (List Int)} (h : sview μ x = some (L.map iL)) : Fx μ (n + 3) x (rowT L) := .inr ⟨_, _, h, rfl, All2.map _ _ L fun _ _ => fx_iL⟩
theorem fx_lots {μ : Mu} {n : Nat} {x : Vl} {LL : List (List (List Int))} (h : LotsM μ x LL) : Fx μ (n + 4) x (.tup (LL.map rowT)) := by
  obtain ⟨rows, h1, h2⟩ := h
  refine .inr ⟨rows, _, h1, rfl, ?_⟩
  clear h1
  induction h2 with
  | nil => exact .nil
  | cons r _ ih => exact .cons (fx_rows r) ih
/-- lots of a lap: all else is as it was, but the pen -/
structure LM (ps : List Pr) (k : Nat) (n : Int) (μ μ1 : Mu) (rs : List Nat) (b : Nat) (LL : List (List (List Int))) (BB : List (List Int)) : Prop where
  mv : Mv k n μ μ1
  ls : LS ps (μ1.take μ.length) μ1 rs b LL BB
section
variable {ps : List Pr} {k : Nat} {n m : Int} {μ μ1 μ2 : Mu} {rs : List Nat} {b : Nat} {LL : List (List (List Int))} {BB : List (List Int)}
theorem take_len (h : μ.length ≤ μ1.length) : (μ1.take μ.length).length = μ.length := by rw [List.length_take]; omega
theorem LM.of (h : LS ps μ μ1 rs b LL BB) (hk : PenI k n μ) : LM ps k n μ μ1 rs b LL BB := by
  have hl := take_len h.len
  refine ⟨⟨h.len, fun j hj _ => h.old j hj, ?_⟩, ⟨by rw [hl]; exact h.len, fun j hj => by rw [hl] at hj; rw [List.getElem?_take_of_lt hj], ?_, h.nd, h.nb, ⟨by rw [hl]; exact h.back.1, h.back.2⟩, h.okL, h.okB⟩⟩
  · obtain ⟨ns, a, l, h1, h2⟩ := hk
    exact ⟨ns, a, l, by rw [h.old k (List.getElem?_eq_some_iff.mp h1).1]; exact h1, h2⟩
  · exact h.rows.imp fun r L q => ⟨by rw [hl]; exact q.1, q.2⟩
theorem LM.step (h : LM ps k n μ μ1 rs b LL BB) (hk : k < μ.length) (hm : Mv k m μ1 μ2) : LM ps k m μ μ2 rs b LL BB := by
  have hl1 := take_len h.mv.len
  have hl2 := take_len (Nat.le_trans h.mv.len hm.len)
  have l := h.ls
  refine ⟨h.mv.trans hm, ⟨by rw [hl2]; exact Nat.le_trans h.mv.len hm.len, fun j hj => by rw [hl2] at hj; rw [List.getElem?_take_of_lt hj], ?_, l.nd, l.nb, ⟨by rw [hl2]; have := l.back.1; rw [hl1] at this; exact this, hm.get l.back.2 (by have := l.back.1; rw [hl1] at this; omega)⟩, l.okL, l.okB⟩⟩
  refine l.rows.imp fun r L q => ?_
  rw [hl1] at q
  exact ⟨by rw [hl2]; exact q.1, hm.get q.2 (by omega)⟩
theorem LM.le (h : LM ps k n μ μ1 rs b LL BB) (hl : n ≤ m) : LM ps k m μ μ1 rs b LL BB := ⟨h.mv.le hl, h.ls⟩
theorem take_set {r : Nat} {x : Mo} (h : μ.length ≤ r) : (μ1.set r x).take μ.length = μ1.take μ.length := by
  apply List.ext_getElem?
  intro j
  by_cases hj : j < μ.length
  · rw [List.getElem?_take_of_lt hj, List.getElem?_take_of_lt hj, List.getElem?_set_ne (by omega)]
  · rw [List.getElem?_eq_none (by rw [List.length_take]; omega), List.getElem?_eq_none (by rw [List.length_take]; omega)]
theorem LM.setCell (h : LM ps k n μ μ1 rs b LL BB) (hk : k < μ.length) {i j r : Nat} {p : Pr} {c : List Int} (hp : ps[i]? = some p) (hr : rs[i]? = some r) (hc : inR p.regs c ∧ c.Pairwise (· < ·)) :
    LM ps k n μ (μ1.set r (.lst (((LL.getD i []).set j c).map iL))) rs b (LL.set i ((LL.getD i []).set j c)) BB := by
  obtain ⟨r', hr', _, g1, _⟩ := h.ls.row_at hp
  rw [hr] at hr'
  cases hr'
  rw [take_len h.mv.len] at g1
  exact ⟨h.mv.set g1 hk, by rw [take_set g1]; exact h.ls.setCell hp hr hc⟩
theorem LM.setBack (h : LM ps k n μ μ1 rs b LL BB) (hk : k < μ.length) {i : Nat} {p : Pr} {c : List Int} (hp : ps[i]? = some p) (hc : inR p.back c ∧ c.Pairwise (· < ·)) : LM ps k n μ (μ1.set b (.lst ((BB.set i c).map iL))) rs b LL (BB.set i c) := by
  have g1 := h.ls.back.1
  rw [take_len h.mv.len] at g1
  exact ⟨h.mv.set g1 hk, by rw [take_set g1]; exact h.ls.setBack hp hc⟩
abbrev rhoZ (x0 : Vl) (k : Nat) (o2 : Option Vl) (ps : List Pr) (c : Nat) (o6 o7 o8 o9 o10 o11 o12 o13 o14 o15 o16 : Option Vl) : Rho :=
  [some x0, some (.ref k), o2, some (codeV ps), some (.ref c), some (.int ps.length), o6, o7, o8, o9, o10, o11, o12, o13, o14, o15, o16, none, none, none, none, none, none]
variable {G : Cs} {D : DEnds} {x0 : Vl} {c : Nat} {o2 o6 o7 o8 o9 o10 o11 o12 o13 o14 o15 o16 : Option Vl}
theorem repr_bl {v : Bool} {Q : DK} {μ : Mu} (q : Q (.str (PyData.bool v).shown) μ) : fReprD [.bl v] μ Q := ⟨.bl v, .bool v, rfl, .bl v, rfl, rfl, by rw [sizeLine_eq]; cases v <;> decide +kernel, q⟩
theorem z_7 (gd : Good ps) (hk : k < μ.length) (hc : μ[c]? = some (codeM G ps)) (hck : c ≠ k) (h : LM ps k n μ μ1 rs b LL BB) (dn : ∀ μ', Mv k n μ μ' → D.nx (rhoZ x0 k o2 ps c o6 (some (.ref b)) (some (.lst (rs.map .ref))) o9 o10 o11 o12 o13 o14 o15 o16) μ') :
    t_law_2_3_7 G D (rhoZ x0 k o2 ps c o6 (some (.ref b)) (some (.lst (rs.map .ref))) o9 o10 o11 o12 o13 o14 o15 o16) μ1 := by
  have hc1 := h.mv.get hc hck
  have fx : Fx μ1 7 (.ref b) (.tup (BB.map iT)) := fx_rows h.ls.lrow
  have fy : Fx μ1 7 (.lst (rs.map .ref)) (.tup (LL.map rowT)) := fx_lots h.ls.lotsM
  refine ⟨μ1.length, .ref b, .lst (rs.map .ref), _, _, rfl, get_app, fx.app, fy.app, rfl, ?_⟩
  rw [set_app]
  refine Shut.mk ⟨c, ps, .ref μ1.length, rfl, by rw [List.getElem?_append_left (List.getElem?_eq_some_iff.mp hc1).1]; exact hc1, gd, .inr ⟨μ1.length, _, _, rfl, get_app, FF.of fx, FF.of fy, fun b1 hb1 => ?_⟩⟩
  have h2 : LM ps k n μ (μ1 ++ [.ins G.Needed (needFs (.tup (BB.map iT)) (.tup (LL.map rowT)))]) rs b LL BB := h.step hk (Mv.refl h.mv.pen).app
  refine ⟨.bl b1, .bool b1, rfl, .bl b1, rfl, rfl, by rw [sizeLine_eq]; cases b1 <;> decide +kernel, ?_⟩
  refine Shut.mk ⟨ps, _, _, LL, BB, rfl, gd, h2.ls.lotsM, h2.ls.okL, h2.ls.lrow, h2.ls.okB, fun b2 hb2 => ?_⟩
  have eb : b1 = b2 := by
    have := hb1.trans ((Right.iff h2.ls.okB h2.ls.okL).trans hb2.symm)
    cases b1 <;> cases b2 <;> simp_all
  subst eb
  refine ⟨.bl b1, .bool b1, rfl, .bl b1, rfl, rfl, by rw [sizeLine_eq]; cases b1 <;> decide +kernel, ?_⟩
  refine dec_splitN (p := (PyData.bool b1).shown = (PyData.bool b1).shown) (fun h => absurd rfl h) (fun _ => ?_)
  exact dn _ h2.mv
end
end K65

set_option maxHeartbeats 1000000
/-! ZS: a lap, up to its beginning. -/
namespace K65
open PySem PySem.Spec L2 StX PyProof.Rows DL
theorem cut_init {lot : List Int} : DL.cutD (lot.map .int) none (some (-1)) = (lot.dropLast).map .int := by
  unfold DL.cutD
  rw [HT.sIx_none, List.drop_zero, Nat.sub_zero, List.length_map]
  have e : HT.sIx lot.length lot.length (some (-1)) = lot.length - 1 := by
    unfold HT.sIx
    simp
    omega
  rw [e, List.dropLast_eq_take, List.map_take]
theorem asc_init {n : Nat} {lot : List Int} (h : inR n lot ∧ lot.Pairwise (· < ·)) : inR n lot.dropLast ∧ lot.dropLast.Pairwise (· < ·) :=
  ⟨fun x hx => h.1 x (by rw [List.dropLast_eq_take] at hx; exact List.mem_of_mem_take hx), h.2.sublist (List.dropLast_sublist _)⟩
theorem asc_tail {n : Nat} {lot : List Int} (h : inR n lot ∧ lot.Pairwise (· < ·)) : inR n (lot.drop 1) ∧ (lot.drop 1).Pairwise (· < ·) :=
  ⟨fun x hx => h.1 x (List.mem_of_mem_drop hx), h.2.sublist (List.drop_sublist _ _)⟩
theorem nodup_sub : ∀ {xs ys : List Int}, xs.Nodup → (∀ x ∈ xs, x ∈ ys) → xs.length ≤ ys.length
  | [], _, _, _ => Nat.zero_le _
  | x :: xs, ys, hn, h => by
    obtain ⟨h1, h2⟩ := List.nodup_cons.mp hn
    have hx := h x List.mem_cons_self
    have := nodup_sub (xs := xs) (ys := ys.erase x) h2 fun y hy => by
      have ne : y ≠ x := fun e => by
        subst e
        exact h1 hy
      exact (List.mem_erase_of_ne ne).mpr (h y (List.mem_cons_of_mem _ hy))
    rw [List.length_erase_of_mem hx] at this
    have := List.length_pos_of_mem hx
    rw [List.length_cons]; omega
theorem free_slot {n : Nat} {lot : List Int} (h : lot.length < n) : ∃ z r, ((rngI n).filter fun z => decide (z ∉ lot)) = z :: r ∧ (0 ≤ z ∧ z < n) ∧ z ∉ lot := by
  cases hf : (rngI n).filter fun z => decide (z ∉ lot) with
  | nil =>
    have := nodup_sub (xs := rngI n) (ys := lot) (up_nodup rngI_up) fun x hx => by
      rw [List.filter_eq_nil_iff] at hf
      exact Decidable.of_not_not fun e => hf x hx (decide_eq_true e)
    rw [rngI_len] at this
    omega
  | cons z r =>
    have hz : z ∈ (rngI n).filter fun z => decide (z ∉ lot) := by rw [hf]; exact List.mem_cons_self
    obtain ⟨h1, h2⟩ := List.mem_filter.mp hz
    exact ⟨z, r, rfl, rngI_in z h1, of_decide_eq_true h2⟩
section
variable {ps : List Pr} {k : Nat} {n m : Int} {μ μ1 μ2 : Mu} {rs : List Nat} {b : Nat} {LL : List (List (List Int))} {BB : List (List Int)}
variable {G : Cs} {D : DEnds} {x0 : Vl} {c : Nat} {o2 o6 o7 o8 o9 o10 o11 o12 o13 o14 o15 o16 : Option Vl}
theorem z_6 (gd : Good ps) (hk : k < μ.length) (hc : μ[c]? = some (codeM G ps)) (hck : c ≠ k) (h : LM ps k n μ μ1 rs b LL BB) {num pl : Nat} {way : Int} {p : Pr} (hp : ps[num]? = some p) (hpl : pl < p.steps.length)
    (dn : ∀ ρ' μ', Mv k n μ μ' → (∃ o7 o8 o9 o10 o11 o12, ρ' = rhoZ x0 k o2 ps c o6 o7 o8 o9 o10 o11 o12 o13 o14 o15 o16) → D.nx ρ' μ') :
    t_law_2_3_6 G D (rhoZ x0 k o2 ps c o6 (some (.ref b)) (some (.lst (rs.map .ref))) (some (.int num)) (some (.int way)) (some (.int pl)) (some (iL ((LL.getD num []).getD pl []))) o13 o14 o15 o16) μ1 := by
  have hsl := sizeLine_eq
  have fin : ∀ μ2 LL2 BB2, LM ps k n μ μ2 rs b LL2 BB2 → t_law_2_3_7 G D (rhoZ x0 k o2 ps c o6 (some (.ref b)) (some (.lst (rs.map .ref))) (some (.int num)) (some (.int way)) (some (.int pl)) (some (iL ((LL.getD num []).getD pl []))) o13 o14 o15 o16) μ2 :=
    fun μ2 LL2 BB2 h2 => z_7 gd hk hc hck h2 fun μ' hm => dn _ _ hm ⟨_, _, _, _, _, _, rfl⟩
  obtain ⟨r, hr1, hL, g1, g2, g3⟩ := h.ls.row_at hp
  have hcell := row_at g3 hpl
  have okc := g3.ok _ (List.mem_of_getElem? hcell)
  have okp := gd.ok p (List.mem_of_getElem? hp)
  have hbk : BB[num]? = some (BB.getD num []) := getD_of (by rw [h.ls.okB.len]; exact (List.getElem?_eq_some_iff.mp hp).1)
  have okb := h.ls.okB.ok num p _ hp hbk
  have hpv : L2.atI (ps.map Pr.v) (num : Int) = some p.v := atI_nat (by rw [List.getElem?_map, hp]; rfl)
  generalize hlot : (LL.getD num []).getD pl [] = lot at okc fin ⊢
  refine seq_i ?_
  have third : (dIf (dAndT (dTest (dOp dEq (dVar 10) (dC (.int 2)))) (dTest (dOp dNe (dOp dIx (dVar 7) (dVar 9)) (dLst dNil)))) (dAsg (dSlA (dOp dIx (dVar 7) (dVar 9)) (dPart (dC (.int 1))) dNoPart) (dgIx (dVar 7) (dVar 9))) dNext) { D with nx := fun ρ' μ' => t_law_2_3_7 G D ρ' μ' } (rhoZ x0 k o2 ps c o6 (some (.ref b)) (some (.lst (rs.map .ref))) (some (.int num)) (some (.int way)) (some (.int pl)) (some (iL lot)) o13 o14 o15 o16) μ1 := by
    refine dec_splitE (p := way = 2) (fun _ => ?_) (fun _ => fin _ _ _ h)
    refine ⟨_, iL (BB.getD num []), h.ls.lrow, atI_row (by rw [h.ls.okB.len]; exact (List.getElem?_eq_some_iff.mp hp).1), ?_⟩
    refine ⟨by show 0 ≤ _; omega, .inl ?_⟩
    refine eq_lstI (s := []) ?_
    refine dec_splitN (p := BB.getD num [] = []) (fun _ => ?_) (fun _ => fin _ _ _ h)
    refine ⟨_, iL (BB.getD num []), h.ls.lrow, atI_row (by rw [h.ls.okB.len]; exact (List.getElem?_eq_some_iff.mp hp).1), ?_⟩
    refine ⟨_, rfl, .inl ?_⟩
    refine ⟨b, num, BB.map iL, num, rfl, rfl, h.ls.back.2, ixN_nat (by rw [List.length_map, h.ls.okB.len]; exact (List.getElem?_eq_some_iff.mp hp).1), ?_⟩
    rw [cut_tail (α := Nat), ← List.map_drop, show Vl.lst (((BB.getD num []).drop 1).map .int) = iL ((BB.getD num []).drop 1) from rfl, map_set']
    exact fin _ _ _ (h.setBack hk hp (asc_tail okb))
  have second : (dIf (dAndT (dTest (dOp dEq (dVar 10) (dC (.int 1)))) (dTest (dOp dLt (dCB fLen (dCons (dVar 12) dNil)) (dOp dIx (dOp dIx (dVar 3) (dVar 9)) (dC (.int 3)))))) (dAsg (dCB fSortedI (dCons (dOp dAdd (dVar 12) (dLst (dCons (dOp dIx (dLc (dRange1 (dCons (dOp dIx (dOp dIx (dVar 3) (dVar 9)) (dC (.int 3))) dNil)) (dgName 22) (dTest (dOp (dInS true) (dVar 22) (dVar 12))) (dVar 22) [22]) (dC (.int 0))) dNil))) dNil)) (dgIx (dOp dIx (dVar 8) (dVar 9)) (dVar 11))) (dIf (dAndT (dTest (dOp dEq (dVar 10) (dC (.int 2)))) (dTest (dOp dNe (dOp dIx (dVar 7) (dVar 9)) (dLst dNil)))) (dAsg (dSlA (dOp dIx (dVar 7) (dVar 9)) (dPart (dC (.int 1))) dNoPart) (dgIx (dVar 7) (dVar 9))) dNext)) { D with nx := fun ρ' μ' => t_law_2_3_7 G D ρ' μ' } (rhoZ x0 k o2 ps c o6 (some (.ref b)) (some (.lst (rs.map .ref))) (some (.int num)) (some (.int way)) (some (.int pl)) (some (iL lot)) o13 o14 o15 o16) μ1 := by
    refine dec_splitE (p := way = 1) (fun _ => ?_) (fun _ => third)
    refine ⟨_, _, rfl, rfl, _, p.v, rfl, hpv, _, .int p.regs, rfl, rfl, ?_⟩
    refine dec_split (p := (((lot.map Vl.int).length : Nat) : Int) < (p.regs : Int)) (fun hlt => ?_) (fun _ => third)
    rw [List.length_map] at hlt
    obtain ⟨z, rr, hz1, hz2, hz3⟩ := free_slot (n := p.regs) (lot := lot) (by omega)
    refine ⟨_, p.v, rfl, hpv, _, .int p.regs, rfl, rfl, ?_⟩
    refine ⟨p.regs, rfl, by have := okp.regs; omega, by omega, ?_⟩
    rw [show ((p.regs : Int)).toNat = p.regs by omega, rngD_rngI]
    refine DL.lc_filter (μ := μ1) trivial .int (fun z => decide (z ∉ lot)) .int (rngI p.regs) [] (fun w hw P R hR hP => ?_) ?_
    · refine ⟨_, _, _, rfl, rfl, flVs_ints _, ?_⟩
      rw [inV_ints]
      exact dec_splitN (p := w ∈ lot) (fun h => hR (decide_eq_true h)) (fun h => hP (decide_eq_false fun g => g h))
    rw [hz1]
    refine .inl ?_
    refine ⟨_, .int z, rfl, atI0, by show 1 ≤ _; omega, .inl ?_⟩
    have hll := lot_len okc
    refine ⟨_, _, rfl, rfl, by rw [List.length_map]; show _ + 1 ≤ _; have := okp.regs; omega, .inl ?_⟩
    refine ⟨_, lot ++ [z], rfl, by show some _ = some _; rw [List.map_append]; rfl, fun ys hy1 hy2 => .inl ?_⟩
    refine ⟨_, .ref r, rfl, rows_at hr1, ?_⟩
    refine ⟨r, pl, (LL.getD num []).map iL, pl, rfl, rfl, g2, ixN_nat (by rw [List.length_map, g3.len]; exact hpl), ?_⟩
    rw [show Vl.lst (ys.map .int) = iL ys from rfl, map_set']
    refine fin _ _ _ (h.setCell hk hp hr1 ⟨fun x hx => ?_, sorted_up hy2 (hy1.nodup_iff.mpr ?_)⟩)
    · rcases List.mem_append.mp (hy1.mem_iff.mp hx) with g | g
      · exact okc.1 x g
      · rw [List.mem_singleton.mp g]; exact hz2
    · rw [List.nodup_append]
      refine ⟨up_nodup okc.2, by simp, fun a ha d hd e => ?_⟩
      rw [List.mem_singleton.mp hd] at e
      subst e
      exact hz3 ha
  refine dec_splitE (p := way = 0) (fun _ => ?_) (fun _ => second)
  refine ⟨by show 0 ≤ _; omega, .inl ?_⟩
  refine eq_lstI (s := []) ?_
  refine dec_splitN (p := lot = []) (fun _ => ?_) (fun _ => second)
  refine ⟨_, rfl, .inl ?_⟩
  refine ⟨_, .ref r, rfl, rows_at hr1, ?_⟩
  refine ⟨r, pl, (LL.getD num []).map iL, pl, rfl, rfl, g2, ixN_nat (by rw [List.length_map, g3.len]; exact hpl), ?_⟩
  rw [cut_init, show Vl.lst ((lot.dropLast).map .int) = iL lot.dropLast from rfl, map_set']
  exact fin _ _ _ (h.setCell hk hp hr1 (asc_init okc))
end
end K65

set_option maxHeartbeats 1000000
/-! ZT: a lap: which place, lots made greater. -/
namespace K65
open PySem PySem.Spec L2 StX PyProof.Rows DL
section
variable {ps : List Pr} {k : Nat} {n m : Int} {μ μ1 μ2 : Mu} {rs : List Nat} {b : Nat} {LL : List (List (List Int))} {BB : List (List Int)}
variable {G : Cs} {D : DEnds} {x0 : Vl} {c : Nat} {o2 o6 o7 o8 o9 o10 o11 o12 o13 o14 o15 o16 : Option Vl}
theorem z_3 (gd : Good ps) (hk : k < μ.length) (hc : μ[c]? = some (codeM G ps)) (hck : c ≠ k) (h : LM ps k n μ μ1 rs b LL BB) (hn : n + 10 ≤ 900000)
    (dn : ∀ ρ' μ', Mv k (n + 3) μ μ' → (∃ o7 o8 o9 o10 o11 o12, ρ' = rhoZ x0 k o2 ps c o6 o7 o8 o9 o10 o11 o12 o13 o14 o15 o16) → D.nx ρ' μ') :
    t_law_2_3_3 G D (rhoZ x0 k o2 ps c o6 (some (.ref b)) (some (.lst (rs.map .ref))) o9 o10 o11 o12 o13 o14 o15 o16) μ1 := by
  have hlen := gd.len
  refine draw_use (n := n) h.mv.pen (by omega) (by omega) fun d μ2 d0 d1 hm2 => ?_
  have h2 := h.step hk hm2
  refine draw_use (n := n + 1) h2.mv.pen (by omega) (by omega) fun way μ3 w0 w1 hm3 => ?_
  have h3 := h2.step hk hm3
  obtain ⟨num, en, hnum⟩ : ∃ num : Nat, d = (num : Int) ∧ num < ps.length := ⟨d.toNat, by omega, by omega⟩
  subst en
  have hp : ps[num]? = some ps[num] := List.getElem?_eq_getElem hnum
  generalize ps[num] = p at hp
  have okp := gd.ok p (List.mem_of_getElem? hp)
  obtain ⟨r, hr1, hL, g1, g2, g3⟩ := h3.ls.row_at hp
  have hst := okp.steps
  refine ⟨_, .ref r, rfl, rows_at hr1, _, _, rfl, sv_ref g2, ?_⟩
  refine draw_use (n := n + 1 + 1) h3.mv.pen (by omega) (by rw [List.length_map, g3.len]; omega) fun d2 μ4 e0 e1 hm4 => ?_
  rw [List.length_map, g3.len] at e1
  have h4 := h3.step hk hm4
  obtain ⟨pl, en, hpl⟩ : ∃ pl : Nat, d2 = (pl : Int) ∧ pl < p.steps.length := ⟨d2.toNat, by omega, by omega⟩
  subst en
  obtain ⟨r', hr1', _, _, g2', g3'⟩ := h4.ls.row_at hp
  rw [hr1] at hr1'
  cases hr1'
  refine ⟨_, .ref r, rfl, rows_at hr1, _, iL ((LL.getD num []).getD pl []), sv_ref g2', atI_row (by rw [g3'.len]; exact hpl), ?_⟩
  exact z_6 gd hk hc hck (h4.le (m := n + 3) (by omega)) hp hpl dn
theorem LM.newBack (h : LM ps k n μ μ1 rs b LL BB) {B2 : List (List Int)} (hB : BacksOk ps B2) : LM ps k n μ (μ1 ++ [.lst (B2.map iL)]) rs μ1.length LL B2 := by
  have hl := h.mv.len
  have e : (μ1 ++ [Mo.lst (B2.map iL)]).take μ.length = μ1.take μ.length := by rw [List.take_append_of_le_length hl]
  have tl := take_len hl
  have l := h.ls
  have hrl : ∀ r ∈ rs, r < μ1.length := fun r hr => by
    obtain ⟨i, hi, e⟩ := List.getElem_of_mem hr
    obtain ⟨L, _, _, g⟩ := l.rows.getL (List.getElem?_eq_getElem hi)
    rw [e] at g
    exact (List.getElem?_eq_some_iff.mp g).1
  refine ⟨h.mv.app, ?_⟩
  rw [e]
  refine ⟨by rw [tl, List.length_append]; omega, fun j hj => by rw [tl] at hj; rw [List.getElem?_append_left (by omega), List.getElem?_take_of_lt hj], ?_, l.nd, fun hm => by have := hrl _ hm; omega, ⟨by rw [tl]; exact hl, get_app⟩, l.okL, hB⟩
  refine l.rows.imp fun r L q => ⟨q.1, ?_⟩
  rw [List.getElem?_append_left (List.getElem?_eq_some_iff.mp q.2).1]; exact q.2
theorem LM.newRows (h : LM ps k n μ μ1 rs b LL BB) {rs' : List Nat} {L2 : List (List (List Int))} (hr : All2 (fun r L => μ.length ≤ r ∧ μ1[r]? = some (.lst (L.map iL))) rs' L2) (hn : rs'.Nodup) (hb : b ∉ rs') (hL : LotsOk ps L2) : LM ps k n μ μ1 rs' b L2 BB := by
  have tl := take_len h.mv.len
  exact ⟨h.mv, ⟨h.ls.len, h.ls.old, hr.imp fun r L q => ⟨by rw [tl]; exact q.1, q.2⟩, hn, hb, h.ls.back, hL, h.ls.okB⟩⟩
/-- draws over a row of numbers: those that are kept -/
theorem z_kept {cnt : Nat} {M : Int} {ρ : Rho} {Q : List Vl → Mu → Prop} (hk : PenI k M μ1) (hc : cnt ≤ 8) (hM : M + 10 ≤ 900000) (hρ : ρ.length = 23) (hp : ρ[1]? = some (some (.ref k)))
    (q : ∀ (H : List Int) μ2, inR cnt H → H.length ≤ cnt → Mv k (M + cnt) μ1 μ2 → Q (H.map .int) μ2) :
    lcD (fun _ => True) (dgName 21) (dTest (dOp dEq (dCall c__law_draw (dCons (dVar 1) (dCons (dC (.int 2)) dNil))) (dC (.int 0)))) (dVar 21) ρ Q ((rngI cnt).map .int) [] μ1 := by
  refine DL.lcD_inv (fun rest acc μ2 => ∃ (A R H : List Int), rngI cnt = A ++ R ∧ rest = R.map .int ∧ acc = H.map .int ∧ (∀ z ∈ H, z ∈ A) ∧ H.length ≤ A.length ∧ Mv k (M + A.length) μ1 μ2) (fun _ _ _ _ => trivial) (fun acc μ2 h => ?_) (fun x r acc μ2 h E hE => ?_) _ _ _ ?_
  · obtain ⟨A, R, H, e1, e2, e3, e4, e5, e6⟩ := h
    have : R = [] := by cases R with
      | nil => rfl
      | cons a r => cases e2
    subst this
    rw [List.append_nil] at e1
    have hA : A.length = cnt := by rw [← e1, rngI_len]
    subst e3
    exact q H μ2 (fun z hz => rngI_in z (by rw [e1]; exact e4 z hz)) (by omega) (by rw [← hA]; exact e6)
  · obtain ⟨A, R, H, e1, e2, e3, e4, e5, e6⟩ := h
    cases R with
    | nil => cases e2
    | cons z R =>
      have ey := (List.cons.inj e2).1
      have er := (List.cons.inj e2).2
      subst ey; subst er; subst e3
      have hA : A.length < cnt := by
        have := congrArg List.length e1
        rw [rngI_len, List.length_append, List.length_cons] at this
        omega
      unfold dgName dTest dOp dCall dCons
      refine dVar_at (by rw [List.getElem?_set_ne (by decide)]; exact hp) ?_
      refine draw_use (n := M + A.length) e6.pen (by omega) (by omega) fun d μ3 _ _ hm => ?_
      have hm' : Mv k (M + ((A ++ [z]).length : Nat)) μ1 μ3 := (e6.trans hm).le (by rw [List.length_append]; show _ ≤ M + (((A.length + 1 : Nat)) : Int); omega)
      have e1' : rngI cnt = (A ++ [z]) ++ R := by rw [List.append_assoc]; exact e1
      refine dec_splitE (p := d = 0) (fun _ => ?_) (fun _ => ?_)
      · refine dVar_at (x := .int z) (by rw [List.getElem?_set_self (by omega)]) ?_
        refine hE _ _ ⟨A ++ [z], R, H ++ [z], e1', rfl, by rw [List.map_append]; rfl, fun w hw => ?_, by rw [List.length_append, List.length_append]; simp; omega, hm'⟩
        rcases List.mem_append.mp hw with g | g
        · exact List.mem_append_left _ (e4 w g)
        · exact List.mem_append_right _ g
      · exact hE _ _ ⟨A ++ [z], R, H, e1', rfl, rfl, fun w hw => List.mem_append_left _ (e4 w hw), by rw [List.length_append]; omega, hm'⟩
  · exact ⟨[], rngI cnt, [], rfl, rfl, rfl, fun z hz => hz, Nat.le_refl _, by simpa using Mv.refl hk⟩
theorem z_2b (gd : Good ps) (hk : k < μ.length) (h : LM ps k n μ μ1 rs b LL BB) (hn : n + 300 ≤ 900000) {Q : DK}
    (q : ∀ B2 μ2, BacksOk ps B2 → LM ps k (n + 16) μ μ2 rs b LL BB → Q (.ref μ2.length) (μ2 ++ [.lst (B2.map iL)])) :
    (dLc (dEnum (dCons (dVar 7) dNil)) (dgTup 2 (dgCons (dgName 19) (dgCons (dgName 20) dgNil))) dYes (dCB fSortedSet (dCons (dOp dAdd (dVar 20) (dLc (dRange1 (dCons (dOp dIx (dOp dIx (dVar 3) (dVar 19)) (dC (.int 2))) dNil)) (dgName 21) (dTest (dOp dEq (dCall c__law_draw (dCons (dVar 1) (dCons (dC (.int 2)) dNil))) (dC (.int 0)))) (dVar 21) [21])) dNil)) [19, 20]) (rhoZ x0 k o2 ps c o6 (some (.ref b)) (some (.lst (rs.map .ref))) o9 o10 o11 o12 o13 o14 o15 o16) μ1 Q := by
  have hsl := sizeLine_eq
  have hlen := gd.len
  have hBl := h.ls.okB.len
  refine ⟨_, _, rfl, sv_ref h.ls.back.2, ?_⟩
  refine DL.lcD_inv (fun rest acc μ2 => ∃ (i : Nat) (B2 : List (List Int)), (numbered (BB.map iL)).drop i = rest ∧ B2.length = i ∧ i ≤ ps.length ∧ acc = B2.map iL ∧ (∀ (j : Nat) (p : Pr) (c : List Int), ps[j]? = some p → B2[j]? = some c → inR p.back c ∧ c.Pairwise (· < ·)) ∧ LM ps k (n + 4 * i) μ μ2 rs b LL BB) (fun _ _ μ2 g => ?_) (fun acc μ2 g => ?_) (fun x r acc μ2 g E hE => ?_) _ _ _ ?_
  · obtain ⟨_, _, _, _, _, _, _, g⟩ := g
    exact g.ls.back.2
  · obtain ⟨i, B2, e0, e1, hi, e2, hB, g⟩ := g
    subst e2
    have hi2 : ps.length ≤ i := by
      have := congrArg List.length e0
      rw [List.length_drop, numbered_len, List.length_map] at this
      simp at this; omega
    exact .inr (q B2 μ2 ⟨by omega, hB⟩ (g.le (by omega)))
  · obtain ⟨i, B2, e0, e1, hi, e2, hB, g⟩ := g
    subst e2
    obtain ⟨y, hy, ex', hr⟩ := numbered_drop e0
    subst ex'
    rw [List.getElem?_map] at hy
    obtain ⟨bi, hbi, ey⟩ := Option.map_eq_some_iff.mp hy
    subst ey
    have hil : i < ps.length := by have := (List.getElem?_eq_some_iff.mp hbi).1; omega
    have hp : ps[i]? = some ps[i] := List.getElem?_eq_getElem hil
    generalize ps[i] = p at hp
    have okp := gd.ok p (List.mem_of_getElem? hp)
    have okb := g.ls.okB.ok i p bi hp hbi
    refine ⟨rfl, rfl, ?_⟩
    refine ⟨_, p.v, rfl, atI_nat (by rw [List.getElem?_map, hp]; rfl), _, .int p.back, rfl, rfl, p.back, rfl, by have := okp.back; omega, by omega, ?_⟩
    rw [show ((p.back : Int)).toNat = p.back by omega, rngD_rngI]
    refine z_kept (cnt := p.back) (M := n + 4 * i) g.mv.pen (by have := okp.back; omega) (by omega) rfl rfl fun H μ3 hH1 hH2 hm => ?_
    refine .inl ?_
    have hbl := lot_len okb
    refine ⟨_, _, rfl, rfl, by rw [List.length_map, List.length_map]; have := okp.back; omega, .inl ?_⟩
    refine ⟨_, bi ++ H, rfl, by show some _ = some _; rw [List.map_append], by rw [List.length_append]; have := okp.back; omega, fun out q1 q2 => .inl ?_⟩
    refine hE _ _ ⟨i + 1, B2 ++ [out], hr, by simp [e1], hil, by simp [iL], fun j p' c' hp' hc' => ?_, (g.step hk hm).le (by have := okp.back; omega)⟩
    by_cases hj : j < B2.length
    · rw [List.getElem?_append_left hj] at hc'
      exact hB j p' c' hp' hc'
    · have hj2 := (List.getElem?_eq_some_iff.mp hc').1
      rw [List.length_append] at hj2
      have ej : j = i := by simp at hj2; omega
      subst ej
      rw [List.getElem?_append_right (by omega), e1, Nat.sub_self] at hc'
      cases hc'
      rw [hp] at hp'
      cases hp'
      exact ⟨fun z hz => (List.mem_append.mp ((q2 z).mp hz)).elim (okb.1 z) (hH1 z), q1⟩
  · exact ⟨0, [], rfl, rfl, Nat.zero_le _, rfl, fun j p c _ h => by simp at h, h.le (by omega)⟩
/-- a row of lots, some of them made whole -/
theorem z_row {p : Pr} {M : Int} {r : Nat} {L : List (List Int)} {ρ : Rho} {i : Nat} {Q : List Vl → Mu → Prop} (hk : PenI k M μ1) (hM : M + 70 ≤ 900000) (okp : PrOk ps p) (hL : RowOk p L) (hr : μ1[r]? = some (.lst (L.map iL))) (hrk : r ≠ k) (hp : ps[i]? = some p)
    (hρl : ρ.length = 23) (hρ1 : ρ[1]? = some (some (.ref k))) (hρ3 : ρ[3]? = some (some (codeV ps))) (hρ19 : ρ[19]? = some (some (.int i)))
    (q : ∀ (C : List (List Int)) μ2, RowOk p C → Mv k (M + 60) μ1 μ2 → Q (C.map iL) μ2) :
    lcD (asLong (L.map iL) (.ref r)) (dgName 12) dYes (dIfE (dTest (dOp dEq (dCall c__law_draw (dCons (dVar 1) (dCons (dC (.int 2)) dNil))) (dC (.int 0)))) (dListRg (dOp dIx (dOp dIx (dVar 3) (dVar 19)) (dC (.int 3)))) (dVar 12)) ρ Q (L.map iL) [] μ1 := by
  have hst := okp.steps
  have hLl := hL.len
  refine DL.lcD_inv (fun rest acc μ2 => ∃ (A R C : List (List Int)), L = A ++ R ∧ rest = R.map iL ∧ acc = C.map iL ∧ C.length = A.length ∧ (∀ c ∈ C, inR p.regs c ∧ c.Pairwise (· < ·)) ∧ Mv k (M + A.length) μ1 μ2) (fun _ _ μ2 g => ?_) (fun acc μ2 g => ?_) (fun x rr acc μ2 g E hE => ?_) _ _ _ ?_
  · obtain ⟨_, _, _, _, _, _, _, _, g⟩ := g
    exact g.get hr hrk
  · obtain ⟨A, R, C, e1, e2, e3, e4, e5, e6⟩ := g
    have : R = [] := by cases R with
      | nil => rfl
      | cons a r => cases e2
    subst this
    rw [List.append_nil] at e1
    subst e1; subst e3
    exact q C μ2 ⟨by omega, e5⟩ (e6.le (by omega))
  · obtain ⟨A, R, C, e1, e2, e3, e4, e5, e6⟩ := g
    cases R with
    | nil => cases e2
    | cons z R =>
      have ey := (List.cons.inj e2).1
      have er := (List.cons.inj e2).2
      subst ey; subst er; subst e3
      have hA : A.length + 1 ≤ 60 := by
        have := congrArg List.length e1
        rw [List.length_append, List.length_cons] at this
        omega
      unfold dgName dIfE dTest dOp dCall dCons
      show dVar 1 _ _ _
      refine dVar_at (by rw [List.getElem?_set_ne (by decide)]; exact hρ1) ?_
      refine draw_use (n := M + A.length) e6.pen (by omega) (by omega) fun d μ3 _ _ hm => ?_
      have hm' : Mv k (M + ((A ++ [z]).length : Nat)) μ1 μ3 := (e6.trans hm).le (by rw [List.length_append]; show _ ≤ M + (((A.length + 1 : Nat)) : Int); omega)
      have e1' : L = (A ++ [z]) ++ R := by rw [List.append_assoc]; exact e1
      have next : ∀ c : List Int, inR p.regs c ∧ c.Pairwise (· < ·) → E (C.map iL ++ [iL c]) μ3 := fun c hc => by
        refine hE _ _ ⟨A ++ [z], R, C ++ [c], e1', rfl, by rw [List.map_append]; rfl, by rw [List.length_append, List.length_append, e4]; rfl, fun d hd => ?_, hm'⟩
        rcases List.mem_append.mp hd with g | g
        · exact e5 d g
        · rw [List.mem_singleton.mp g]; exact hc
      refine dec_splitE (p := d = 0) (fun _ => ?_) (fun _ => ?_)
      · unfold dListRg
        refine dVar_at (by rw [List.getElem?_set_ne (by decide)]; exact hρ3) ?_
        refine dVar_at (by rw [List.getElem?_set_ne (by decide)]; exact hρ19) ?_
        refine ⟨_, p.v, rfl, atI_nat (by rw [List.getElem?_map, hp]; rfl), _, .int p.regs, rfl, rfl, p.regs, rfl, rg_ok (by have := okp.regs; omega), .inl ?_⟩
        rw [show ((p.regs : Int)).toNat = p.regs by omega, rngD_rngI]
        exact next _ ⟨rngI_in, rngI_up⟩
      · refine dVar_at (x := iL z) (by rw [List.getElem?_set_self (by omega)]) ?_
        exact next z (hL.ok z (by rw [e1]; simp))
  · exact ⟨[], L, [], rfl, rfl, rfl, rfl, (fun c hc => nomatch hc), by simpa using Mv.refl hk⟩
theorem z_2c (gd : Good ps) (hk : k < μ.length) (h : LM ps k n μ μ1 rs b LL BB) (hn : n + 400 ≤ 900000) {Q : DK}
    (q : ∀ rs' L2 μ2, LM ps k (n + 240) μ μ2 rs' b L2 BB → Q (.lst (rs'.map .ref)) μ2) :
    (dLc (dEnum (dCons (dVar 8) dNil)) (dgTup 2 (dgCons (dgName 19) (dgCons (dgName 20) dgNil))) dYes (dLc (dIter (dVar 20)) (dgName 12) dYes (dIfE (dTest (dOp dEq (dCall c__law_draw (dCons (dVar 1) (dCons (dC (.int 2)) dNil))) (dC (.int 0)))) (dListRg (dOp dIx (dOp dIx (dVar 3) (dVar 19)) (dC (.int 3)))) (dVar 12)) [12]) [19, 20]) (rhoZ x0 k o2 ps c o6 (some (.ref b)) (some (.lst (rs.map .ref))) o9 o10 o11 o12 o13 o14 o15 o16) μ1 Q := by
  have hsl := sizeLine_eq
  have hlen := gd.len
  have hLl := h.ls.okL.len
  have hbl := (List.getElem?_eq_some_iff.mp h.ls.back.2).1
  have hml := h.mv.len
  have hrl : rs.length = ps.length := (All2.len h.ls.rows).trans hLl
  refine ⟨.lst (rs.map .ref), rs.map .ref, rfl, rfl, ?_⟩
  refine DL.lcD_inv (fun rest acc μ2 => ∃ (i : Nat) (rs' : List Nat) (L2 : List (List (List Int))), (numbered (rs.map .ref)).drop i = rest ∧ L2.length = i ∧ i ≤ ps.length ∧ acc = rs'.map .ref ∧ All2 (fun r L => μ1.length ≤ r ∧ μ2[r]? = some (.lst (L.map iL))) rs' L2 ∧ rs'.Nodup ∧ (∀ (j : Nat) (p : Pr) (L : List (List Int)), ps[j]? = some p → L2[j]? = some L → RowOk p L) ∧ Mv k (n + 60 * i) μ1 μ2) (fun _ _ μ2 g => trivial) (fun acc μ2 g => ?_) (fun x r acc μ2 g E hE => ?_) _ _ _ ?_
  · obtain ⟨i, rs', L2, e0, e1, hi, e2, hR, hN, hO, hm⟩ := g
    subst e2
    have hi2 : ps.length ≤ i := by
      have := congrArg List.length e0
      rw [List.length_drop, numbered_len, List.length_map] at this
      simp at this; omega
    have g := (h.step hk hm).le (m := n + 240) (by omega)
    refine .inl (q rs' L2 μ2 (g.newRows (hR.imp fun r L t => ⟨by omega, t.2⟩) hN (fun hb => ?_) ⟨by omega, hO⟩))
    obtain ⟨j, hj, e⟩ := List.getElem_of_mem hb
    obtain ⟨L, _, t, _⟩ := hR.getL (List.getElem?_eq_getElem hj)
    rw [e] at t
    omega
  · obtain ⟨i, rs', L2, e0, e1, hi, e2, hR, hN, hO, hm⟩ := g
    subst e2
    obtain ⟨y, hy, ex', hr⟩ := numbered_drop e0
    subst ex'
    rw [List.getElem?_map] at hy
    obtain ⟨ri, hri, ey⟩ := Option.map_eq_some_iff.mp hy
    subst ey
    have hil : i < ps.length := by have := (List.getElem?_eq_some_iff.mp hri).1; omega
    have hp : ps[i]? = some ps[i] := List.getElem?_eq_getElem hil
    generalize ps[i] = p at hp
    have okp := gd.ok p (List.mem_of_getElem? hp)
    have g := h.step hk hm
    obtain ⟨r', hr1, hL, g1, g2, g3⟩ := g.ls.row_at hp
    rw [hri] at hr1
    cases hr1
    rw [take_len g.mv.len] at g1
    refine ⟨rfl, rfl, ?_⟩
    refine ⟨_, sv_ref g2, ?_⟩
    refine z_row (p := p) (M := n + 60 * i) (r := ri) (i := i) hm.pen (by omega) okp g3 g2 (by omega) hp rfl rfl rfl rfl fun C μ3 hC hm3 => ?_
    refine .inr ?_
    have hm4 : Mv k (n + 60 * ((i + 1 : Nat) : Int)) μ1 μ3 := (hm.trans hm3).le (by omega)
    refine hE _ _ ⟨i + 1, rs' ++ [μ3.length], L2 ++ [C], hr, by simp [e1], hil, by simp, ?_, ?_, ?_, hm4.app⟩
    · refine All2.of (by simp [All2.len hR]) fun j a L ha hLa => ?_
      by_cases hj : j < rs'.length
      · rw [List.getElem?_append_left hj] at ha
        rw [List.getElem?_append_left (by rw [← All2.len hR]; exact hj)] at hLa
        obtain ⟨L', hL', t1, t2⟩ := hR.getL ha
        rw [hL'] at hLa
        cases hLa
        refine ⟨t1, ?_⟩
        have t3 := hm3.get t2 (by omega)
        rw [List.getElem?_append_left (List.getElem?_eq_some_iff.mp t3).1]; exact t3
      · have hj2 := (List.getElem?_eq_some_iff.mp ha).1
        rw [List.length_append] at hj2
        have ej : j = rs'.length := by simp at hj2; omega
        subst ej
        rw [List.getElem?_append_right (Nat.le_refl _), Nat.sub_self] at ha
        cases ha
        rw [All2.len hR, List.getElem?_append_right (Nat.le_refl _), Nat.sub_self] at hLa
        cases hLa
        exact ⟨hm4.len, get_app⟩
    · rw [List.nodup_append]
      refine ⟨hN, by simp, fun a ha d hd e => ?_⟩
      rw [List.mem_singleton.mp hd] at e
      obtain ⟨j, hj, e2⟩ := List.getElem_of_mem ha
      obtain ⟨L, _, _, t⟩ := hR.getL (List.getElem?_eq_getElem hj)
      rw [e2] at t
      have := (List.getElem?_eq_some_iff.mp t).1
      have := hm3.len
      omega
    · intro j p' L hp' hLj
      by_cases hj : j < L2.length
      · rw [List.getElem?_append_left hj] at hLj
        exact hO j p' L hp' hLj
      · have hj2 := (List.getElem?_eq_some_iff.mp hLj).1
        rw [List.length_append] at hj2
        have ej : j = i := by simp at hj2; omega
        subst ej
        rw [List.getElem?_append_right (by omega), e1, Nat.sub_self] at hLj
        cases hLj
        rw [hp] at hp'
        cases hp'
        exact hC
  · exact ⟨0, [], [], rfl, rfl, Nat.zero_le _, rfl, .nil, List.nodup_nil, (fun j p L _ h => by simp at h), by simpa using Mv.refl h.mv.pen⟩
theorem z_2 (gd : Good ps) (hk : k < μ.length) (hc : μ[c]? = some (codeM G ps)) (hck : c ≠ k) (h : LM ps k n μ μ1 rs b LL BB) (hn : n + 500 ≤ 900000) {lap : Int} (h6 : o6 = some (.int lap))
    (dn : ∀ ρ' μ', Mv k (n + 300) μ μ' → (∃ o7 o8 o9 o10 o11 o12, ρ' = rhoZ x0 k o2 ps c o6 o7 o8 o9 o10 o11 o12 o13 o14 o15 o16) → D.nx ρ' μ') :
    t_law_2_3_2 G D (rhoZ x0 k o2 ps c o6 (some (.ref b)) (some (.lst (rs.map .ref))) o9 o10 o11 o12 o13 o14 o15 o16) μ1 := by
  subst h6
  refine seq_if ?_
  refine dec_split (p := (3 : Int) < lap) (fun _ => ?_) (fun _ => ?_)
  · refine asg_s ?_
    refine z_2b gd hk h (by omega) fun B2 μ2 hB h2 => ?_
    have h3 := h2.newBack hB
    refine z_2c gd hk h3 (by omega) fun rs' L2 μ3 h4 => ?_
    exact z_3 gd hk hc hck h4 (by omega) fun ρ' μ' hm e => dn ρ' μ' (hm.le (by omega)) e
  · exact z_3 gd hk hc hck h (by omega) fun ρ' μ' hm e => dn ρ' μ' (hm.le (by omega)) e
theorem z_1 (gd : Good ps) (hc : μ[c]? = some (codeM G ps)) (hck : c ≠ k) (hpen : PenI k n μ) (hn : n + 500 ≤ 900000) {lap : Int} (h6 : o6 = some (.int lap))
    (dn : ∀ ρ' μ', Mv k (n + 300) μ μ' → (∃ o7 o8 o9 o10 o11 o12, ρ' = rhoZ x0 k o2 ps c o6 o7 o8 o9 o10 o11 o12 o13 o14 o15 o16) → D.nx ρ' μ') :
    b_law_2_3 G D (rhoZ x0 k o2 ps c o6 o7 o8 o9 o10 o11 o12 o13 o14 o15 o16) μ := by
  refine Shut.mk ⟨ps, rfl, gd, fun rs b μ1 LL BB h => ?_⟩
  refine ⟨rfl, rfl, ?_⟩
  exact z_2 gd hpen.lt hc hck (LM.of h hpen) hn h6 dn
end
end K65

set_option maxHeartbeats 1000000
/-! ZU: what is no right paper; all lots are. -/
namespace K65
open PySem PySem.Spec L2 StX PyProof.Rows DL
def oddL : List Vl := [.lst [.int 1, .int 0], .lst [.int 0, .int 0], .lst [.int (-1)], .lst [.int 9], .lst [.bl true], .lst [.non], .lst [.str "0"], .non, .int 5]
def oddT : Vl → Vl
  | .lst xs => .tup xs
  | x => x
theorem fx_bl {μ : Mu} {n : Nat} {v : Bool} : Fx μ (n + 1) (.bl v) (.bl v) := .inl ⟨rfl, rfl⟩
theorem fx_non {μ : Mu} {n : Nat} : Fx μ (n + 1) .non .non := .inl ⟨rfl, rfl⟩
theorem fx_lst {μ : Mu} {n : Nat} {xs ys : List Vl} (h : All2 (Fx μ n) xs ys) : Fx μ (n + 1) (.lst xs) (.tup ys) := .inr ⟨xs, ys, rfl, rfl, h⟩
theorem odd_fx {μ : Mu} {n : Nat} {o : Vl} (h : o ∈ oddL) : Fx μ (n + 2) o (oddT o) := by
  simp only [oddL, List.mem_cons, List.not_mem_nil, or_false] at h
  rcases h with e | e | e | e | e | e | e | e | e <;> subst e
  · exact fx_lst (.cons fx_int (.cons fx_int .nil))
  · exact fx_lst (.cons fx_int (.cons fx_int .nil))
  · exact fx_lst (.cons fx_int .nil)
  · exact fx_lst (.cons fx_int .nil)
  · exact fx_lst (.cons fx_bl .nil)
  · exact fx_lst (.cons fx_non .nil)
  · exact fx_lst (.cons fx_str .nil)
  · exact fx_non
  · exact fx_int
theorem odd_bad {o : Vl} (h : o ∈ oddL) {n : Nat} (hn : n ≤ 8) : isLotB (n : Int) (oddT o) = false := by
  simp only [oddL, List.mem_cons, List.not_mem_nil, or_false] at h
  rcases h with e | e | e | e | e | e | e | e | e <;> subst e
  · simp [oddT, isLotB, ascB, unI]
  · simp [oddT, isLotB, ascB, unI]
  · simp [oddT, isLotB, lotOfB, inB]
  · simp [oddT, isLotB, lotOfB, inB]; omega
  · simp [oddT, isLotB, lotOfB, inB]
  · simp [oddT, isLotB, lotOfB, inB]
  · simp [oddT, isLotB, lotOfB, inB]
  · rfl
  · rfl
theorem All2.app {α β : Type} {R : α → β → Prop} : ∀ {xs : List α} {ys : List β} {xs' : List α} {ys' : List β}, All2 R xs ys → All2 R xs' ys' → All2 R (xs ++ xs') (ys ++ ys')
  | _, _, _, _, .nil, h => h
  | _, _, _, _, .cons r t, h => .cons r (All2.app t h)
theorem All2.drop1 {α β : Type} {R : α → β → Prop} : ∀ {xs : List α} {ys : List β}, All2 R xs ys → All2 R (xs.drop 1) (ys.drop 1)
  | _, _, .nil => .nil
  | _, _, .cons r t => t
/-- all lots, all backs -/
def fullLL (ps : List Pr) : List (List (List Int)) := ps.map fun p => p.steps.map fun _ => rngI p.regs
def fullBB (ps : List Pr) : List (List Int) := ps.map fun p => rngI p.back
section
variable {ps : List Pr} {μ : Mu} {n : Nat}
theorem fx_fullB : All2 (Fx μ (n + 2)) ((fullBB ps).map iL) ((fullBB ps).map iT) := All2.map _ _ _ fun _ _ => fx_iL
theorem fx_rowP {L : List (List Int)} : All2 (Fx μ (n + 2)) (L.map iL) (L.map iT) := All2.map _ _ _ fun _ _ => fx_iL
theorem fx_fullL : All2 (Fx μ (n + 3)) ((fullLL ps).map rowP) ((fullLL ps).map rowT) := All2.map _ _ _ fun _ _ => fx_lst fx_rowP
theorem full_okB : BacksOk ps (fullBB ps) := ⟨by simp [fullBB], fun i p c hp hc => by
  unfold fullBB at hc
  rw [List.getElem?_map, hp] at hc
  cases hc
  exact ⟨rngI_in, rngI_up⟩⟩
theorem full_okL : LotsOk ps (fullLL ps) := ⟨by simp [fullLL], fun i p L hp hL => by
  unfold fullLL at hL
  rw [List.getElem?_map, hp] at hL
  cases hL
  refine ⟨by simp, fun c hc => ?_⟩
  obtain ⟨_, _, e⟩ := List.mem_map.mp hc
  subst e
  exact ⟨rngI_in, rngI_up⟩⟩
theorem full_at {i : Nat} {p : Pr} (hp : ps[i]? = some p) : (fullBB ps).getD i [] = rngI p.back ∧ (fullLL ps).getD i [] = p.steps.map fun _ => rngI p.regs := by
  have hb : (fullBB ps)[i]? = some (rngI p.back) := by unfold fullBB; rw [List.getElem?_map, hp]; rfl
  have hl : (fullLL ps)[i]? = some (p.steps.map fun _ => rngI p.regs) := by unfold fullLL; rw [List.getElem?_map, hp]; rfl
  rw [List.getD_eq_getElem?_getD, hb, List.getD_eq_getElem?_getD, hl]
  exact ⟨rfl, rfl⟩
theorem full_cell {p : Pr} {j : Nat} (hj : j < p.steps.length) : (p.steps.map fun _ => rngI p.regs).getD j [] = rngI p.regs := by
  rw [List.getD_eq_getElem?_getD, List.getElem?_map, List.getElem?_eq_getElem hj]; rfl
theorem full_closed (gd : Good ps) : Closed ps (fullLL ps) (fullBB ps) := by
  refine ⟨fun p hp => (full_at hp).1, fun num p hp pl s hs => ?_⟩
  have okp := gd.ok p (List.mem_of_getElem? hp)
  have hos := okp.ok s (List.mem_of_getElem? hs)
  have hpl := (List.getElem?_eq_some_iff.mp hs).1
  have hL : (fullLL ps)[num]? = some ((fullLL ps).getD num []) := getD_of (by rw [full_okL.len]; exact (List.getElem?_eq_some_iff.mp hp).1)
  have hB : (fullBB ps)[num]? = some ((fullBB ps).getD num []) := getD_of (by rw [full_okB.len]; exact (List.getElem?_eq_some_iff.mp hp).1)
  refine ⟨fun z hz => ?_, ?_⟩
  · have := need_in hos (behind_in okp (full_okL.ok num p _ hp hL) hs).1 (full_okB.ok num p _ hp hB).1 z hz
    rw [(full_at hp).2, full_cell hpl]
    exact rngI_mem.mpr this
  · cases s with
    | call j hs' qs =>
      obtain ⟨_, c, hc, _, h3, _⟩ := hos
      intro i q hq _
      have := (List.getElem?_eq_some_iff.mp hq).1
      rw [(full_at hc).1]
      exact rngI_mem.mpr ⟨by omega, by omega⟩
    | _ => trivial
theorem full_right (gd : Good ps) : Right ps (.tup ((fullBB ps).map iT)) (.tup ((fullLL ps).map rowT)) := (Right.iff full_okB full_okL).mpr (full_closed gd)
/-! what is no right paper -/
theorem nr_x {x y : Vl} (h : ∀ xs, x = .tup xs → xs.length ≠ ps.length) : ¬ Right ps x y := by
  rintro ⟨BB, LL, e, _, h1, _⟩
  exact h _ e (by rw [List.length_map, h1.len])
theorem nr_y {x y : Vl} (h : ∀ ys, y = .tup ys → ys.length ≠ ps.length) : ¬ Right ps x y := by
  rintro ⟨BB, LL, _, e, _, h1, _⟩
  exact h _ e (by rw [List.length_map, h1.len])
theorem nr_i {x y : Vl} {xs ys : List Vl} {p : Pr} (hp : ps[0]? = some p) (h : ¬ ItemOk p x y) : ¬ Right ps (.tup (x :: xs)) (.tup (y :: ys)) := fun g => h (right_items (i := 0) g hp rfl rfl)
theorem full_cons (gd : Good ps) : ∃ p r, ps = p :: r ∧ PrOk ps p := by
  have := gd.len
  cases ps with
  | nil => simp at this
  | cons p r => exact ⟨p, r, rfl, gd.ok p List.mem_cons_self⟩
end
/-- a value of which the look says no -/
def BadV (G : Cs) (ps : List Pr) (μ : Mu) (v : Vl) : Prop := (∃ t, knOf μ v = some t ∧ an_Needed G t = some false) ∨ ∃ (k : Nat) (x y : Vl), v = .ref k ∧ μ[k]? = some (.ins G.Needed (needFs x y)) ∧ FF 6 x ∧ FF 6 y ∧ ¬ Right ps x y
theorem kn_app {μ ex : Mu} {v : Vl} {t : Kn} (h : knOf μ v = some t) : knOf (μ ++ ex) v = some t := by
  cases v with
  | ref k =>
    have hk : k < μ.length := by
      by_cases hk : k < μ.length
      · exact hk
      · have e : knOf μ (.ref k) = none := by
          show (match μ[k]? with
            | some (.lst _) => some Kn.lst
            | some (.dict _) => some Kn.dict
            | some (.fdict _ _ _) => some Kn.dict
            | some (.ins C _) => some (Kn.own C)
            | _ => none) = _
          rw [List.getElem?_eq_none (by omega)]
        rw [e] at h; cases h
    have e : knOf (μ ++ ex) (.ref k) = knOf μ (.ref k) := by
      show (match (μ ++ ex)[k]? with
        | some (.lst _) => some Kn.lst
        | some (.dict _) => some Kn.dict
        | some (.fdict _ _ _) => some Kn.dict
        | some (.ins C _) => some (Kn.own C)
        | _ => none) = _
      rw [List.getElem?_append_left hk]; rfl
    rw [e]; exact h
  | _ => exact h
theorem BadV.app {G : Cs} {ps : List Pr} {μ ex : Mu} {v : Vl} (h : BadV G ps μ v) : BadV G ps (μ ++ ex) v := by
  rcases h with ⟨t, h1, h2⟩ | ⟨k, x, y, e, h1, h2⟩
  · exact .inl ⟨t, kn_app h1, h2⟩
  · exact .inr ⟨k, x, y, e, by rw [List.getElem?_append_left (List.getElem?_eq_some_iff.mp h1).1]; exact h1, h2⟩
theorem BadV.new {G : Cs} {ps : List Pr} {μ : Mu} {x y x' y' : Vl} (f1 : Fx μ 7 x x') (f2 : Fx μ 7 y y') (h : ¬ Right ps x' y') : BadV G ps (μ ++ [.ins G.Needed (needFs x' y')]) (.ref μ.length) :=
  .inr ⟨_, _, _, rfl, get_app, FF.of f1, FF.of f2, h⟩
end K65

set_option maxHeartbeats 1000000
/-! ZV: a turn of the law, from its end on. -/
namespace K65
open PySem PySem.Spec L2 StX PyProof.Rows DL
def everyV (ps : List Pr) : Vl := .lst ((fullLL ps).map rowP)
def fullV (ps : List Pr) : Vl := .lst ((fullBB ps).map iL)
section
variable {G : Cs} {ps : List Pr} {k : Nat} {n : Int} {μ : Mu} {D : DEnds} {x0 : Vl} {c : Nat} {o2 o6 o7 o8 o9 o10 o11 o12 o13 o14 o15 o16 : Option Vl}
theorem u_11 (gd : Good ps) (hc : μ[c]? = some (codeM G ps)) {vs : List Vl} (hv : ∀ v ∈ vs, BadV G ps μ v) (dn : ∀ ex, D.nx (rhoZ x0 k o2 ps c o6 o7 o8 o9 o10 o11 o12 (some (everyV ps)) (some (fullV ps)) o15 (some (.lst vs))) (μ ++ ex)) :
    t_law_2_11 G D (rhoZ x0 k o2 ps c o6 o7 o8 o9 o10 o11 o12 (some (everyV ps)) (some (fullV ps)) o15 (some (.lst vs))) μ := by
  have hsl := sizeLine_eq
  refine ⟨vs, rfl, ?_⟩
  refine DL.lcD_inv (fun rest acc μ2 => ∃ A : List Vl, A ++ rest = vs ∧ acc = [] ∧ μ2 = μ) (fun _ _ _ _ => trivial) (fun acc μ2 g => ?_) (fun x r acc μ2 g E hE => ?_) _ _ _ ?_
  · obtain ⟨A, _, e1, e2⟩ := g
    have e2 := e2.symm
    subst e1; subst e2
    refine .inl ?_
    refine ⟨by show 0 ≤ _; omega, .inl ?_⟩
    refine eq_lstI (r := []) (s := []) ?_
    have f1 : Fx μ 7 (fullV ps) (.tup ((fullBB ps).map iT)) := fx_lst fx_fullB
    have f2 : Fx μ 7 (everyV ps) (.tup ((fullLL ps).map rowT)) := fx_lst fx_fullL
    refine ⟨μ.length, _, _, _, _, rfl, get_app, f1.app, f2.app, rfl, ?_⟩
    rw [set_app]
    refine Shut.mk ⟨c, ps, .ref μ.length, rfl, by rw [List.getElem?_append_left (List.getElem?_eq_some_iff.mp hc).1]; exact hc, gd, .inr ⟨μ.length, _, _, rfl, get_app, FF.of f1, FF.of f2, fun b1 hb1 => ?_⟩⟩
    have e : b1 = true := hb1.mpr (full_right gd)
    subst e
    exact dn _
  · obtain ⟨A, e0, e1, e2⟩ := g
    have e2 := e2.symm
    subst e1; subst e2
    have next := hE [] μ ⟨A ++ [x], by rw [List.append_assoc]; exact e0, rfl, rfl⟩
    rcases hv x (by rw [← e0]; simp) with ⟨t, h1, h2⟩ | ⟨k', a, d, e, h1, h2, h3, h4⟩
    · exact Shut.mk ⟨c, ps, x, rfl, hc, gd, .inl ⟨t, h1, h2, next⟩⟩
    · refine Shut.mk ⟨c, ps, x, rfl, hc, gd, .inr ⟨k', a, d, e, h1, h2, h3, fun b hb => ?_⟩⟩
      have e : b = false := by
        cases b with
        | false => rfl
        | true => exact absurd (hb.mp rfl) h4
      subst e
      exact next
  · exact ⟨[], rfl, rfl, rfl⟩
theorem u_10 (gd : Good ps) (hc : μ[c]? = some (codeM G ps)) {bd : Nat} {vs : List Vl} (hb : μ[bd]? = some (.lst vs)) (hl : vs.length ≤ 20) (hv : ∀ v ∈ vs, BadV G ps μ v) {o : Vl} (ho : o ∈ oddL) (dn : ∀ o16 ex, D.nx (rhoZ x0 k o2 ps c o6 o7 o8 o9 o10 o11 o12 (some (everyV ps)) (some (fullV ps)) (some o) o16) (μ ++ ex)) :
    t_law_2_10 G D (rhoZ x0 k o2 ps c o6 o7 o8 o9 o10 o11 o12 (some (everyV ps)) (some (fullV ps)) (some o) (some (.ref bd))) μ := by
  have hsl := sizeLine_eq
  obtain ⟨p, r, eps, okp⟩ := full_cons gd
  have hp : ps[0]? = some p := by rw [eps]; rfl
  have hlen := gd.len
  have hst := okp.steps
  have eL : (fullLL ps).map rowP = rowP (p.steps.map fun _ => rngI p.regs) :: ((fullLL ps).map rowP).drop 1 := by rw [eps]; rfl
  have eT : (fullLL ps).map rowT = rowT (p.steps.map fun _ => rngI p.regs) :: ((fullLL ps).map rowT).drop 1 := by rw [eps]; rfl
  have eB : (fullBB ps).map iT = iT (rngI p.back) :: ((fullBB ps).map iT).drop 1 := by rw [eps]; rfl
  have lL : ((fullLL ps).map rowP).length = ps.length := by simp [fullLL]
  generalize hrow : (p.steps.map fun _ => rngI p.regs) = row at eL eT
  have hrl : row.length = p.steps.length := by rw [← hrow, List.length_map]
  have fB : ∀ μ : Mu, Fx μ 7 (fullV ps) (.tup ((fullBB ps).map iT)) := fun μ => fx_lst fx_fullB
  have fT : ∀ μ : Mu, All2 (Fx μ 6) (((fullLL ps).map rowP).drop 1) (((fullLL ps).map rowT).drop 1) := fun μ => All2.drop1 fx_fullL
  have hd : ∀ {μ : Mu}, lview μ (everyV ps) = some ((fullLL ps).map rowP) := rfl
  have h0 : L2.atI ((fullLL ps).map rowP) 0 = some (rowP row) := by rw [eL]; exact atI0
  have cd : ∀ xs : List Vl, DL.cutD xs (some 1) none = xs.drop 1 := fun xs => cut_tail (α := Nat)
  have ld : (((fullLL ps).map rowP).drop 1).length + 1 ≤ sizeLine := by rw [List.length_drop, lL]; omega
  have grow : ∀ {v : Vl} {ex : Mu}, BadV G ps μ v → BadV G ps (μ ++ ex) v := fun h => h.app
  -- the four papers
  have y1 : ∀ μ : Mu, Fx μ 7 (.lst ([.lst ([o] ++ (row.map iL).drop 1)] ++ ((fullLL ps).map rowP).drop 1)) (.tup ([.tup ([oddT o] ++ (row.map iT).drop 1)] ++ ((fullLL ps).map rowT).drop 1)) := fun μ => fx_lst ((All2.cons (fx_lst ((All2.cons (odd_fx ho) .nil).app (All2.drop1 fx_rowP))) .nil).app (fT μ))
  have y2 : ∀ μ : Mu, Fx μ 7 (.lst ([.lst ((row.map iL).drop 1)] ++ ((fullLL ps).map rowP).drop 1)) (.tup ([.tup ((row.map iT).drop 1)] ++ ((fullLL ps).map rowT).drop 1)) := fun μ => fx_lst ((All2.cons (fx_lst (All2.drop1 fx_rowP)) .nil).app (fT μ))
  have y3 : ∀ μ : Mu, Fx μ 7 (.lst ([.lst (row.map iL ++ [.lst []])] ++ ((fullLL ps).map rowP).drop 1)) (.tup ([.tup (row.map iT ++ [.tup []])] ++ ((fullLL ps).map rowT).drop 1)) := fun μ => fx_lst ((All2.cons (fx_lst (fx_rowP.app (.cons (fx_lst .nil) .nil))) .nil).app (fT μ))
  have y4 : ∀ μ : Mu, Fx μ 7 (.lst ([.non] ++ ((fullLL ps).map rowP).drop 1)) (.tup ([.non] ++ ((fullLL ps).map rowT).drop 1)) := fun μ => fx_lst ((All2.cons fx_non .nil).app (fT μ))
  have n1 : ¬ Right ps (.tup ((fullBB ps).map iT)) (.tup ([.tup ([oddT o] ++ (row.map iT).drop 1)] ++ ((fullLL ps).map rowT).drop 1)) := by
    rw [eB]
    refine nr_i hp ?_
    rintro ⟨_, cs, e, _, g⟩
    cases e
    have := g (oddT o) (by simp)
    rw [odd_bad ho (by have := okp.regs; omega)] at this
    cases this
  have n2 : ¬ Right ps (.tup ((fullBB ps).map iT)) (.tup ([.tup ((row.map iT).drop 1)] ++ ((fullLL ps).map rowT).drop 1)) := by
    rw [eB]
    refine nr_i hp ?_
    rintro ⟨_, cs, e, g, _⟩
    cases e
    rw [List.length_drop, List.length_map] at g
    omega
  have n3 : ¬ Right ps (.tup ((fullBB ps).map iT)) (.tup ([.tup (row.map iT ++ [.tup []])] ++ ((fullLL ps).map rowT).drop 1)) := by
    rw [eB]
    refine nr_i hp ?_
    rintro ⟨_, cs, e, g, _⟩
    cases e
    rw [List.length_append, List.length_map] at g
    simp at g
    omega
  have n4 : ¬ Right ps (.tup ((fullBB ps).map iT)) (.tup ([.non] ++ ((fullLL ps).map rowT).drop 1)) := by
    rw [eB]
    refine nr_i hp ?_
    rintro ⟨_, cs, e, g, _⟩
    cases e
  refine asg_s ?_
  refine ⟨by show 1 ≤ _; omega, .inl ?_⟩
  refine ⟨_, rowP row, rfl, h0, ?_⟩
  refine ⟨row.map iL, rfl, .inl ?_⟩
  rw [cd]
  refine ⟨_, _, rfl, rfl, by show 1 + ((row.map iL).drop 1).length ≤ _; rw [List.length_drop, List.length_map]; omega, .inl ?_⟩
  refine ⟨by show 1 ≤ _; omega, .inl ?_⟩
  refine ⟨_, hd, .inl ?_⟩
  rw [cd]
  refine ⟨_, _, rfl, rfl, by show 1 + (((fullLL ps).map rowP).drop 1).length ≤ _; omega, .inl ?_⟩
  refine ⟨_, _, _, _, _, rfl, get_app, (fB _).app, (y1 _).app, rfl, ?_⟩
  rw [set_app]
  refine ⟨_, rowP row, rfl, h0, ?_⟩
  refine ⟨row.map iL, rfl, .inl ?_⟩
  rw [cd]
  refine ⟨by show 1 ≤ _; omega, .inl ?_⟩
  refine ⟨_, hd, .inl ?_⟩
  rw [cd]
  refine ⟨_, _, rfl, rfl, by show 1 + (((fullLL ps).map rowP).drop 1).length ≤ _; omega, .inl ?_⟩
  refine ⟨_, _, _, _, _, rfl, get_app, (fB _).app, (y2 _).app, rfl, ?_⟩
  rw [set_app]
  refine ⟨_, rowP row, rfl, h0, ?_⟩
  refine ⟨by show 0 ≤ _; omega, .inl ?_⟩
  refine ⟨by show 1 ≤ _; omega, .inl ?_⟩
  refine ⟨_, _, rfl, rfl, by show (row.map iL).length + 1 ≤ _; rw [List.length_map]; omega, .inl ?_⟩
  refine ⟨by show 1 ≤ _; omega, .inl ?_⟩
  refine ⟨_, hd, .inl ?_⟩
  rw [cd]
  refine ⟨_, _, rfl, rfl, by show 1 + (((fullLL ps).map rowP).drop 1).length ≤ _; omega, .inl ?_⟩
  refine ⟨_, _, _, _, _, rfl, get_app, (fB _).app, (y3 _).app, rfl, ?_⟩
  rw [set_app]
  refine ⟨by show 1 ≤ _; omega, .inl ?_⟩
  refine ⟨_, hd, .inl ?_⟩
  rw [cd]
  refine ⟨_, _, rfl, rfl, by show 1 + (((fullLL ps).map rowP).drop 1).length ≤ _; omega, .inl ?_⟩
  refine ⟨_, _, _, _, _, rfl, get_app, (fB _).app, (y4 _).app, rfl, ?_⟩
  rw [set_app]
  refine ⟨by show 4 ≤ _; omega, .inl ?_⟩
  refine ⟨vs, _, ?_, rfl, by show vs.length + 4 ≤ _; omega, .inl ?_⟩
  · refine mview_of ?_
    have hbl := (List.getElem?_eq_some_iff.mp hb).1
    simp only [List.append_assoc]
    rw [List.getElem?_append_left hbl]; exact hb
  refine u_11 gd ?_ (fun v hm => ?_) fun ex => ?_
  · have hcl := (List.getElem?_eq_some_iff.mp hc).1
    simp only [List.append_assoc]
    rw [List.getElem?_append_left hcl]; exact hc
  · rcases List.mem_append.mp hm with g | g
    · exact (hv v g).app.app.app.app
    · simp only [List.mem_cons, List.not_mem_nil, or_false] at g
      rcases g with e | e | e | e <;> subst e
      · exact (BadV.new (fB _) (y1 _) n1).app.app.app
      · exact (BadV.new (fB _) (y2 _) n2).app.app
      · exact (BadV.new (fB _) (y3 _) n3).app
      · exact BadV.new (fB _) (y4 _) n4
  · simp only [List.append_assoc]
    exact dn _ _
end
end K65

set_option maxHeartbeats 1000000
/-! ZW: a turn of the law, to its beginning; the law. -/
namespace K65
open PySem PySem.Spec L2 StX PyProof.Rows DL
section
variable {G : Cs} {ps : List Pr} {k : Nat} {n : Int} {μ : Mu} {D : DEnds} {x0 : Vl} {c : Nat} {o2 o6 o7 o8 o9 o10 o11 o12 o13 o14 o15 o16 : Option Vl}
theorem u_9 (gd : Good ps) (hc : μ[c]? = some (codeM G ps)) {bd : Nat} {vs : List Vl} (hb : μ[bd]? = some (.lst vs)) (hbc : bd ≠ c) (hl : vs.length ≤ 15) (hv : ∀ v ∈ vs, BadV G ps μ v) {o : Vl} (ho : o ∈ oddL) (dn2 : ∀ o16 m ex, D.nx (rhoZ x0 k o2 ps c o6 o7 o8 o9 o10 o11 o12 (some (everyV ps)) (some (fullV ps)) (some o) o16) ((μ.set bd m) ++ ex)) :
    t_law_2_9 G D (rhoZ x0 k o2 ps c o6 o7 o8 o9 o10 o11 o12 (some (everyV ps)) (some (fullV ps)) (some o) (some (.ref bd))) μ := by
  have hsl := sizeLine_eq
  obtain ⟨p, r, eps, okp⟩ := full_cons gd
  have hp : ps[0]? = some p := by rw [eps]; rfl
  have hlen := gd.len
  have hbl := (List.getElem?_eq_some_iff.mp hb).1
  have hcl := (List.getElem?_eq_some_iff.mp hc).1
  have eT : (fullLL ps).map rowT = rowT (p.steps.map fun _ => rngI p.regs) :: ((fullLL ps).map rowT).drop 1 := by rw [eps]; rfl
  have cd : ∀ xs : List Vl, DL.cutD xs (some 1) none = xs.drop 1 := fun xs => cut_tail (α := Nat)
  have fx : ∀ μ : Mu, Fx μ 7 (.lst ([o] ++ ((fullBB ps).map iL).drop 1)) (.tup ([oddT o] ++ ((fullBB ps).map iT).drop 1)) := fun μ => fx_lst ((All2.cons (odd_fx ho) .nil).app (All2.drop1 fx_fullB))
  have fy : ∀ μ : Mu, Fx μ 7 (everyV ps) (.tup ((fullLL ps).map rowT)) := fun μ => fx_lst fx_fullL
  have nr : ¬ Right ps (.tup ([oddT o] ++ ((fullBB ps).map iT).drop 1)) (.tup ((fullLL ps).map rowT)) := by
    rw [eT]
    refine nr_i hp ?_
    rintro ⟨g, _⟩
    rw [odd_bad ho (by have := okp.back; omega)] at g
    cases g
  refine seq_i ?_
  refine ⟨by rw [lv_ref hb]; rfl, ?_⟩
  refine ⟨by show 1 ≤ _; omega, .inl ?_⟩
  refine ⟨(fullBB ps).map iL, rfl, .inl ?_⟩
  rw [cd]
  refine ⟨_, _, rfl, rfl, by show 1 + (((fullBB ps).map iL).drop 1).length ≤ _; rw [List.length_drop, List.length_map, show (fullBB ps).length = ps.length by simp [fullBB]]; omega, .inl ?_⟩
  refine ⟨_, _, _, _, _, rfl, get_app, (fx _).app, (fy _).app, rfl, ?_⟩
  rw [set_app]
  refine ⟨bd, vs, _, rfl, rfl, by rw [List.getElem?_append_left hbl]; exact hb, by omega, ?_⟩
  have e : (μ ++ [Mo.ins G.Needed (needFs (.tup ([oddT o] ++ ((fullBB ps).map iT).drop 1)) (.tup ((fullLL ps).map rowT)))]).set bd (.lst (vs ++ [.ref μ.length])) = (μ.set bd (.lst (vs ++ [.ref μ.length]))) ++ [Mo.ins G.Needed (needFs (.tup ([oddT o] ++ ((fullBB ps).map iT).drop 1)) (.tup ((fullLL ps).map rowT)))] := List.set_append_left _ _ hbl
  have keep : ∀ v, BadV G ps μ v → BadV G ps (μ.set bd (.lst (vs ++ [.ref μ.length]))) v := fun v h => by
    rcases h with ⟨t, h1, h2⟩ | ⟨k', x, y, ev, h1, h2⟩
    · refine .inl ⟨t, ?_, h2⟩
      cases v with
      | ref q =>
        by_cases hq : q = bd
        · subst hq
          have : knOf μ (.ref q) = some .lst := by
            show (match μ[q]? with
              | some (.lst _) => some Kn.lst
              | some (.dict _) => some Kn.dict
              | some (.fdict _ _ _) => some Kn.dict
              | some (.ins C _) => some (Kn.own C)
              | _ => none) = _
            rw [hb]
          rw [this] at h1
          cases h1
          show (match (μ.set q (.lst (vs ++ [.ref μ.length])))[q]? with
              | some (.lst _) => some Kn.lst
              | some (.dict _) => some Kn.dict
              | some (.fdict _ _ _) => some Kn.dict
              | some (.ins C _) => some (Kn.own C)
              | _ => none) = _
          rw [List.getElem?_set_self hbl]
        · have : knOf (μ.set bd (.lst (vs ++ [.ref μ.length]))) (.ref q) = knOf μ (.ref q) := by
            show (match (μ.set bd (.lst (vs ++ [.ref μ.length])))[q]? with
              | some (.lst _) => some Kn.lst
              | some (.dict _) => some Kn.dict
              | some (.fdict _ _ _) => some Kn.dict
              | some (.ins C _) => some (Kn.own C)
              | _ => none) = _
            rw [List.getElem?_set_ne (fun e => hq e.symm)]; rfl
          rw [this]; exact h1
      | _ => exact h1
    · exact .inr ⟨k', x, y, ev, by rw [List.getElem?_set_ne (fun e => by subst e; rw [hb] at h1; cases h1)]; exact h1, h2⟩
  rw [e]
  refine u_10 gd (vs := vs ++ [.ref μ.length]) ?_ ?_ (by rw [List.length_append]; show vs.length + 1 ≤ 20; omega) (fun v hm => ?_) ho fun o16 ex => ?_
  · rw [List.getElem?_append_left (by rw [List.length_set]; exact hcl), List.getElem?_set_ne hbc]; exact hc
  · rw [List.getElem?_append_left (by rw [List.length_set]; exact hbl), List.getElem?_set_self hbl]
  · rcases List.mem_append.mp hm with g | g
    · exact (keep v (hv v g)).app
    · rw [List.mem_singleton.mp g]
      have := BadV.new (G := G) (ps := ps) (μ := μ.set bd (.lst (vs ++ [.ref μ.length]))) (fx _) (fy _) nr
      rw [List.length_set] at this
      exact this
  · rw [List.append_assoc]
    exact dn2 o16 _ _
theorem u_8 (gd : Good ps) (hc : μ[c]? = some (codeM G ps)) {o : Vl} (ho : o ∈ oddL) (hpen : PenI k n μ) (hck : c ≠ k) (dn : ∀ o16 μ', Mv k n μ μ' → D.nx (rhoZ x0 k o2 ps c o6 o7 o8 o9 o10 o11 o12 (some (everyV ps)) (some (fullV ps)) (some o) o16) μ') :
    t_law_2_8 G D (rhoZ x0 k o2 ps c o6 o7 o8 o9 o10 o11 o12 (some (everyV ps)) (some (fullV ps)) (some o) o16) μ := by
  have hsl := sizeLine_eq
  obtain ⟨p, r, eps, okp⟩ := full_cons gd
  have hlen := gd.len
  have hcl := (List.getElem?_eq_some_iff.mp hc).1
  have lL : ((fullLL ps).map rowP).length = ps.length := by simp [fullLL]
  have lB : ((fullBB ps).map iL).length = ps.length := by simp [fullBB]
  have lL' : ((fullLL ps).map rowT).length = ps.length := by simp [fullLL]
  have lB' : ((fullBB ps).map iT).length = ps.length := by simp [fullBB]
  have cd : ∀ xs : List Vl, DL.cutD xs (some 1) none = xs.drop 1 := fun xs => cut_tail (α := Nat)
  have fB : ∀ μ : Mu, Fx μ 7 (fullV ps) (.tup ((fullBB ps).map iT)) := fun μ => fx_lst fx_fullB
  have fL : ∀ μ : Mu, Fx μ 7 (everyV ps) (.tup ((fullLL ps).map rowT)) := fun μ => fx_lst fx_fullL
  have fN : ∀ μ : Mu, Fx μ 7 .non .non := fun μ => fx_non
  have b3 : ∀ μ : Mu, Fx μ 7 (.lst ((fullBB ps).map iL ++ [.lst []])) (.tup ((fullBB ps).map iT ++ [.tup []])) := fun μ => fx_lst (fx_fullB.app (.cons (fx_lst .nil) .nil))
  have l4 : ∀ μ : Mu, Fx μ 7 (.lst ((fullLL ps).map rowP ++ [.lst []])) (.tup ((fullLL ps).map rowT ++ [.tup []])) := fun μ => fx_lst (fx_fullL.app (.cons (fx_lst .nil) .nil))
  have l5 : ∀ μ : Mu, Fx μ 7 (.lst (((fullLL ps).map rowP).drop 1)) (.tup (((fullLL ps).map rowT).drop 1)) := fun μ => fx_lst (All2.drop1 fx_fullL)
  have n1 : ¬ Right ps .non (.tup ((fullLL ps).map rowT)) := nr_x fun xs e => by cases e
  have n2 : ¬ Right ps (.tup ((fullBB ps).map iT)) .non := nr_y fun xs e => by cases e
  have n3 : ¬ Right ps (.tup ((fullBB ps).map iT ++ [.tup []])) (.tup ((fullLL ps).map rowT)) := nr_x fun xs e => by
    cases e
    rw [List.length_append, lB']; simp
  have n4 : ¬ Right ps (.tup ((fullBB ps).map iT)) (.tup ((fullLL ps).map rowT ++ [.tup []])) := nr_y fun xs e => by
    cases e
    rw [List.length_append, lL']; simp
  have n5 : ¬ Right ps (.tup ((fullBB ps).map iT)) (.tup (((fullLL ps).map rowT).drop 1)) := nr_y fun xs e => by
    cases e
    rw [List.length_drop, lL']; omega
  refine asg_s ?_
  refine ⟨by show 0 ≤ _; omega, ?_⟩
  refine ⟨_, _, _, _, _, rfl, get_app, (fN _).app, (fL _).app, rfl, ?_⟩
  rw [set_app]
  refine ⟨_, _, _, _, _, rfl, get_app, (fB _).app, (fN _).app, rfl, ?_⟩
  rw [set_app]
  refine ⟨by show 0 ≤ _; omega, .inl ?_⟩
  refine ⟨by show 1 ≤ _; omega, .inl ?_⟩
  refine ⟨_, _, rfl, rfl, by show _ + 1 ≤ _; rw [lB]; omega, .inl ?_⟩
  refine ⟨_, _, _, _, _, rfl, get_app, (b3 _).app, (fL _).app, rfl, ?_⟩
  rw [set_app]
  refine ⟨by show 0 ≤ _; omega, .inl ?_⟩
  refine ⟨by show 1 ≤ _; omega, .inl ?_⟩
  refine ⟨_, _, rfl, rfl, by show _ + 1 ≤ _; rw [lL]; omega, .inl ?_⟩
  refine ⟨_, _, _, _, _, rfl, get_app, (fB _).app, (l4 _).app, rfl, ?_⟩
  rw [set_app]
  refine ⟨(fullLL ps).map rowP, rfl, .inl ?_⟩
  rw [cd]
  refine ⟨_, _, _, _, _, rfl, get_app, (fB _).app, (l5 _).app, rfl, ?_⟩
  rw [set_app]
  refine ⟨_, "needed", [fullV ps, everyV ps], [.tup ((fullBB ps).map iT), .tup ((fullLL ps).map rowT)], rfl, by show 2 ≤ 10; decide, get_app, .cons (fB _).app (.cons (fL _).app .nil), rfl, ?_⟩
  rw [set_app]
  refine ⟨by show 9 ≤ _; omega, .inr ?_⟩
  have hm : Mv k n μ μ := Mv.refl hpen
  refine u_9 gd ?_ get_app ?_ (by show 9 ≤ 15; decide) (fun v hv => ?_) ho fun o16 m ex => ?_
  · simp only [List.append_assoc]
    rw [List.getElem?_append_left hcl]; exact hc
  · simp only [List.length_append]; omega
  · have kI : ∀ (μ : Mu) (k : Nat) (fs : List (Str × Vl)), μ[k]? = some (.ins G.Paper fs) → BadV G ps μ (.ref k) := fun μ k fs h => .inl ⟨_, kn_ins h, by
      show List.lookup G.Paper [(G.Needed, true), (G.Paper, false)] = some false
      have : (G.Paper == G.Needed) = false := by
        rw [beq_eq_false_iff_ne]; exact G.ne
      rw [List.lookup_cons, this]
      simp [List.lookup]⟩
    simp only [List.mem_cons, List.not_mem_nil, or_false] at hv
    rcases hv with e | e | e | e | e | e | e | e | e <;> subst e
    · exact .inl ⟨.non, rfl, rfl⟩
    · exact .inl ⟨.int, rfl, rfl⟩
    · exact .inl ⟨.tup, rfl, rfl⟩
    · exact (BadV.new (fN _) (fL _) n1).app.app.app.app.app.app
    · exact (BadV.new (fB _) (fN _) n2).app.app.app.app.app
    · exact (BadV.new (b3 _) (fL _) n3).app.app.app.app
    · exact (BadV.new (fB _) (l4 _) n4).app.app.app
    · exact (BadV.new (fB _) (l5 _) n5).app.app
    · exact (kI _ _ _ get_app).app
  · refine dn o16 _ ?_
    refine Mv.app (Mv.set ?_ ?_ hpen.lt)
    · iterate 7 refine Mv.app ?_
      exact hm
    · simp only [List.length_append]; omega
end
end K65

set_option maxHeartbeats 1000000
/-! ZX: the law. -/
namespace K65
open PySem PySem.Spec L2 StX PyProof.Rows DL
abbrev rhoY (x0 : Vl) (k : Nat) (o2 o3 o4 o5 o6 o7 o8 o9 o10 o11 o12 o13 o14 o15 o16 : Option Vl) : Rho :=
  [some x0, some (.ref k), o2, o3, o4, o5, o6, o7, o8, o9, o10, o11, o12, o13, o14, o15, o16, none, none, none, none, none, none]
def IsY (x0 : Vl) (k : Nat) (ρ : Rho) : Prop := ∃ o2 o3 o4 o5 o6 o7 o8 o9 o10 o11 o12 o13 o14 o15 o16, ρ = rhoY x0 k o2 o3 o4 o5 o6 o7 o8 o9 o10 o11 o12 o13 o14 o15 o16
section
variable {G : Cs} {ps : List Pr} {k : Nat} {n : Int} {μ : Mu} {D : DEnds} {x0 : Vl} {c : Nat} {o2 o3 o4 o5 o6 o7 o8 o9 o10 o11 o12 o13 o14 o15 o16 : Option Vl}
theorem u_7 (gd : Good ps) (hc : μ[c]? = some (codeM G ps)) (hpen : PenI k n μ) (hck : c ≠ k) (hn : n + 10 ≤ 900000) (dn : ∀ ρ μ', IsY x0 k ρ → Mv k (n + 1) μ μ' → D.nx ρ μ') :
    t_law_2_7 G D (rhoZ x0 k o2 ps c o6 o7 o8 o9 o10 o11 o12 (some (everyV ps)) (some (fullV ps)) o15 o16) μ := by
  have hsl := sizeLine_eq
  refine asg_s ?_
  refine ⟨by show 2 ≤ _; omega, .inl ?_⟩
  refine ⟨by show 2 ≤ _; omega, .inl ?_⟩
  refine ⟨by show 1 ≤ _; omega, .inl ?_⟩
  refine ⟨by show 1 ≤ _; omega, .inl ?_⟩
  refine ⟨by show 1 ≤ _; omega, .inl ?_⟩
  refine ⟨by show 1 ≤ _; omega, .inl ?_⟩
  refine ⟨by show 1 ≤ _; omega, .inl ?_⟩
  refine ⟨by show 9 ≤ _; omega, .inl ?_⟩
  refine pick_use (n := n) (x := .lst oddL) (vs := oddL) hpen (by omega) (fun _ => rfl) (by decide) (by decide) fun v μ' hv hm => ?_
  exact u_8 gd (hm.get hc hck) hv hm.pen hck fun o16 μ2 hm2 => dn _ _ ⟨_, _, _, _, _, _, _, _, _, _, _, _, _, _, _, rfl⟩ (hm.trans hm2)
theorem u_5 (gd : Good ps) (hc : μ[c]? = some (codeM G ps)) (hpen : PenI k n μ) (hck : c ≠ k) (hn : n + 10 ≤ 900000) (dn : ∀ ρ μ', IsY x0 k ρ → Mv k (n + 1) μ μ' → D.nx ρ μ') :
    t_law_2_5 G D (rhoZ x0 k o2 ps c o6 o7 o8 o9 o10 o11 o12 o13 o14 o15 o16) μ := by
  refine asg_s ?_
  refine ⟨ps.map Pr.v, rfl, ?_⟩
  refine DL.lc_map (μ := μ) trivial Pr.v (fun p => rowP (p.steps.map fun _ => rngI p.regs)) ps [] (fun p hp P hP => ?_) ?_
  · have okp := gd.ok p hp
    refine ⟨_, .tup (p.steps.map St.t), rfl, rfl, _, rfl, ?_⟩
    refine DL.lc_map (μ := μ) trivial St.t (fun _ => iL (rngI p.regs)) p.steps [] (fun s hs P hP => ?_) ?_
    · refine ⟨_, .int p.regs, rfl, rfl, p.regs, rfl, rg_ok (by have := okp.regs; omega), .inl ?_⟩
      rw [show ((p.regs : Int)).toNat = p.regs by omega, rngD_rngI]
      exact hP
    refine .inl ?_
    have e : ([] ++ p.steps.map fun _ => iL (rngI p.regs)) = (p.steps.map fun _ => rngI p.regs).map iL := by rw [List.nil_append, List.map_map]; rfl
    rw [e]
    exact hP
  refine .inl ?_
  have e : ([] ++ ps.map fun p => rowP (p.steps.map fun _ => rngI p.regs)) = (fullLL ps).map rowP := by unfold fullLL; rw [List.nil_append, List.map_map]; rfl
  rw [e]
  refine asg_s ?_
  refine ⟨ps.map Pr.v, rfl, ?_⟩
  refine DL.lc_map (μ := μ) trivial Pr.v (fun p => iL (rngI p.back)) ps [] (fun p hp P hP => ?_) ?_
  · have okp := gd.ok p hp
    refine ⟨_, .int p.back, rfl, rfl, p.back, rfl, rg_ok (by have := okp.back; omega), .inl ?_⟩
    rw [show ((p.back : Int)).toNat = p.back by omega, rngD_rngI]
    exact hP
  refine .inl ?_
  have e : ([] ++ ps.map fun p => iL (rngI p.back)) = (fullBB ps).map iL := by unfold fullBB; rw [List.nil_append, List.map_map]; rfl
  rw [e]
  exact u_7 gd hc hpen hck hn dn
theorem u_4 (gd : Good ps) (hc : μ[c]? = some (codeM G ps)) (hpen : PenI k n μ) (hck : c ≠ k) (hn : n + 10 ≤ 900000) (dn : ∀ ρ μ', IsY x0 k ρ → Mv k (n + 1) μ μ' → D.nx ρ μ') :
    t_law_2_4 G D (rhoZ x0 k o2 ps c o6 o7 o8 o9 o10 o11 o12 o13 o14 o15 o16) μ := by
  refine Shut.mk ⟨ps, rfl, gd, fun rs b μ1 LL BB h => ?_⟩
  refine ⟨rfl, rfl, ?_⟩
  have g := LM.of h hpen
  exact u_5 gd (g.mv.get hc hck) g.mv.pen hck hn fun ρ μ' e hm => dn ρ μ' e (g.mv.trans hm)
theorem u_3 (gd : Good ps) (hc : μ[c]? = some (codeM G ps)) (hpen : PenI k n μ) (hck : c ≠ k) (hn : n + 3000 ≤ 900000) (dn : ∀ ρ μ', IsY x0 k ρ → Mv k (n + 2401) μ μ' → D.nx ρ μ') :
    t_law_2_3 G D (rhoZ x0 k o2 ps c o6 o7 o8 o9 o10 o11 o12 o13 o14 o15 o16) μ := by
  refine ⟨8, rfl, by omega, by omega, ?_⟩
  refine DL.forD_inv (fun rest ρ μ1 => ∃ (i : Nat) (o6 o7 o8 o9 o10 o11 o12 : Option Vl), (rngD 0 8).drop i = rest ∧ i ≤ 8 ∧ ρ = rhoZ x0 k o2 ps c o6 o7 o8 o9 o10 o11 o12 o13 o14 o15 o16 ∧ Mv k (n + 300 * i) μ μ1) (fun _ _ _ _ => trivial) (fun ρ μ1 h => ?_) (fun x rest ρ μ1 h E hE _ _ => ?_) _ _ _ ?_
  · obtain ⟨i, o6, o7, o8, o9, o10, o11, o12, _, hi, e, hm⟩ := h
    subst e
    exact u_4 (n := n + 2400) gd (hm.get hc hck) (hm.pen.le (by omega)) hck (by omega) fun ρ μ' e hm2 => dn ρ μ' e ((hm.trans hm2).le (by omega))
  · obtain ⟨i, o6, o7, o8, o9, o10, o11, o12, e0, hi, e, hm⟩ := h
    subst e
    obtain ⟨g1, g2, g3⟩ := drop_cons e0
    rw [rngD_len] at g3
    rw [rngD_get g3] at g1
    have ex := (Option.some.inj g1).symm
    subst ex
    refine z_1 (n := n + 300 * i) gd (hm.get hc hck) hck hm.pen (by omega) rfl fun ρ' μ' hm2 e => ?_
    obtain ⟨a7, a8, a9, a10, a11, a12, e⟩ := e
    exact hE _ _ ⟨i + 1, _, _, _, _, _, _, _, g2, g3, e, (hm.trans hm2).le (by omega)⟩
  · exact ⟨0, _, _, _, _, _, _, _, rfl, Nat.zero_le _, rfl, (Mv.refl hpen).le (by omega)⟩
theorem u_1 (hpen : PenI k n μ) (hn : n + 6000 ≤ 900000) (dn : ∀ ρ μ', IsY x0 k ρ → Mv k (n + 4000) μ μ' → D.nx ρ μ') :
    b_law_2 G D (rhoY x0 k o2 o3 o4 o5 o6 o7 o8 o9 o10 o11 o12 o13 o14 o15 o16) μ := by
  have hsl := sizeLine_eq
  refine Shut.mk ⟨k, n, rfl, hpen, by omega, fun ps μ1 gd h3 hm => ?_⟩
  refine ⟨ps, rfl, gd, ?_⟩
  refine ⟨_, _, rfl, rfl, by show 2 ≤ _; omega, ?_⟩
  refine ⟨rfl, rfl, ?_⟩
  have hk := hm.pen.lt
  have hl : (ps.map Pr.v).length = ps.length := List.length_map _
  rw [hl]
  have hm2 := hm.app (ex := [codeM G ps])
  refine u_3 (n := n + 1500) gd get_app hm2.pen (by omega) (by omega) fun ρ μ' e hm3 => dn ρ μ' e ((hm2.trans hm3).le (by omega))
end
def c_law : Ct := fun xs μ Q => ∃ ns : List Int, xs = [.frl (ns.map .int)] ∧ ns.length ≤ 63 ∧ ∀ μ', Q (.bl true) μ'
theorem l_law : ∀ xs μ Q, c_law xs μ Q → xs.length = 1 := by
  intro xs μ Q ⟨_, e, _⟩; subst e; rfl
theorem law_all : ∀ ns : List Int, ns.length ≤ 63 → c_law [.frl (ns.map .int)] [] fun v _ => v = .bl true := fun ns h => ⟨ns, rfl, h, fun _ => rfl⟩
theorem r_law (G : Cs) : ∀ xs μ Q, c_law xs μ Q → b_law G (spEnds Q) (startD ["script", "pen", "turn", "plain", "code", "many", "lap", "backs", "lots", "number", "way", "place", "lot", "every", "full", "odd", "bad", "one", "step", "spot", "row", "at", "slot"] xs) μ := by
  intro xs μ Q ⟨ns, e, hn, q⟩
  subst e
  refine ⟨ns, rfl, hn, ?_⟩
  refine ⟨3, rfl, by omega, by omega, ?_⟩
  refine DL.forD_inv (fun rest ρ μ1 => ∃ i : Nat, (rngD 0 3).drop i = rest ∧ i ≤ 3 ∧ IsY (.frl (ns.map .int)) μ.length ρ ∧ PenI μ.length (4000 * i) μ1) (fun _ _ _ _ => trivial) (fun ρ μ1 h => ?_) (fun x rest ρ μ1 h E hE _ _ => ?_) _ _ _ ?_
  · obtain ⟨i, _, hi, ⟨_, _, _, _, _, _, _, _, _, _, _, _, _, _, _, e⟩, hm⟩ := h
    subst e
    exact q _
  · obtain ⟨i, e0, hi, ⟨o2, o3, o4, o5, o6, o7, o8, o9, o10, o11, o12, o13, o14, o15, o16, e⟩, hm⟩ := h
    subst e
    obtain ⟨g1, g2, g3⟩ := drop_cons e0
    rw [rngD_len] at g3
    exact u_1 (n := 4000 * i) hm (by omega) fun ρ' μ' e hm2 => hE _ _ ⟨i + 1, g2, g3, e, hm2.pen.le (by omega)⟩
  · exact ⟨0, rfl, Nat.zero_le _, ⟨_, _, _, _, _, _, _, _, _, _, _, _, _, _, _, rfl⟩, ns, 0, 0, get_app, Int.le_refl _, by omega, Int.le_refl _⟩
end K65

/-! the defs of the text, each as terms over data (printed by gen3b.py) -/
namespace K65
open PySem PySem.Spec L2 StX PyProof.Rows DL NdefX
def topS (i : Nat) : Stmt := PySem.Challenge.pw_allmoduli_k65_lots_bent.main.body.getD i (.Pass ⟨0, 0, 0, 0⟩)
abbrev s_is_integer : Stmt := topS 4
abbrev s_is_within : Stmt := topS 5
abbrev s_is_listed : Stmt := topS 6
abbrev s_is_row : Stmt := topS 7
abbrev s_is_ascending : Stmt := topS 8
abbrev s_is_name : Stmt := topS 9
abbrev s_is_lot_of : Stmt := topS 10
abbrev s_fixed : Stmt := topS 15
abbrev s_Paper___init__ : Stmt := inClass (topS 17) 0
abbrev s_is_multiple : Stmt := topS 32
abbrev s_is_shape : Stmt := topS 33
abbrev s_StepCheck___init__ : Stmt := inClass (topS 34) 0
abbrev s_StepCheck_is_fine : Stmt := inClass (topS 34) 1
abbrev s_StepCheck_is_place : Stmt := inClass (topS 34) 2
abbrev s_StepCheck_are_registers : Stmt := inClass (topS 34) 3
abbrev s_StepCheck_is_shown : Stmt := inClass (topS 34) 4
abbrev s_StepCheck_is_set : Stmt := inClass (topS 34) 5
abbrev s_StepCheck_is_call : Stmt := inClass (topS 34) 6
abbrev s_are_procedures : Stmt := topS 35
abbrev s_Code___init__ : Stmt := inClass (topS 36) 0
abbrev s_need_code : Stmt := topS 37
abbrev s_Needed___init__ : Stmt := inClass (topS 39) 0
abbrev s_joined : Stmt := topS 40
abbrev s_nexts_at : Stmt := topS 41
abbrev s_behind : Stmt := topS 42
abbrev s_wanted : Stmt := topS 43
abbrev s_is_closed : Stmt := topS 44
abbrev s_is_lot : Stmt := topS 45
abbrev s_shows_needed : Stmt := topS 46
abbrev s__law_pen : Stmt := topS 48
abbrev s__law_draw : Stmt := topS 49
abbrev s__law_pick : Stmt := topS 50
abbrev s__law_mixed : Stmt := topS 51
abbrev s__law_pairs_of : Stmt := topS 52
abbrev s__law_set : Stmt := topS 53
abbrev s__law_sets : Stmt := topS 54
abbrev s__law_shown : Stmt := topS 55
abbrev s__law_procedure : Stmt := topS 56
abbrev s__law_plain : Stmt := topS 57
abbrev s__law_made : Stmt := topS 58
abbrev s__law_nexts : Stmt := topS 59
abbrev s__law_lot : Stmt := topS 60
abbrev s__law_least_lots : Stmt := topS 61
abbrev s__law_is_closed : Stmt := topS 62
abbrev s_law : Stmt := topS 63
theorem sc_is_integer : FnScope ["value"] ["value"] (defScope s_is_integer) := ⟨rfl, rfl, rfl, by decide +kernel, rfl, by decide +kernel, by decide +kernel⟩
theorem sc_is_within : FnScope ["value", "least", "most"] ["value", "least", "most"] (defScope s_is_within) := ⟨rfl, rfl, rfl, by decide +kernel, rfl, by decide +kernel, by decide +kernel⟩
theorem sc_is_listed : FnScope ["value"] ["value"] (defScope s_is_listed) := ⟨rfl, rfl, rfl, by decide +kernel, rfl, by decide +kernel, by decide +kernel⟩
theorem sc_is_row : FnScope ["value", "least", "most"] ["value", "least", "most"] (defScope s_is_row) := ⟨rfl, rfl, rfl, by decide +kernel, rfl, by decide +kernel, by decide +kernel⟩
theorem sc_is_ascending : FnScope ["rows", "one", "other"] ["rows"] (defScope s_is_ascending) := ⟨rfl, rfl, rfl, by decide +kernel, rfl, by decide +kernel, by decide +kernel⟩
theorem sc_is_name : FnScope ["value", "sign"] ["value"] (defScope s_is_name) := ⟨rfl, rfl, rfl, by decide +kernel, rfl, by decide +kernel, by decide +kernel⟩
theorem sc_is_lot_of : FnScope ["value", "many", "one"] ["value", "many"] (defScope s_is_lot_of) := ⟨rfl, rfl, rfl, by decide +kernel, rfl, by decide +kernel, by decide +kernel⟩
theorem sc_fixed : FnScope ["value", "part"] ["value"] (defScope s_fixed) := ⟨rfl, rfl, rfl, by decide +kernel, rfl, by decide +kernel, by decide +kernel⟩
theorem sc_Paper___init__ : FnScope ["self", "word", "parts"] ((["self", "word"] : List Str) ++ (["parts"] : List Str)) (defScope s_Paper___init__) := ⟨rfl, rfl, rfl, by decide +kernel, rfl, by decide +kernel, by decide +kernel⟩
theorem sc_is_multiple : FnScope ["value"] ["value"] (defScope s_is_multiple) := ⟨rfl, rfl, rfl, by decide +kernel, rfl, by decide +kernel, by decide +kernel⟩
theorem sc_is_shape : FnScope ["value", "word", "handed", "back", "registers", "steps"] ["value"] (defScope s_is_shape) := ⟨rfl, rfl, rfl, by decide +kernel, rfl, by decide +kernel, by decide +kernel⟩
theorem sc_StepCheck___init__ : FnScope ["self", "procedures", "number"] ["self", "procedures", "number"] (defScope s_StepCheck___init__) := ⟨rfl, rfl, rfl, by decide +kernel, rfl, by decide +kernel, by decide +kernel⟩
theorem sc_StepCheck_is_fine : FnScope ["self", "step"] ["self", "step"] (defScope s_StepCheck_is_fine) := ⟨rfl, rfl, rfl, by decide +kernel, rfl, by decide +kernel, by decide +kernel⟩
theorem sc_StepCheck_is_place : FnScope ["self", "value"] ["self", "value"] (defScope s_StepCheck_is_place) := ⟨rfl, rfl, rfl, by decide +kernel, rfl, by decide +kernel, by decide +kernel⟩
theorem sc_StepCheck_are_registers : FnScope ["self", "value", "least", "most"] ["self", "value", "least", "most"] (defScope s_StepCheck_are_registers) := ⟨rfl, rfl, rfl, by decide +kernel, rfl, by decide +kernel, by decide +kernel⟩
theorem sc_StepCheck_is_shown : FnScope ["self", "step"] ["self", "step"] (defScope s_StepCheck_is_shown) := ⟨rfl, rfl, rfl, by decide +kernel, rfl, by decide +kernel, by decide +kernel⟩
theorem sc_StepCheck_is_set : FnScope ["self", "step", "some", "pair"] ["self", "step"] (defScope s_StepCheck_is_set) := ⟨rfl, rfl, rfl, by decide +kernel, rfl, by decide +kernel, by decide +kernel⟩
theorem sc_StepCheck_is_call : FnScope ["self", "step", "handed", "back", "register"] ["self", "step"] (defScope s_StepCheck_is_call) := ⟨rfl, rfl, rfl, by decide +kernel, rfl, by decide +kernel, by decide +kernel⟩
theorem sc_are_procedures : FnScope ["value", "number", "one", "check", "step"] ["value"] (defScope s_are_procedures) := ⟨rfl, rfl, rfl, by decide +kernel, rfl, by decide +kernel, by decide +kernel⟩
theorem sc_Code___init__ : FnScope ["self", "procedures"] ["self", "procedures"] (defScope s_Code___init__) := ⟨rfl, rfl, rfl, by decide +kernel, rfl, by decide +kernel, by decide +kernel⟩
theorem sc_need_code : FnScope ["value", "part"] ["value", "part"] (defScope s_need_code) := ⟨rfl, rfl, rfl, by decide +kernel, rfl, by decide +kernel, by decide +kernel⟩
abbrev nf_Needed___init__ (cc cda : Addr) : NdefX.NF := ⟨"__init__", "Needed.__init__", defArgs s_Needed___init__, defBody s_Needed___init__, defScope s_Needed___init__, [("__class__", cc)], cda⟩
theorem sc_Needed___init__ : NScope ["self", "backs", "lots", "__class__"] ["self", "backs", "lots"] ["__class__"] (defScope s_Needed___init__) := nscope_by (by decide +kernel)
theorem sc_joined : FnScope ["some", "more"] ["some", "more"] (defScope s_joined) := ⟨rfl, rfl, rfl, by decide +kernel, rfl, by decide +kernel, by decide +kernel⟩
theorem sc_nexts_at : FnScope ["steps", "place", "step"] ["steps", "place"] (defScope s_nexts_at) := ⟨rfl, rfl, rfl, by decide +kernel, rfl, by decide +kernel, by decide +kernel⟩
theorem sc_behind : FnScope ["lots", "steps", "place", "one", "register"] ["lots", "steps", "place"] (defScope s_behind) := ⟨rfl, rfl, rfl, by decide +kernel, rfl, by decide +kernel, by decide +kernel⟩
theorem sc_wanted : FnScope ["step", "found", "lots", "backs", "handed", "at", "register", "one", "pair"] ["step", "found", "lots", "backs"] (defScope s_wanted) := ⟨rfl, rfl, rfl, by decide +kernel, rfl, by decide +kernel, by decide +kernel⟩
theorem sc_is_closed : FnScope ["code", "backs", "lots", "number", "one", "place", "step", "found", "register", "at", "its"] ["code", "backs", "lots"] (defScope s_is_closed) := ⟨rfl, rfl, rfl, by decide +kernel, rfl, by decide +kernel, by decide +kernel⟩
theorem sc_is_lot : FnScope ["value", "many"] ["value", "many"] (defScope s_is_lot) := ⟨rfl, rfl, rfl, by decide +kernel, rfl, by decide +kernel, by decide +kernel⟩
theorem sc_shows_needed : FnScope ["code", "value", "many", "backs", "lots", "one", "lot"] ["code", "value"] (defScope s_shows_needed) := ⟨rfl, rfl, rfl, by decide +kernel, rfl, by decide +kernel, by decide +kernel⟩
theorem sc__law_pen : FnScope ["script"] ["script"] (defScope s__law_pen) := ⟨rfl, rfl, rfl, by decide +kernel, rfl, by decide +kernel, by decide +kernel⟩
theorem sc__law_draw : FnScope ["pen", "many", "digit", "at", "cell", "great", "mixed"] ["pen", "many"] (defScope s__law_draw) := ⟨rfl, rfl, rfl, by decide +kernel, rfl, by decide +kernel, by decide +kernel⟩
theorem sc__law_pick : FnScope ["pen", "some"] ["pen", "some"] (defScope s__law_pick) := ⟨rfl, rfl, rfl, by decide +kernel, rfl, by decide +kernel, by decide +kernel⟩
theorem sc__law_mixed : FnScope ["pen", "some", "rest", "found", "turn"] ["pen", "some"] (defScope s__law_mixed) := ⟨rfl, rfl, rfl, by decide +kernel, rfl, by decide +kernel, by decide +kernel⟩
theorem sc__law_pairs_of : FnScope ["pen", "registers", "some", "slot"] ["pen", "registers"] (defScope s__law_pairs_of) := ⟨rfl, rfl, rfl, by decide +kernel, rfl, by decide +kernel, by decide +kernel⟩
theorem sc__law_set : FnScope ["pen", "registers"] ["pen", "registers"] (defScope s__law_set) := ⟨rfl, rfl, rfl, by decide +kernel, rfl, by decide +kernel, by decide +kernel⟩
theorem sc__law_sets : FnScope ["pen", "registers", "most", "turn"] ["pen", "registers", "most"] (defScope s__law_sets) := ⟨rfl, rfl, rfl, by decide +kernel, rfl, by decide +kernel, by decide +kernel⟩
theorem sc__law_shown : FnScope ["pen", "registers", "turn"] ["pen", "registers"] (defScope s__law_shown) := ⟨rfl, rfl, rfl, by decide +kernel, rfl, by decide +kernel, by decide +kernel⟩
theorem sc__law_procedure : FnScope ["pen", "word", "handed", "back", "registers", "callees", "steps", "at", "yes", "number", "its_handed", "its_back", "puts", "no", "turn"] ["pen", "word", "handed", "back", "registers", "callees"] (defScope s__law_procedure) := ⟨rfl, rfl, rfl, by decide +kernel, rfl, by decide +kernel, by decide +kernel⟩
theorem sc__law_plain : FnScope ["pen", "procedures", "many", "shapes", "sizes", "callees", "found", "at", "some", "handed", "back", "row"] ["pen", "procedures"] (defScope s__law_plain) := ⟨rfl, rfl, rfl, by decide +kernel, rfl, by decide +kernel, by decide +kernel⟩
theorem sc__law_made : FnScope ["plain", "word", "handed", "back", "registers", "steps", "step"] ["plain"] (defScope s__law_made) := ⟨rfl, rfl, rfl, by decide +kernel, rfl, by decide +kernel, by decide +kernel⟩
theorem sc__law_nexts : FnScope ["steps", "place", "step"] ["steps", "place"] (defScope s__law_nexts) := ⟨rfl, rfl, rfl, by decide +kernel, rfl, by decide +kernel, by decide +kernel⟩
theorem sc__law_lot : FnScope ["plain", "lots", "backs", "number", "place", "steps", "step", "later", "one", "pair", "at"] ["plain", "lots", "backs", "number", "place"] (defScope s__law_lot) := ⟨rfl, rfl, rfl, by decide +kernel, rfl, by decide +kernel, by decide +kernel⟩
theorem sc__law_least_lots : FnScope ["plain", "lots", "backs", "turn", "ahead", "number", "one", "place", "step", "later", "at", "its"] ["plain"] (defScope s__law_least_lots) := ⟨rfl, rfl, rfl, by decide +kernel, rfl, by decide +kernel, by decide +kernel⟩
theorem sc__law_is_closed : FnScope ["plain", "backs", "lots", "number", "one", "place", "step", "slot", "at"] ["plain", "backs", "lots"] (defScope s__law_is_closed) := ⟨rfl, rfl, rfl, by decide +kernel, rfl, by decide +kernel, by decide +kernel⟩
theorem sc_law : FnScope ["script", "pen", "turn", "plain", "code", "many", "lap", "backs", "lots", "number", "way", "place", "lot", "every", "full", "odd", "bad", "one", "step", "spot", "row", "at", "slot"] ["script"] (defScope s_law) := ⟨rfl, rfl, rfl, by decide +kernel, rfl, by decide +kernel, by decide +kernel⟩
set_option maxHeartbeats 4000000 in
structure Tx (K : PySem.W.Frag) (mg : Str → Option Value) where
  G : Cs
  file : Str
  a_is_integer : Addr
  d_is_integer : FuncData
  F_is_integer : Fun K "is_integer" "is_integer" s_is_integer a_is_integer d_is_integer
  m_is_integer : mg "is_integer" = some (.ref a_is_integer)
  b_is_integer : Binds K d_is_integer ["value"] []
  a_is_within : Addr
  d_is_within : FuncData
  F_is_within : Fun K "is_within" "is_within" s_is_within a_is_within d_is_within
  m_is_within : mg "is_within" = some (.ref a_is_within)
  b_is_within : Binds K d_is_within ["value", "least", "most"] []
  a_is_listed : Addr
  d_is_listed : FuncData
  F_is_listed : Fun K "is_listed" "is_listed" s_is_listed a_is_listed d_is_listed
  m_is_listed : mg "is_listed" = some (.ref a_is_listed)
  b_is_listed : Binds K d_is_listed ["value"] []
  a_is_row : Addr
  d_is_row : FuncData
  F_is_row : Fun K "is_row" "is_row" s_is_row a_is_row d_is_row
  m_is_row : mg "is_row" = some (.ref a_is_row)
  b_is_row : Binds K d_is_row ["value", "least", "most"] []
  a_is_ascending : Addr
  d_is_ascending : FuncData
  F_is_ascending : Fun K "is_ascending" "is_ascending" s_is_ascending a_is_ascending d_is_ascending
  m_is_ascending : mg "is_ascending" = some (.ref a_is_ascending)
  b_is_ascending : Binds K d_is_ascending ["rows"] []
  a_is_name : Addr
  d_is_name : FuncData
  F_is_name : Fun K "is_name" "is_name" s_is_name a_is_name d_is_name
  m_is_name : mg "is_name" = some (.ref a_is_name)
  b_is_name : Binds K d_is_name ["value"] []
  a_is_lot_of : Addr
  d_is_lot_of : FuncData
  F_is_lot_of : Fun K "is_lot_of" "is_lot_of" s_is_lot_of a_is_lot_of d_is_lot_of
  m_is_lot_of : mg "is_lot_of" = some (.ref a_is_lot_of)
  b_is_lot_of : Binds K d_is_lot_of ["value", "many"] []
  a_fixed : Addr
  d_fixed : FuncData
  F_fixed : Fun K "fixed" "fixed" s_fixed a_fixed d_fixed
  m_fixed : mg "fixed" = some (.ref a_fixed)
  b_fixed : Binds K d_fixed ["value"] []
  a_Paper___init__ : Addr
  d_Paper___init__ : FuncData
  F_Paper___init__ : Fun K "__init__" "Paper.__init__" s_Paper___init__ a_Paper___init__ d_Paper___init__
  a_is_multiple : Addr
  d_is_multiple : FuncData
  F_is_multiple : Fun K "is_multiple" "is_multiple" s_is_multiple a_is_multiple d_is_multiple
  m_is_multiple : mg "is_multiple" = some (.ref a_is_multiple)
  b_is_multiple : Binds K d_is_multiple ["value"] []
  a_is_shape : Addr
  d_is_shape : FuncData
  F_is_shape : Fun K "is_shape" "is_shape" s_is_shape a_is_shape d_is_shape
  m_is_shape : mg "is_shape" = some (.ref a_is_shape)
  b_is_shape : Binds K d_is_shape ["value"] []
  a_StepCheck___init__ : Addr
  d_StepCheck___init__ : FuncData
  F_StepCheck___init__ : Fun K "__init__" "StepCheck.__init__" s_StepCheck___init__ a_StepCheck___init__ d_StepCheck___init__
  b_StepCheck___init__ : Binds K d_StepCheck___init__ ["self", "procedures", "number"] []
  a_StepCheck_is_fine : Addr
  d_StepCheck_is_fine : FuncData
  F_StepCheck_is_fine : Fun K "is_fine" "StepCheck.is_fine" s_StepCheck_is_fine a_StepCheck_is_fine d_StepCheck_is_fine
  b_StepCheck_is_fine : Binds K d_StepCheck_is_fine ["self", "step"] []
  a_StepCheck_is_place : Addr
  d_StepCheck_is_place : FuncData
  F_StepCheck_is_place : Fun K "is_place" "StepCheck.is_place" s_StepCheck_is_place a_StepCheck_is_place d_StepCheck_is_place
  b_StepCheck_is_place : Binds K d_StepCheck_is_place ["self", "value"] []
  a_StepCheck_are_registers : Addr
  d_StepCheck_are_registers : FuncData
  F_StepCheck_are_registers : Fun K "are_registers" "StepCheck.are_registers" s_StepCheck_are_registers a_StepCheck_are_registers d_StepCheck_are_registers
  b_StepCheck_are_registers : Binds K d_StepCheck_are_registers ["self", "value", "least", "most"] []
  a_StepCheck_is_shown : Addr
  d_StepCheck_is_shown : FuncData
  F_StepCheck_is_shown : Fun K "is_shown" "StepCheck.is_shown" s_StepCheck_is_shown a_StepCheck_is_shown d_StepCheck_is_shown
  b_StepCheck_is_shown : Binds K d_StepCheck_is_shown ["self", "step"] []
  a_StepCheck_is_set : Addr
  d_StepCheck_is_set : FuncData
  F_StepCheck_is_set : Fun K "is_set" "StepCheck.is_set" s_StepCheck_is_set a_StepCheck_is_set d_StepCheck_is_set
  b_StepCheck_is_set : Binds K d_StepCheck_is_set ["self", "step"] []
  a_StepCheck_is_call : Addr
  d_StepCheck_is_call : FuncData
  F_StepCheck_is_call : Fun K "is_call" "StepCheck.is_call" s_StepCheck_is_call a_StepCheck_is_call d_StepCheck_is_call
  b_StepCheck_is_call : Binds K d_StepCheck_is_call ["self", "step"] []
  a_are_procedures : Addr
  d_are_procedures : FuncData
  F_are_procedures : Fun K "are_procedures" "are_procedures" s_are_procedures a_are_procedures d_are_procedures
  m_are_procedures : mg "are_procedures" = some (.ref a_are_procedures)
  b_are_procedures : Binds K d_are_procedures ["value"] []
  a_Code___init__ : Addr
  d_Code___init__ : FuncData
  F_Code___init__ : Fun K "__init__" "Code.__init__" s_Code___init__ a_Code___init__ d_Code___init__
  b_Code___init__ : Binds K d_Code___init__ ["self", "procedures"] []
  a_need_code : Addr
  d_need_code : FuncData
  F_need_code : Fun K "need_code" "need_code" s_need_code a_need_code d_need_code
  m_need_code : mg "need_code" = some (.ref a_need_code)
  b_need_code : Binds K d_need_code ["value", "part"] []
  a_Needed___init__ : Addr
  cc_Needed___init__ : Addr
  cda_Needed___init__ : Addr
  F_Needed___init__ : SupF K "__init__" "Needed.__init__" s_Needed___init__ a_Needed___init__ cc_Needed___init__ G.Needed file (nf_Needed___init__ cc_Needed___init__ cda_Needed___init__)
  st_Needed___init__ : SupT K G.Needed G.Needed "__init__" a_Paper___init__
  a_joined : Addr
  d_joined : FuncData
  F_joined : Fun K "joined" "joined" s_joined a_joined d_joined
  m_joined : mg "joined" = some (.ref a_joined)
  b_joined : Binds K d_joined ["some", "more"] []
  a_nexts_at : Addr
  d_nexts_at : FuncData
  F_nexts_at : Fun K "nexts_at" "nexts_at" s_nexts_at a_nexts_at d_nexts_at
  m_nexts_at : mg "nexts_at" = some (.ref a_nexts_at)
  b_nexts_at : Binds K d_nexts_at ["steps", "place"] []
  a_behind : Addr
  d_behind : FuncData
  F_behind : Fun K "behind" "behind" s_behind a_behind d_behind
  m_behind : mg "behind" = some (.ref a_behind)
  b_behind : Binds K d_behind ["lots", "steps", "place"] []
  a_wanted : Addr
  d_wanted : FuncData
  F_wanted : Fun K "wanted" "wanted" s_wanted a_wanted d_wanted
  m_wanted : mg "wanted" = some (.ref a_wanted)
  b_wanted : Binds K d_wanted ["step", "found", "lots", "backs"] []
  a_is_closed : Addr
  d_is_closed : FuncData
  F_is_closed : Fun K "is_closed" "is_closed" s_is_closed a_is_closed d_is_closed
  m_is_closed : mg "is_closed" = some (.ref a_is_closed)
  b_is_closed : Binds K d_is_closed ["code", "backs", "lots"] []
  a_is_lot : Addr
  d_is_lot : FuncData
  F_is_lot : Fun K "is_lot" "is_lot" s_is_lot a_is_lot d_is_lot
  m_is_lot : mg "is_lot" = some (.ref a_is_lot)
  b_is_lot : Binds K d_is_lot ["value", "many"] []
  a_shows_needed : Addr
  d_shows_needed : FuncData
  F_shows_needed : Fun K "shows_needed" "shows_needed" s_shows_needed a_shows_needed d_shows_needed
  m_shows_needed : mg "shows_needed" = some (.ref a_shows_needed)
  b_shows_needed : Binds K d_shows_needed ["code", "value"] []
  a__law_pen : Addr
  d__law_pen : FuncData
  F__law_pen : Fun K "_law_pen" "_law_pen" s__law_pen a__law_pen d__law_pen
  m__law_pen : mg "_law_pen" = some (.ref a__law_pen)
  b__law_pen : Binds K d__law_pen ["script"] []
  a__law_draw : Addr
  d__law_draw : FuncData
  F__law_draw : Fun K "_law_draw" "_law_draw" s__law_draw a__law_draw d__law_draw
  m__law_draw : mg "_law_draw" = some (.ref a__law_draw)
  b__law_draw : Binds K d__law_draw ["pen", "many"] []
  a__law_pick : Addr
  d__law_pick : FuncData
  F__law_pick : Fun K "_law_pick" "_law_pick" s__law_pick a__law_pick d__law_pick
  m__law_pick : mg "_law_pick" = some (.ref a__law_pick)
  b__law_pick : Binds K d__law_pick ["pen", "some"] []
  a__law_mixed : Addr
  d__law_mixed : FuncData
  F__law_mixed : Fun K "_law_mixed" "_law_mixed" s__law_mixed a__law_mixed d__law_mixed
  m__law_mixed : mg "_law_mixed" = some (.ref a__law_mixed)
  b__law_mixed : Binds K d__law_mixed ["pen", "some"] []
  a__law_pairs_of : Addr
  d__law_pairs_of : FuncData
  F__law_pairs_of : Fun K "_law_pairs_of" "_law_pairs_of" s__law_pairs_of a__law_pairs_of d__law_pairs_of
  m__law_pairs_of : mg "_law_pairs_of" = some (.ref a__law_pairs_of)
  b__law_pairs_of : Binds K d__law_pairs_of ["pen", "registers"] []
  a__law_set : Addr
  d__law_set : FuncData
  F__law_set : Fun K "_law_set" "_law_set" s__law_set a__law_set d__law_set
  m__law_set : mg "_law_set" = some (.ref a__law_set)
  b__law_set : Binds K d__law_set ["pen", "registers"] []
  a__law_sets : Addr
  d__law_sets : FuncData
  F__law_sets : Fun K "_law_sets" "_law_sets" s__law_sets a__law_sets d__law_sets
  m__law_sets : mg "_law_sets" = some (.ref a__law_sets)
  b__law_sets : Binds K d__law_sets ["pen", "registers", "most"] []
  a__law_shown : Addr
  d__law_shown : FuncData
  F__law_shown : Fun K "_law_shown" "_law_shown" s__law_shown a__law_shown d__law_shown
  m__law_shown : mg "_law_shown" = some (.ref a__law_shown)
  b__law_shown : Binds K d__law_shown ["pen", "registers"] []
  a__law_procedure : Addr
  d__law_procedure : FuncData
  F__law_procedure : Fun K "_law_procedure" "_law_procedure" s__law_procedure a__law_procedure d__law_procedure
  m__law_procedure : mg "_law_procedure" = some (.ref a__law_procedure)
  b__law_procedure : Binds K d__law_procedure ["pen", "word", "handed", "back", "registers", "callees"] []
  a__law_plain : Addr
  d__law_plain : FuncData
  F__law_plain : Fun K "_law_plain" "_law_plain" s__law_plain a__law_plain d__law_plain
  m__law_plain : mg "_law_plain" = some (.ref a__law_plain)
  b__law_plain : Binds K d__law_plain ["pen", "procedures"] []
  a__law_made : Addr
  d__law_made : FuncData
  F__law_made : Fun K "_law_made" "_law_made" s__law_made a__law_made d__law_made
  m__law_made : mg "_law_made" = some (.ref a__law_made)
  b__law_made : Binds K d__law_made ["plain"] []
  a__law_nexts : Addr
  d__law_nexts : FuncData
  F__law_nexts : Fun K "_law_nexts" "_law_nexts" s__law_nexts a__law_nexts d__law_nexts
  m__law_nexts : mg "_law_nexts" = some (.ref a__law_nexts)
  b__law_nexts : Binds K d__law_nexts ["steps", "place"] []
  a__law_lot : Addr
  d__law_lot : FuncData
  F__law_lot : Fun K "_law_lot" "_law_lot" s__law_lot a__law_lot d__law_lot
  m__law_lot : mg "_law_lot" = some (.ref a__law_lot)
  b__law_lot : Binds K d__law_lot ["plain", "lots", "backs", "number", "place"] []
  a__law_least_lots : Addr
  d__law_least_lots : FuncData
  F__law_least_lots : Fun K "_law_least_lots" "_law_least_lots" s__law_least_lots a__law_least_lots d__law_least_lots
  m__law_least_lots : mg "_law_least_lots" = some (.ref a__law_least_lots)
  b__law_least_lots : Binds K d__law_least_lots ["plain"] []
  a__law_is_closed : Addr
  d__law_is_closed : FuncData
  F__law_is_closed : Fun K "_law_is_closed" "_law_is_closed" s__law_is_closed a__law_is_closed d__law_is_closed
  m__law_is_closed : mg "_law_is_closed" = some (.ref a__law_is_closed)
  b__law_is_closed : Binds K d__law_is_closed ["plain", "backs", "lots"] []
  a_law : Addr
  d_law : FuncData
  F_law : Fun K "law" "law" s_law a_law d_law
  m_law : mg "law" = some (.ref a_law)
  b_law : Binds K d_law ["script"] []
  m_Paper : mg "Paper" = some (.ref G.Paper)
  cl_Paper : Cls K G.Paper
  mk_Paper : Mk K G.Paper a_Paper___init__
  m_StepCheck : mg "StepCheck" = some (.ref G.StepCheck)
  cl_StepCheck : Cls K G.StepCheck
  mk_StepCheck : Mk K G.StepCheck a_StepCheck___init__
  mt_StepCheck_is_fine : Meth K G.StepCheck "is_fine" a_StepCheck_is_fine
  mt_StepCheck_is_place : Meth K G.StepCheck "is_place" a_StepCheck_is_place
  mt_StepCheck_are_registers : Meth K G.StepCheck "are_registers" a_StepCheck_are_registers
  mt_StepCheck_is_shown : Meth K G.StepCheck "is_shown" a_StepCheck_is_shown
  mt_StepCheck_is_set : Meth K G.StepCheck "is_set" a_StepCheck_is_set
  mt_StepCheck_is_call : Meth K G.StepCheck "is_call" a_StepCheck_is_call
  m_Code : mg "Code" = some (.ref G.Code)
  cl_Code : Cls K G.Code
  mk_Code : Mk K G.Code a_Code___init__
  m_Needed : mg "Needed" = some (.ref G.Needed)
  cl_Needed : Cls K G.Needed
  mk_Needed : Mk K G.Needed a_Needed___init__
  na_Code_inputs : NoAttr K G.Code "inputs"
  na_Code_procedures : NoAttr K G.Code "procedures"
  na_Needed_backs : NoAttr K G.Needed "backs"
  na_Needed_lots : NoAttr K G.Needed "lots"
  na_Needed_parts : NoAttr K G.Needed "parts"
  na_Needed_word : NoAttr K G.Needed "word"
  na_Paper_parts : NoAttr K G.Paper "parts"
  na_Paper_word : NoAttr K G.Paper "word"
  na_StepCheck_back : NoAttr K G.StepCheck "back"
  na_StepCheck_places : NoAttr K G.StepCheck "places"
  na_StepCheck_procedures : NoAttr K G.StepCheck "procedures"
  na_StepCheck_registers : NoAttr K G.StepCheck "registers"
  an_Code : AnOk K (an_Code G) (.ref G.Code)
  an_Needed : AnOk K (an_Needed G) (.ref G.Needed)
  g_BACK : GcS K mg "BACK" "back"
  g_CALL : GcS K mg "CALL" "call"
  g_DEED : GcS K mg "DEED" "deed"
  g_FIGURES : GcS K mg "FIGURES" "0123456789"
  g_GO : GcS K mg "GO" "go"
  g_LAST : GcT K mg "LAST" [.str "go", .str "test", .str "back"]
  g_MOST_HANDED : GcI K mg "MOST_HANDED" 3
  g_MOST_MULTIPLE : GcI K mg "MOST_MULTIPLE" 1000
  g_MOST_PROCEDURES : GcI K mg "MOST_PROCEDURES" 4
  g_MOST_REGISTERS : GcI K mg "MOST_REGISTERS" 8
  g_MOST_SHOWN : GcI K mg "MOST_SHOWN" 4
  g_MOST_STEPS : GcI K mg "MOST_STEPS" 60
  g_SET : GcS K mg "SET" "set"
  g_SMALL : GcS K mg "SMALL" "abcdefghijklmnopqrstuvwxyz"
  g_TEST : GcS K mg "TEST" "test"
  z_abs : mg "abs" = none
  z_all : mg "all" = none
  z_bool : mg "bool" = none
  z_enumerate : mg "enumerate" = none
  z_int : mg "int" = none
  z_isinstance : mg "isinstance" = none
  z_len : mg "len" = none
  z_list : mg "list" = none
  z_max : mg "max" = none
  z_min : mg "min" = none
  z_range : mg "range" = none
  z_repr : mg "repr" = none
  z_set : mg "set" = none
  z_sorted : mg "sorted" = none
  z_str : mg "str" = none
  z_tuple : mg "tuple" = none
  z_zip : mg "zip" = none
end K65
namespace K65
open PySem PySem.Spec L2 StX PyProof.Rows DL NdefX
def b__law_pen : DS :=
    (dRet (dLst (dCons (dCB fList (dCons (dSlA (dVar 0) dNoPart (dPart (dC (.int 63)))) dNil)) (dCons (dC (.int 0)) (dCons (dC (.int 0)) dNil)))))
theorem l__law_pen : ∀ xs μ Q, c__law_pen xs μ Q → xs.length = 1 := l_pen
theorem r__law_pen : ∀ xs μ Q, c__law_pen xs μ Q → b__law_pen (spEnds Q) (startD ["script"] xs) μ := by
  intro xs μ Q ⟨ns, e, hn, q⟩
  subst e
  have e : DL.cutD (ns.map Vl.int) none (some 63) = ns.map Vl.int := by
    unfold DL.cutD
    rw [HT.sIx_none, show (63 : Int) = ((63 : Nat) : Int) from rfl, HT.sIx_nat, List.drop_zero, Nat.sub_zero]
    exact List.take_of_length_le (by rw [List.length_map]; omega)
  have hsl := sizeLine_eq
  refine ⟨_, rfl, .inl ?_⟩
  rw [e]
  refine ⟨_, ns.map .int, rfl, rfl, .inl ?_⟩
  exact ⟨by show 3 ≤ _; omega, .inr q⟩
def B__law_procedure : DS :=
    (dSeq (dAsg (dCall c__law_sets (dCons (dVar 0) (dCons (dVar 4) (dCons (dC (.int 2)) dNil)))) (dgName 6))
    (dSeq (dIf (dTest (dOp dEq (dCall c__law_draw (dCons (dVar 0) (dCons (dC (.int 3)) dNil))) (dC (.int 0)))) (dDrop (dBM mAppend (dVar 6) (dCons (dTup (dCons (dC (.str "deed")) (dCons (dCall c__law_pick (dCons (dVar 0) (dCons (dLst (dCons (dC (.str "d")) (dCons (dC (.str "e")) dNil))) dNil))) (dCons (dCall c__law_shown (dCons (dVar 0) (dCons (dVar 4) dNil))) dNil)))) dNil))) dNext)
    (dSeq (dAsg (dCB fLen (dCons (dVar 6) dNil)) (dgName 7))
    (dSeq (dDrop (dBM mAppend (dVar 6) (dCons (dC .non) dNil)))
    (dSeq (dAsg (dCB fLen (dCons (dVar 6) dNil)) (dgName 8))
    (dSeq (dAsg (dOp dAdd (dVar 6) (dCall c__law_sets (dCons (dVar 0) (dCons (dVar 4) (dCons (dC (.int 2)) dNil))))) (dgName 6))
    (dSeq (dIf (dAndT (dTest (dOp dNe (dVar 5) (dLst dNil))) (dTest (dOp dGt (dCall c__law_draw (dCons (dVar 0) (dCons (dC (.int 4)) dNil))) (dC (.int 0))))) (dSeq (dAsg (dCall c__law_pick (dCons (dVar 0) (dCons (dVar 5) dNil))) (dgTup 3 (dgCons (dgName 9) (dgCons (dgName 10) (dgCons (dgName 11) dgNil)))))
    (dSeq (dAsg (dCB fTuple (dCons (dSlA (dCall c__law_mixed (dCons (dVar 0) (dCons (dListRg (dVar 4)) dNil))) dNoPart (dPart (dVar 11))) dNil)) (dgName 12))
    (dDrop (dBM mAppend (dVar 6) (dCons (dTup (dCons (dC (.str "call")) (dCons (dVar 9) (dCons (dCB fTuple (dCons (dLc (dRange1 (dCons (dVar 10) dNil)) (dgName 14) dYes (dCall c__law_draw (dCons (dVar 0) (dCons (dVar 4) dNil))) [14]) dNil)) (dCons (dVar 12) dNil))))) dNil))))) dNext)
    (dSeq (dAsg (dOp dAdd (dVar 6) (dCall c__law_sets (dCons (dVar 0) (dCons (dVar 4) (dCons (dC (.int 1)) dNil))))) (dgName 6))
    (dSeq (dDrop (dBM mAppend (dVar 6) (dCons (dIfE (dTest (dOp dEq (dCall c__law_draw (dCons (dVar 0) (dCons (dC (.int 3)) dNil))) (dC (.int 0)))) (dTup (dCons (dC (.str "go")) (dCons (dVar 7) dNil))) (dTup (dCons (dC (.str "back")) (dCons (dCB fTuple (dCons (dLc (dRange1 (dCons (dVar 3) dNil)) (dgName 14) dYes (dCall c__law_draw (dCons (dVar 0) (dCons (dVar 4) dNil))) [14]) dNil)) dNil)))) dNil)))
    (dSeq (dAsg (dCB fLen (dCons (dVar 6) dNil)) (dgName 13))
    (dSeq (dAsg (dOp dAdd (dOp dAdd (dVar 6) (dCall c__law_sets (dCons (dVar 0) (dCons (dVar 4) (dCons (dC (.int 1)) dNil))))) (dLst (dCons (dTup (dCons (dC (.str "back")) (dCons (dCB fTuple (dCons (dLc (dRange1 (dCons (dVar 3) dNil)) (dgName 14) dYes (dCall c__law_draw (dCons (dVar 0) (dCons (dVar 4) dNil))) [14]) dNil)) dNil))) dNil))) (dgName 6))
    (dSeq (dAsg (dTup (dCons (dC (.str "test")) (dCons (dCall c__law_pick (dCons (dVar 0) (dCons (dLst (dCons (dC (.str "t")) (dCons (dC (.str "t")) (dCons (dC (.str "u")) dNil)))) dNil))) (dCons (dCall c__law_shown (dCons (dVar 0) (dCons (dVar 4) dNil))) (dCons (dVar 8) (dCons (dVar 13) dNil)))))) (dgIx (dVar 6) (dVar 7)))
    (dRet (dTup (dCons (dVar 1) (dCons (dVar 2) (dCons (dVar 3) (dCons (dVar 4) (dCons (dCB fTuple (dCons (dVar 6) dNil)) dNil)))))))))))))))))))
def B__law_plain : DS :=
    (dSeq (dAsg (dOp dAdd (dC (.int 1)) (dCall c__law_draw (dCons (dVar 0) (dCons (dVar 1) dNil)))) (dgName 2))
    (dSeq (dAsg (dLc (dRange1 (dCons (dVar 2) dNil)) (dgName 7) dYes (dTup (dCons (dCall c__law_draw (dCons (dVar 0) (dCons (dC (.int 3)) dNil))) (dCons (dCall c__law_pick (dCons (dVar 0) (dCons (dLst (dCons (dC (.int 1)) (dCons (dC (.int 1)) (dCons (dC (.int 0)) (dCons (dC (.int 2)) dNil))))) dNil))) dNil))) [7]) (dgName 3))
    (dSeq (dIf (dTest (dOp dEq (dCall c__law_draw (dCons (dVar 0) (dCons (dC (.int 6)) dNil))) (dC (.int 0)))) (dSeq (dAsg (dLc (dRange1 (dCons (dCB fMin2 (dCons (dVar 2) (dCons (dC (.int 2)) dNil))) dNil)) (dgName 7) dYes (dTup (dCons (dCall c__law_pick (dCons (dVar 0) (dCons (dLst (dCons (dC (.int 2)) (dCons (dC (.int 3)) (dCons (dC (.int 3)) dNil)))) dNil))) (dCons (dCall c__law_pick (dCons (dVar 0) (dCons (dLst (dCons (dC (.int 1)) (dCons (dC (.int 2)) (dCons (dC (.int 3)) (dCons (dC (.int 3)) dNil))))) dNil))) dNil))) [7]) (dgName 3))
    (dAsg (dCB fLen (dCons (dVar 3) dNil)) (dgName 2))) dNext)
    (dSeq (dAsg (dLc (dIter (dVar 3)) (dgTup 2 (dgCons (dgName 9) (dgCons (dgName 10) dgNil))) dYes (dCB fMin2 (dCons (dC (.int 3)) (dCons (dOp dAdd (dCB fMax3 (dCons (dC (.int 1)) (dCons (dVar 9) (dCons (dVar 10) dNil)))) (dCall c__law_draw (dCons (dVar 0) (dCons (dC (.int 2)) dNil)))) dNil))) [9, 10]) (dgName 4))
    (dSeq (dAsg (dLc (dRange2 (dCons (dC (.int 1)) (dCons (dVar 2) dNil))) (dgName 7) dYes (dTup (dCons (dVar 7) (dCons (dOp dIx (dOp dIx (dVar 3) (dVar 7)) (dC (.int 0))) (dCons (dOp dIx (dOp dIx (dVar 3) (dVar 7)) (dC (.int 1))) dNil)))) [7]) (dgName 5))
    (dSeq (dAsg (dLst dNil) (dgName 6))
    (dSeq (dFor (dRange1 (dCons (dVar 2) dNil)) (dgName 7) (dSeq (dAsg (dLc (dIter (dVar 5)) (dgName 11) (dTest (dOp dLe (dOp dIx (dVar 11) (dC (.int 2))) (dOp dIx (dVar 4) (dVar 7)))) (dVar 11) [11]) (dgName 8))
    (dDrop (dBM mAppend (dVar 6) (dCons (dCall c__law_procedure (dCons (dVar 0) (dCons (dOp dIx (dLst (dCons (dC (.str "main")) (dCons (dC (.str "f")) (dCons (dC (.str "g")) (dCons (dC (.str "h")) dNil))))) (dVar 7)) (dCons (dOp dIx (dOp dIx (dVar 3) (dVar 7)) (dC (.int 0))) (dCons (dOp dIx (dOp dIx (dVar 3) (dVar 7)) (dC (.int 1))) (dCons (dOp dIx (dVar 4) (dVar 7)) (dCons (dVar 8) dNil))))))) dNil)))))
    (dRet (dCB fTuple (dCons (dVar 6) dNil))))))))))
def B__law_lot : DS :=
    (dSeq (dAsg (dOp dIx (dOp dIx (dVar 0) (dVar 3)) (dC (.int 4))) (dgName 5))
    (dSeq (dAsg (dTup (dCons (dOp dIx (dVar 5) (dVar 4)) (dCons (dLst dNil) dNil))) (dgTup 2 (dgCons (dgName 6) (dgCons (dgName 7) dgNil))))
    (dSeq (dFor (dIter (dCall c__law_nexts (dCons (dVar 5) (dCons (dVar 4) dNil)))) (dgName 8) (dAsg (dOp dAdd (dVar 7) (dOp dIx (dOp dIx (dVar 1) (dVar 3)) (dVar 8))) (dgName 7)))
    (dSeq (dIf (dTest (dOp dEq (dOp dIx (dVar 6) (dC (.int 0))) (dC (.str "set")))) (dAsg (dIfE (dTest (dOp (dInS true) (dOp dIx (dVar 6) (dC (.int 1))) (dVar 7))) (dVar 7) (dOp dAdd (dLc (dIter (dVar 7)) (dgName 8) (dTest (dOp dNe (dVar 8) (dOp dIx (dVar 6) (dC (.int 1))))) (dVar 8) [8]) (dLc (dIter (dOp dIx (dVar 6) (dC (.int 3)))) (dgName 9) dYes (dOp dIx (dVar 9) (dC (.int 0))) [9]))) (dgName 7)) (dIf (dTest (dOp (dInS false) (dOp dIx (dVar 6) (dC (.int 0))) (dTup (dCons (dC (.str "test")) (dCons (dC (.str "deed")) dNil))))) (dAsg (dOp dAdd (dVar 7) (dCB fList (dCons (dOp dIx (dVar 6) (dC (.int 2))) dNil))) (dgName 7)) (dIf (dTest (dOp dEq (dOp dIx (dVar 6) (dC (.int 0))) (dC (.str "call")))) (dAsg (dOp dAdd (dLc (dIter (dVar 7)) (dgName 8) (dTest (dOp (dInS true) (dVar 8) (dOp dIx (dVar 6) (dC (.int 3))))) (dVar 8) [8]) (dLc (dEnum (dCons (dOp dIx (dVar 6) (dC (.int 2))) dNil)) (dgTup 2 (dgCons (dgName 10) (dgCons (dgName 8) dgNil))) (dTest (dOp (dInS false) (dVar 10) (dOp dIx (dOp dIx (dVar 1) (dOp dIx (dVar 6) (dC (.int 1)))) (dC (.int 0))))) (dVar 8) [10, 8])) (dgName 7)) (dIf (dTest (dOp dEq (dOp dIx (dVar 6) (dC (.int 0))) (dC (.str "back")))) (dAsg (dLc (dIter (dOp dIx (dVar 2) (dVar 3))) (dgName 10) dYes (dOp dIx (dOp dIx (dVar 6) (dC (.int 1))) (dVar 10)) [10]) (dgName 7)) dNext))))
    (dRet (dCB fSortedSet (dCons (dVar 7) dNil)))))))
def B__law_least_lots : DS :=
    (dSeq (dAsg (dLc (dIter (dVar 0)) (dgName 6) dYes (dLc (dIter (dOp dIx (dVar 6) (dC (.int 4)))) (dgName 8) dYes (dLst dNil) [8]) [6]) (dgName 1))
    (dSeq (dAsg (dLc (dEnum (dCons (dVar 0) dNil)) (dgTup 2 (dgCons (dgName 10) (dgCons (dgName 6) dgNil))) dYes (dIfE (dTest (dOp dEq (dVar 10) (dC (.int 0)))) (dListRg (dOp dIx (dVar 6) (dC (.int 2)))) (dLst dNil)) [10, 6]) (dgName 2))
    (dSeq (dFor (dRange1 (dCons (dC (.int 400)) dNil)) (dgName 3) (dSeq (dAsg (dCB fReprD (dCons (dLst (dCons (dVar 1) (dCons (dVar 2) dNil))) dNil)) (dgName 4))
    (dSeq (dFor (dEnum (dCons (dVar 0) dNil)) (dgTup 2 (dgCons (dgName 5) (dgCons (dgName 6) dgNil))) (dFor (dEnum (dCons (dOp dIx (dVar 6) (dC (.int 4))) dNil)) (dgTup 2 (dgCons (dgName 7) (dgCons (dgName 8) dgNil))) (dSeq (dAsg (dCall c__law_lot (dCons (dVar 0) (dCons (dVar 1) (dCons (dVar 2) (dCons (dVar 5) (dCons (dVar 7) dNil)))))) (dgIx (dOp dIx (dVar 1) (dVar 5)) (dVar 7)))
    (dIf (dTest (dOp dEq (dOp dIx (dVar 8) (dC (.int 0))) (dC (.str "call")))) (dSeq (dAsg (dOp dIx (dOp dIx (dVar 1) (dVar 5)) (dOp dAdd (dVar 7) (dC (.int 1)))) (dgName 9))
    (dAsg (dCB fSortedSet (dCons (dOp dAdd (dOp dIx (dVar 2) (dOp dIx (dVar 8) (dC (.int 1)))) (dLc (dEnum (dCons (dOp dIx (dVar 8) (dC (.int 3))) dNil)) (dgTup 2 (dgCons (dgName 10) (dgCons (dgName 11) dgNil))) (dTest (dOp (dInS false) (dVar 11) (dVar 9))) (dVar 10) [10, 11])) dNil)) (dgIx (dVar 2) (dOp dIx (dVar 8) (dC (.int 1)))))) dNext))))
    (dIf (dTest (dOp dEq (dCB fReprD (dCons (dLst (dCons (dVar 1) (dCons (dVar 2) dNil))) dNil)) (dVar 4))) dBreak dNext))))
    (dRet (dTup (dCons (dVar 2) (dCons (dVar 1) dNil)))))))
def B_law (G : Cs) : DS :=
    (dSeq (dAsg (dCall c__law_pen (dCons (dVar 0) dNil)) (dgName 1))
    (dSeq (dFor (dRange1 (dCons (dC (.int 3)) dNil)) (dgName 2) (dSeq (dAsg (dCall c__law_plain (dCons (dVar 1) (dCons (dC (.int 3)) dNil))) (dgName 3))
    (dSeq (dAsg (dTup (dCons (dCall (c__law_made G) (dCons (dVar 3) dNil)) (dCons (dCB fLen (dCons (dVar 3) dNil)) dNil))) (dgTup 2 (dgCons (dgName 4) (dgCons (dgName 5) dgNil))))
    (dSeq (dFor (dRange1 (dCons (dC (.int 8)) dNil)) (dgName 6) (dSeq (dAsg (dCall c__law_least_lots (dCons (dVar 3) dNil)) (dgTup 2 (dgCons (dgName 7) (dgCons (dgName 8) dgNil))))
    (dSeq (dIf (dTest (dOp dGt (dVar 6) (dC (.int 3)))) (dSeq (dAsg (dLc (dEnum (dCons (dVar 7) dNil)) (dgTup 2 (dgCons (dgName 19) (dgCons (dgName 20) dgNil))) dYes (dCB fSortedSet (dCons (dOp dAdd (dVar 20) (dLc (dRange1 (dCons (dOp dIx (dOp dIx (dVar 3) (dVar 19)) (dC (.int 2))) dNil)) (dgName 21) (dTest (dOp dEq (dCall c__law_draw (dCons (dVar 1) (dCons (dC (.int 2)) dNil))) (dC (.int 0)))) (dVar 21) [21])) dNil)) [19, 20]) (dgName 7))
    (dAsg (dLc (dEnum (dCons (dVar 8) dNil)) (dgTup 2 (dgCons (dgName 19) (dgCons (dgName 20) dgNil))) dYes (dLc (dIter (dVar 20)) (dgName 12) dYes (dIfE (dTest (dOp dEq (dCall c__law_draw (dCons (dVar 1) (dCons (dC (.int 2)) dNil))) (dC (.int 0)))) (dListRg (dOp dIx (dOp dIx (dVar 3) (dVar 19)) (dC (.int 3)))) (dVar 12)) [12]) [19, 20]) (dgName 8))) dNext)
    (dSeq (dPar 9 10 (dCons (dCall c__law_draw (dCons (dVar 1) (dCons (dVar 5) dNil))) (dCons (dCall c__law_draw (dCons (dVar 1) (dCons (dC (.int 4)) dNil))) dNil)))
    (dSeq (dAsg (dCall c__law_draw (dCons (dVar 1) (dCons (dCB fLen (dCons (dOp dIx (dVar 8) (dVar 9)) dNil)) dNil))) (dgName 11))
    (dSeq (dAsg (dOp dIx (dOp dIx (dVar 8) (dVar 9)) (dVar 11)) (dgName 12))
    (dSeq (dIf (dAndT (dTest (dOp dEq (dVar 10) (dC (.int 0)))) (dTest (dOp dNe (dVar 12) (dLst dNil)))) (dAsg (dSlA (dVar 12) dNoPart (dPart (dNeg (dC (.int 1))))) (dgIx (dOp dIx (dVar 8) (dVar 9)) (dVar 11))) (dIf (dAndT (dTest (dOp dEq (dVar 10) (dC (.int 1)))) (dTest (dOp dLt (dCB fLen (dCons (dVar 12) dNil)) (dOp dIx (dOp dIx (dVar 3) (dVar 9)) (dC (.int 3)))))) (dAsg (dCB fSortedI (dCons (dOp dAdd (dVar 12) (dLst (dCons (dOp dIx (dLc (dRange1 (dCons (dOp dIx (dOp dIx (dVar 3) (dVar 9)) (dC (.int 3))) dNil)) (dgName 22) (dTest (dOp (dInS true) (dVar 22) (dVar 12))) (dVar 22) [22]) (dC (.int 0))) dNil))) dNil)) (dgIx (dOp dIx (dVar 8) (dVar 9)) (dVar 11))) (dIf (dAndT (dTest (dOp dEq (dVar 10) (dC (.int 2)))) (dTest (dOp dNe (dOp dIx (dVar 7) (dVar 9)) (dLst dNil)))) (dAsg (dSlA (dOp dIx (dVar 7) (dVar 9)) (dPart (dC (.int 1))) dNoPart) (dgIx (dVar 7) (dVar 9))) dNext)))
    (dIf (dTest (dOp dNe (dCB fReprD (dCons (dCall (c_shows_needed G) (dCons (dVar 4) (dCons (dMake G.Needed ((c_Needed___init__ G)) (dCons (dVar 7) (dCons (dVar 8) dNil))) dNil))) dNil)) (dCB fReprD (dCons (dCall c__law_is_closed (dCons (dVar 3) (dCons (dVar 7) (dCons (dVar 8) dNil)))) dNil)))) (dRet (dC (.bl false))) dNext))))))))
    (dSeq (dAsg (dCall c__law_least_lots (dCons (dVar 3) dNil)) (dgTup 2 (dgCons (dgName 7) (dgCons (dgName 8) dgNil))))
    (dSeq (dAsg (dLc (dIter (dVar 3)) (dgName 17) dYes (dLc (dIter (dOp dIx (dVar 17) (dC (.int 4)))) (dgName 18) dYes (dListRg (dOp dIx (dVar 17) (dC (.int 3)))) [18]) [17]) (dgName 13))
    (dSeq (dAsg (dLc (dIter (dVar 3)) (dgName 17) dYes (dListRg (dOp dIx (dVar 17) (dC (.int 2)))) [17]) (dgName 14))
    (dSeq (dAsg (dCall c__law_pick (dCons (dVar 1) (dCons (dLst (dCons (dLst (dCons (dC (.int 1)) (dCons (dC (.int 0)) dNil))) (dCons (dLst (dCons (dC (.int 0)) (dCons (dC (.int 0)) dNil))) (dCons (dLst (dCons (dNeg (dC (.int 1))) dNil)) (dCons (dLst (dCons (dC (.int 9)) dNil)) (dCons (dLst (dCons (dC (.bl true)) dNil)) (dCons (dLst (dCons (dC .non) dNil)) (dCons (dLst (dCons (dC (.str "0")) dNil)) (dCons (dC .non) (dCons (dC (.int 5)) dNil)))))))))) dNil))) (dgName 15))
    (dSeq (dAsg (dLst (dCons (dC .non) (dCons (dC (.int 5)) (dCons (dTup dNil) (dCons (dMake G.Needed ((c_Needed___init__ G)) (dCons (dC .non) (dCons (dVar 13) dNil))) (dCons (dMake G.Needed ((c_Needed___init__ G)) (dCons (dVar 14) (dCons (dC .non) dNil))) (dCons (dMake G.Needed ((c_Needed___init__ G)) (dCons (dOp dAdd (dVar 14) (dLst (dCons (dLst dNil) dNil))) (dCons (dVar 13) dNil))) (dCons (dMake G.Needed ((c_Needed___init__ G)) (dCons (dVar 14) (dCons (dOp dAdd (dVar 13) (dLst (dCons (dLst dNil) dNil))) dNil))) (dCons (dMake G.Needed ((c_Needed___init__ G)) (dCons (dVar 14) (dCons (dSlA (dVar 13) (dPart (dC (.int 1))) dNoPart) dNil))) (dCons (dMake G.Paper (c_Paper___init__ G.Paper) (dCons (dC (.str "needed")) (dCons (dVar 14) (dCons (dVar 13) dNil)))) dNil)))))))))) (dgName 16))
    (dSeq (dDrop (dBM mAppend (dVar 16) (dCons (dMake G.Needed ((c_Needed___init__ G)) (dCons (dOp dAdd (dLst (dCons (dVar 15) dNil)) (dSlA (dVar 14) (dPart (dC (.int 1))) dNoPart)) (dCons (dVar 13) dNil))) dNil)))
    (dSeq (dAsg (dOp dAdd (dVar 16) (dLst (dCons (dMake G.Needed ((c_Needed___init__ G)) (dCons (dVar 14) (dCons (dOp dAdd (dLst (dCons (dOp dAdd (dLst (dCons (dVar 15) dNil)) (dSlA (dOp dIx (dVar 13) (dC (.int 0))) (dPart (dC (.int 1))) dNoPart)) dNil)) (dSlA (dVar 13) (dPart (dC (.int 1))) dNoPart)) dNil))) (dCons (dMake G.Needed ((c_Needed___init__ G)) (dCons (dVar 14) (dCons (dOp dAdd (dLst (dCons (dSlA (dOp dIx (dVar 13) (dC (.int 0))) (dPart (dC (.int 1))) dNoPart) dNil)) (dSlA (dVar 13) (dPart (dC (.int 1))) dNoPart)) dNil))) (dCons (dMake G.Needed ((c_Needed___init__ G)) (dCons (dVar 14) (dCons (dOp dAdd (dLst (dCons (dOp dAdd (dOp dIx (dVar 13) (dC (.int 0))) (dLst (dCons (dLst dNil) dNil))) dNil)) (dSlA (dVar 13) (dPart (dC (.int 1))) dNoPart)) dNil))) (dCons (dMake G.Needed ((c_Needed___init__ G)) (dCons (dVar 14) (dCons (dOp dAdd (dLst (dCons (dC .non) dNil)) (dSlA (dVar 13) (dPart (dC (.int 1))) dNoPart)) dNil))) dNil)))))) (dgName 16))
    (dIf (dOrT (dTest (dOp dNe (dLc (dIter (dVar 16)) (dgName 17) (dTest (dOp (dIsB true) (dCall (c_shows_needed G) (dCons (dVar 4) (dCons (dVar 17) dNil))) (dC (.bl false)))) (dVar 17) [17]) (dLst dNil))) (dTest (dOp (dIsB true) (dCall (c_shows_needed G) (dCons (dVar 4) (dCons (dMake G.Needed ((c_Needed___init__ G)) (dCons (dVar 14) (dCons (dVar 13) dNil))) dNil))) (dC (.bl true))))) (dRet (dC (.bl false))) dNext))))))))))))
    (dRet (dC (.bl true)))))
section
variable {P : Program} {w : World} {K : PySem.W.Frag} {mg : Str → Option Value} {base : Heap}
set_option maxHeartbeats 2000000 in
theorem ok_is_integer (T : Tx K mg) (SM : SupM P K mg T.file) : FnG P w K mg base 1 T.a_is_integer T.d_is_integer ["value"] c_is_integer := by
  have SC := sc_is_integer
  exact Fun.okP (k := 0) (ds := b_is_integer) T.F_is_integer sc_is_integer l_is_integer (fun cdv A outer s H hr am => ⟨_, (qss_one (qs_ret (q_and (q_isi (.ty "int") (anT_ok (by decide)) T.z_isinstance (qa_cons (qv 0) (qa_cons (q_ty T.z_int (by decide +kernel)) qa_nil))) (q_one (q_not (q_isi (.ty "bool") (anT_ok (by decide)) T.z_isinstance (qa_cons (qv 0) (qa_cons (q_ty T.z_bool (by decide +kernel)) qa_nil))))))))⟩) r_is_integer
set_option maxHeartbeats 2000000 in
theorem ok_is_within (T : Tx K mg) (SM : SupM P K mg T.file) : FnG P w K mg base 2 T.a_is_within T.d_is_within ["value", "least", "most"] c_is_within := by
  have SC := sc_is_within
  have F_is_integer := (ok_is_integer (P := P) (w := w) (base := base) T SM).mono (k := 1) (by decide)
  exact Fun.okP (k := 1) (ds := b_is_within) T.F_is_within sc_is_within l_is_within (fun cdv A outer s H hr am => ⟨_, (qss_one (qs_ret (q_and (q_call F_is_integer am hr T.m_is_integer T.F_is_integer.kp T.b_is_integer (qa_cons (qv 0) qa_nil)) (q_one (q_chain op_le sim_le op_le sim_le (qv 1) (qv 0) (qv 2))))))⟩) r_is_within
set_option maxHeartbeats 2000000 in
theorem ok_is_listed (T : Tx K mg) (SM : SupM P K mg T.file) : FnG P w K mg base 1 T.a_is_listed T.d_is_listed ["value"] c_is_listed := by
  have SC := sc_is_listed
  exact Fun.okP (k := 0) (ds := b_is_listed) T.F_is_listed sc_is_listed l_is_listed (fun cdv A outer s H hr am => ⟨_, (qss_one (qs_ret (q_isi2 (n1 := "list") (n2 := "tuple") (by decide) (by decide) T.z_isinstance T.z_list T.z_tuple (by decide +kernel) (by decide +kernel) (qv 0))))⟩) r_is_listed
set_option maxHeartbeats 2000000 in
theorem ok_is_row (T : Tx K mg) (SM : SupM P K mg T.file) : FnG P w K mg base 2 T.a_is_row T.d_is_row ["value", "least", "most"] c_is_row := by
  have SC := sc_is_row
  have F_is_listed := (ok_is_listed (P := P) (w := w) (base := base) T SM).mono (k := 1) (by decide)
  exact Fun.okP (k := 1) (ds := b_is_row) T.F_is_row sc_is_row l_is_row (fun cdv A outer s H hr am => ⟨_, (qss_one (qs_ret (q_and (q_call F_is_listed am hr T.m_is_listed T.F_is_listed.kp T.b_is_listed (qa_cons (qv 0) qa_nil)) (q_one (q_chain op_le sim_le op_le sim_le (qv 1) (q_len T.z_len (qa_cons (qv 0) qa_nil)) (qv 2))))))⟩) r_is_row
set_option maxHeartbeats 2000000 in
theorem ok_is_ascending (T : Tx K mg) (SM : SupM P K mg T.file) : FnG P w K mg base 1 T.a_is_ascending T.d_is_ascending ["rows"] c_is_ascending := by
  have SC := sc_is_ascending
  exact Fun.okP (k := 0) (ds := b_is_ascending) T.F_is_ascending sc_is_ascending l_is_ascending (fun cdv A outer s H hr am => ⟨_, (qss_one (qs_ret (q_all rfl T.z_all (qa_cons (q_lc [("one", 1), ("other", 2)] rfl SC.nd (qi_zip T.z_zip (qa_cons (qv 0) (qa_cons (q_slA (qv 0) (qo_some q_int) qo_none) qa_nil))) (blkOk_by (by kernel_rfl)) (fun _ _ _ _ _ => ⟨_, (qg_tup rfl (qgs_cons (qg_name (i := 1) SC.nd) (qgs_cons (qg_name (i := 2) SC.nd) qgs_nil))), (is_tup (is_cons (is_name (by decide)) (is_cons (is_name (by decide)) is_nil)))⟩) (fun _ _ _ _ _ => ⟨_, qts_nil⟩) (fun _ _ _ _ _ => ⟨_, (q_lt (qv 1) (qv 2))⟩)) qa_nil))))⟩) r_is_ascending
set_option maxHeartbeats 2000000 in
theorem ok_is_name (T : Tx K mg) (SM : SupM P K mg T.file) : FnG P w K mg base 1 T.a_is_name T.d_is_name ["value"] c_is_name := by
  have SC := sc_is_name
  exact Fun.okP (k := 0) (ds := b_is_name) T.F_is_name sc_is_name l_is_name (fun cdv A outer s H hr am => ⟨_, (qss_cons (qs_if ((qw_or (qt_not (qt_val (q_isi (.ty "str") (anT_ok (by decide)) T.z_isinstance (qa_cons (qv 0) (qa_cons (q_ty T.z_str (by decide +kernel)) qa_nil))))) (qw_or (qt_not (qt_chain op_le sim_le op_le sim_le q_int (q_lenS T.z_len (qa_cons (qv 0) qa_nil)) q_int)) (qw_or1 (qt_notinG (q_ixS (qv 0) q_int) (q_gs T.g_SMALL)))))).t (qss_one (qs_ret q_bl)) qss_nil)
    (qss_one (qs_ret (q_all rfl T.z_all (qa_cons (q_lc [("sign", 1)] rfl SC.nd (qi_signs (qv 0)) (blkOk_by (by kernel_rfl)) (fun _ _ _ _ _ => ⟨_, (qg_name (i := 1) SC.nd), (is_name (by decide))⟩) (fun _ _ _ _ _ => ⟨_, qts_nil⟩) (fun _ _ _ _ _ => ⟨_, (q_or (q_inG (qv 1) (q_gs T.g_SMALL)) (q_one (q_inG (qv 1) (q_gs T.g_FIGURES))))⟩)) qa_nil)))))⟩) r_is_name
set_option maxHeartbeats 2000000 in
theorem ok_is_lot_of (T : Tx K mg) (SM : SupM P K mg T.file) : FnG P w K mg base 3 T.a_is_lot_of T.d_is_lot_of ["value", "many"] c_is_lot_of := by
  have SC := sc_is_lot_of
  have F_is_listed := (ok_is_listed (P := P) (w := w) (base := base) T SM).mono (k := 2) (by decide)
  have F_is_within := (ok_is_within (P := P) (w := w) (base := base) T SM).mono (k := 2) (by decide)
  exact Fun.okP (k := 2) (ds := b_is_lot_of) T.F_is_lot_of sc_is_lot_of l_is_lot_of (fun cdv A outer s H hr am => ⟨_, (qss_one (qs_ret (q_and (q_call F_is_listed am hr T.m_is_listed T.F_is_listed.kp T.b_is_listed (qa_cons (qv 0) qa_nil)) (q_one (q_all rfl T.z_all (qa_cons (q_lc [("one", 2)] rfl SC.nd (qi_seq (qv 0)) (blkOk_by (by kernel_rfl)) (fun _ _ _ _ _ => ⟨_, (qg_name (i := 2) SC.nd), (is_name (by decide))⟩) (fun _ _ _ _ _ => ⟨_, qts_nil⟩) (fun _ _ _ _ _ => ⟨_, (q_call F_is_within am hr T.m_is_within T.F_is_within.kp T.b_is_within (qa_cons (qv 2) (qa_cons q_int (qa_cons (q_sub (qv 1) q_int) qa_nil))))⟩)) qa_nil))))))⟩) r_is_lot_of
set_option maxHeartbeats 2000000 in
theorem ok_fixed (T : Tx K mg) (SM : SupM P K mg T.file) : ∀ n : Nat, FnG P w K mg base (n + 1) T.a_fixed T.d_fixed ["value"] (c_fixed (n + 1)) := by
  intro n
  have SC := sc_fixed
  have F_fixed : FnG P w K mg base n T.a_fixed T.d_fixed ["value"] (c_fixed n) := by
    cases n with
    | zero => exact ⟨fun xs μ Q ⟨_, _, _, h, _⟩ => False.elim h, fun A outer s H args us vs Q am hr e0 hb hv hs => (let ⟨_, _, _, _, _, _, ⟨_, _, _, h, _⟩, _⟩ := hs; False.elim h)⟩
    | succ n => exact ok_fixed T SM n
  exact Fun.okP (k := n) (ds := b_fixed (c_fixed n)) T.F_fixed sc_fixed (l_fixed (n + 1)) (fun cdv A outer s H hr am => ⟨_, (qss_cons (qs_if (qt_val (q_isi2 (n1 := "list") (n2 := "tuple") (by decide) (by decide) T.z_isinstance T.z_list T.z_tuple (by decide +kernel) (by decide +kernel) (qv 0))) (qss_one (qs_ret (q_tuple T.z_tuple (qa_cons (q_lc [("part", 1)] rfl SC.nd (qi_seq (qv 0)) (blkOk_by (by kernel_rfl)) (fun _ _ _ _ _ => ⟨_, (qg_name (i := 1) SC.nd), (is_name (by decide))⟩) (fun _ _ _ _ _ => ⟨_, qts_nil⟩) (fun _ _ _ _ _ => ⟨_, (q_call F_fixed am hr T.m_fixed T.F_fixed.kp T.b_fixed (qa_cons (qv 1) qa_nil))⟩)) qa_nil)))) qss_nil)
    (qss_one (qs_ret (qv 0))))⟩) (r_fixed n)
set_option maxHeartbeats 2000000 in
theorem ok_Paper___init__ (T : Tx K mg) (SM : SupM P K mg T.file) {S : Addr} (hS : Cls K S) (na_word : NoAttr K S "word") (na_parts : NoAttr K S "parts") : FnC P w K mg base 10 T.a_Paper___init__ (c_Paper___init__ S) := by
  have SC := sc_Paper___init__
  have F_fixed := (ok_fixed (P := P) (w := w) (base := base) T SM 7).mono (k := 9) (by decide)
  exact Fun.okStar (k := 9) (ds := b_Paper___init__ S) (ps := ["self", "word"]) (pv := "parts") T.F_Paper___init__ sc_Paper___init__ (fun kV doc pm an cdv ct us rest hl => match us, hl, rest with | [_, _], _, [] => rfl | [_, _], _, _ :: _ => rfl) (fun cdv A outer s H hr am => ⟨_, (qss_cons (qs_fld hS na_word (qv 0) (qv 1))
    (qss_one (qs_fld hS na_parts (qv 0) (q_call F_fixed am hr T.m_fixed T.F_fixed.kp T.b_fixed (qa_cons (qv 2) qa_nil)))))⟩) (r_Paper___init__ S)
set_option maxHeartbeats 2000000 in
theorem ok_is_multiple (T : Tx K mg) (SM : SupM P K mg T.file) : FnG P w K mg base 3 T.a_is_multiple T.d_is_multiple ["value"] c_is_multiple := by
  have SC := sc_is_multiple
  have F_is_within := (ok_is_within (P := P) (w := w) (base := base) T SM).mono (k := 2) (by decide)
  exact Fun.okP (k := 2) (ds := b_is_multiple) T.F_is_multiple sc_is_multiple l_is_multiple (fun cdv A outer s H hr am => ⟨_, (qss_one (qs_ret (q_call F_is_within am hr T.m_is_within T.F_is_within.kp T.b_is_within (qa_cons (qv 0) (qa_cons (q_neg (q_gi T.g_MOST_MULTIPLE)) (qa_cons (q_gi T.g_MOST_MULTIPLE) qa_nil))))))⟩) r_is_multiple
set_option maxHeartbeats 2000000 in
theorem ok_is_shape (T : Tx K mg) (SM : SupM P K mg T.file) : FnG P w K mg base 3 T.a_is_shape T.d_is_shape ["value"] c_is_shape := by
  have SC := sc_is_shape
  have F_is_name := (ok_is_name (P := P) (w := w) (base := base) T SM).mono (k := 2) (by decide)
  have F_is_row := (ok_is_row (P := P) (w := w) (base := base) T SM).mono (k := 2) (by decide)
  have F_is_within := (ok_is_within (P := P) (w := w) (base := base) T SM).mono (k := 2) (by decide)
  exact Fun.okP (k := 2) (ds := b_is_shape) T.F_is_shape sc_is_shape l_is_shape (fun cdv A outer s H hr am => ⟨_, (qss_cons (qs_if ((qw_or (qt_not (qt_val (q_call F_is_row am hr T.m_is_row T.F_is_row.kp T.b_is_row (qa_cons (qv 0) (qa_cons q_int (qa_cons q_int qa_nil)))))) (qw_or1 (qt_not (qt_val (q_call F_is_name am hr T.m_is_name T.F_is_name.kp T.b_is_name (qa_cons (q_ix (qv 0) q_int) qa_nil))))))).t (qss_one (qs_ret q_bl)) qss_nil)
    (qss_cons (qs_asg (qv 0) (qg_unl rfl (qgs_cons (qg_name (i := 1) SC.nd) (qgs_cons (qg_name (i := 2) SC.nd) (qgs_cons (qg_name (i := 3) SC.nd) (qgs_cons (qg_name (i := 4) SC.nd) (qgs_cons (qg_name (i := 5) SC.nd) qgs_nil)))))))
    (qss_cons (qs_if ((qw_or (qt_not (qt_val (q_call F_is_within am hr T.m_is_within T.F_is_within.kp T.b_is_within (qa_cons (qv 4) (qa_cons q_int (qa_cons (q_gi T.g_MOST_REGISTERS) qa_nil)))))) (qw_or1 (qt_not (qt_val (q_call F_is_within am hr T.m_is_within T.F_is_within.kp T.b_is_within (qa_cons (qv 2) (qa_cons q_int (qa_cons (q_min2 rfl T.z_min (qa_cons (q_gi T.g_MOST_HANDED) (qa_cons (qv 4) qa_nil))) qa_nil))))))))).t (qss_one (qs_ret q_bl)) qss_nil)
    (qss_one (qs_ret (q_and (q_call F_is_within am hr T.m_is_within T.F_is_within.kp T.b_is_within (qa_cons (qv 3) (qa_cons q_int (qa_cons (q_gi T.g_MOST_HANDED) qa_nil)))) (q_one (q_call F_is_row am hr T.m_is_row T.F_is_row.kp T.b_is_row (qa_cons (qv 5) (qa_cons q_int (qa_cons (q_gi T.g_MOST_STEPS) qa_nil)))))))))))⟩) r_is_shape
set_option maxHeartbeats 2000000 in
theorem ok_StepCheck___init__ (T : Tx K mg) (SM : SupM P K mg T.file) : FnG P w K mg base 1 T.a_StepCheck___init__ T.d_StepCheck___init__ ["self", "procedures", "number"] (c_StepCheck___init__ T.G) := by
  have SC := sc_StepCheck___init__
  exact Fun.okD (k := 0) (ds := (b_StepCheck___init__ T.G)) T.F_StepCheck___init__ sc_StepCheck___init__ (l_StepCheck___init__ T.G) (fun cdv A outer s H hr am => ⟨_, (qss_cons (qs_fld T.cl_StepCheck T.na_StepCheck_procedures (qv 0) (qv 1))
    (qss_cons (qs_fld T.cl_StepCheck T.na_StepCheck_registers (qv 0) (q_ix (q_ix (qv 1) (qv 2)) q_int))
    (qss_cons (qs_fld T.cl_StepCheck T.na_StepCheck_back (qv 0) (q_ix (q_ix (qv 1) (qv 2)) q_int))
    (qss_one (qs_fld T.cl_StepCheck T.na_StepCheck_places (qv 0) (q_len T.z_len (qa_cons (q_ix (q_ix (qv 1) (qv 2)) q_int) qa_nil)))))))⟩) (r_StepCheck___init__ T.G)
set_option maxHeartbeats 2000000 in
theorem ok_StepCheck_are_registers (T : Tx K mg) (SM : SupM P K mg T.file) : FnG P w K mg base 4 T.a_StepCheck_are_registers T.d_StepCheck_are_registers ["self", "value", "least", "most"] (c_StepCheck_are_registers T.G) := by
  have SC := sc_StepCheck_are_registers
  have F_is_lot_of := (ok_is_lot_of (P := P) (w := w) (base := base) T SM).mono (k := 3) (by decide)
  have F_is_row := (ok_is_row (P := P) (w := w) (base := base) T SM).mono (k := 3) (by decide)
  exact Fun.okP (k := 3) (ds := (b_StepCheck_are_registers T.G)) T.F_StepCheck_are_registers sc_StepCheck_are_registers (l_StepCheck_are_registers T.G) (fun cdv A outer s H hr am => ⟨_, (qss_one (qs_ret (q_and (q_call F_is_row am hr T.m_is_row T.F_is_row.kp T.b_is_row (qa_cons (qv 1) (qa_cons (qv 2) (qa_cons (qv 3) qa_nil)))) (q_one (q_call F_is_lot_of am hr T.m_is_lot_of T.F_is_lot_of.kp T.b_is_lot_of (qa_cons (qv 1) (qa_cons (q_fld T.cl_StepCheck T.na_StepCheck_registers (qv 0)) qa_nil)))))))⟩) (r_StepCheck_are_registers T.G)
set_option maxHeartbeats 2000000 in
theorem ok_StepCheck_is_call (T : Tx K mg) (SM : SupM P K mg T.file) : FnG P w K mg base 5 T.a_StepCheck_is_call T.d_StepCheck_is_call ["self", "step"] (c_StepCheck_is_call T.G) := by
  have SC := sc_StepCheck_is_call
  have F_StepCheck_are_registers := (ok_StepCheck_are_registers (P := P) (w := w) (base := base) T SM).mono (k := 4) (by decide)
  have F_is_within := (ok_is_within (P := P) (w := w) (base := base) T SM).mono (k := 4) (by decide)
  exact Fun.okP (k := 4) (ds := (b_StepCheck_is_call T.G)) T.F_StepCheck_is_call sc_StepCheck_is_call (l_StepCheck_is_call T.G) (fun cdv A outer s H hr am => ⟨_, (qss_cons (qs_if (qt_not (qt_val (q_call F_is_within am hr T.m_is_within T.F_is_within.kp T.b_is_within (qa_cons (q_ix (qv 1) q_int) (qa_cons q_int (qa_cons (q_sub (q_len T.z_len (qa_cons (q_fld T.cl_StepCheck T.na_StepCheck_procedures (qv 0)) qa_nil)) q_int) qa_nil)))))) (qss_one (qs_ret q_bl)) qss_nil)
    (qss_cons (qs_asg (q_slA (q_ix (q_fld T.cl_StepCheck T.na_StepCheck_procedures (qv 0)) (q_ix (qv 1) q_int)) (qo_some q_int) (qo_some q_int)) (qg_unl rfl (qgs_cons (qg_name (i := 2) SC.nd) (qgs_cons (qg_name (i := 3) SC.nd) qgs_nil))))
    (qss_cons (qs_if ((qw_or (qt_not (qt_val (q_meth (qv 0) T.cl_StepCheck T.mt_StepCheck_are_registers F_StepCheck_are_registers am hr T.b_StepCheck_are_registers (qa_cons (q_ix (qv 1) q_int) (qa_cons (qv 2) (qa_cons (qv 2) qa_nil)))))) (qw_or1 (qt_not (qt_val (q_meth (qv 0) T.cl_StepCheck T.mt_StepCheck_are_registers F_StepCheck_are_registers am hr T.b_StepCheck_are_registers (qa_cons (q_ix (qv 1) q_int) (qa_cons (qv 3) (qa_cons (qv 3) qa_nil))))))))).t (qss_one (qs_ret q_bl)) qss_nil)
    (qss_one (qs_ret (q_eq hr (q_lenD T.z_len (qa_cons (q_dc1 [("register", 4)] rfl SC.nd (qi_seq (q_ix (qv 1) q_int)) (blkOk_by (by kernel_rfl)) (fun _ _ _ _ _ => ⟨_, (qg_name (i := 4) SC.nd), (is_name (by decide))⟩) (fun _ _ _ _ _ => ⟨_, (qv 4)⟩) (fun _ _ _ _ _ => ⟨_, q_bl⟩)) qa_nil)) (qv 3)))))))⟩) (r_StepCheck_is_call T.G)
set_option maxHeartbeats 2000000 in
theorem ok_StepCheck_is_place (T : Tx K mg) (SM : SupM P K mg T.file) : FnG P w K mg base 3 T.a_StepCheck_is_place T.d_StepCheck_is_place ["self", "value"] (c_StepCheck_is_place T.G) := by
  have SC := sc_StepCheck_is_place
  have F_is_within := (ok_is_within (P := P) (w := w) (base := base) T SM).mono (k := 2) (by decide)
  exact Fun.okP (k := 2) (ds := (b_StepCheck_is_place T.G)) T.F_StepCheck_is_place sc_StepCheck_is_place (l_StepCheck_is_place T.G) (fun cdv A outer s H hr am => ⟨_, (qss_one (qs_ret (q_call F_is_within am hr T.m_is_within T.F_is_within.kp T.b_is_within (qa_cons (qv 1) (qa_cons q_int (qa_cons (q_sub (q_fld T.cl_StepCheck T.na_StepCheck_places (qv 0)) q_int) qa_nil))))))⟩) (r_StepCheck_is_place T.G)
set_option maxHeartbeats 2000000 in
theorem ok_StepCheck_is_set (T : Tx K mg) (SM : SupM P K mg T.file) : FnG P w K mg base 5 T.a_StepCheck_is_set T.d_StepCheck_is_set ["self", "step"] (c_StepCheck_is_set T.G) := by
  have SC := sc_StepCheck_is_set
  have F_StepCheck_are_registers := (ok_StepCheck_are_registers (P := P) (w := w) (base := base) T SM).mono (k := 4) (by decide)
  have F_is_ascending := (ok_is_ascending (P := P) (w := w) (base := base) T SM).mono (k := 4) (by decide)
  have F_is_listed := (ok_is_listed (P := P) (w := w) (base := base) T SM).mono (k := 4) (by decide)
  have F_is_multiple := (ok_is_multiple (P := P) (w := w) (base := base) T SM).mono (k := 4) (by decide)
  have F_is_row := (ok_is_row (P := P) (w := w) (base := base) T SM).mono (k := 4) (by decide)
  have F_is_within := (ok_is_within (P := P) (w := w) (base := base) T SM).mono (k := 4) (by decide)
  exact Fun.okP (k := 4) (ds := (b_StepCheck_is_set T.G)) T.F_StepCheck_is_set sc_StepCheck_is_set (l_StepCheck_is_set T.G) (fun cdv A outer s H hr am => ⟨_, (qss_cons (qs_if ((qw_or (qt_not (qt_val (q_call F_is_within am hr T.m_is_within T.F_is_within.kp T.b_is_within (qa_cons (q_ix (qv 1) q_int) (qa_cons q_int (qa_cons (q_sub (q_fld T.cl_StepCheck T.na_StepCheck_registers (qv 0)) q_int) qa_nil)))))) (qw_or (qt_not (qt_val (q_call F_is_multiple am hr T.m_is_multiple T.F_is_multiple.kp T.b_is_multiple (qa_cons (q_ix (qv 1) q_int) qa_nil)))) (qw_or1 (qt_not (qt_val (q_call F_is_listed am hr T.m_is_listed T.F_is_listed.kp T.b_is_listed (qa_cons (q_ix (qv 1) q_int) qa_nil)))))))).t (qss_one (qs_ret q_bl)) qss_nil)
    (qss_cons (qs_if (qt_not (qt_val (q_all rfl T.z_all (qa_cons (q_lc [("pair", 3)] rfl SC.nd (qi_seq (q_ix (qv 1) q_int)) (blkOk_by (by kernel_rfl)) (fun _ _ _ _ _ => ⟨_, (qg_name (i := 3) SC.nd), (is_name (by decide))⟩) (fun _ _ _ _ _ => ⟨_, qts_nil⟩) (fun _ _ _ _ _ => ⟨_, (q_and (q_call F_is_row am hr T.m_is_row T.F_is_row.kp T.b_is_row (qa_cons (qv 3) (qa_cons q_int (qa_cons q_int qa_nil)))) (q_one (q_call F_is_multiple am hr T.m_is_multiple T.F_is_multiple.kp T.b_is_multiple (qa_cons (q_ix (qv 3) q_int) qa_nil))))⟩)) qa_nil)))) (qss_one (qs_ret q_bl)) qss_nil)
    (qss_cons (qs_setLc 2 [("pair", 3)] rfl SC.nd (qi_seq (q_ix (qv 1) q_int)) (blkOk_by (by kernel_rfl)) (fun _ _ _ _ _ => ⟨_, (qg_name (i := 3) SC.nd), (is_name (by decide))⟩) (fun _ _ _ _ _ => ⟨_, qts_nil⟩) (fun _ _ _ _ _ => ⟨_, (q_ix (qv 3) q_int)⟩))
    (qss_one (qs_ret (q_and (q_meth (qv 0) T.cl_StepCheck T.mt_StepCheck_are_registers F_StepCheck_are_registers am hr T.b_StepCheck_are_registers (qa_cons (qv 2) (qa_cons q_int (qa_cons (q_fld T.cl_StepCheck T.na_StepCheck_registers (qv 0)) qa_nil)))) (q_one (q_call F_is_ascending am hr T.m_is_ascending T.F_is_ascending.kp T.b_is_ascending (qa_cons (qv 2) qa_nil)))))))))⟩) (r_StepCheck_is_set T.G)
set_option maxHeartbeats 2000000 in
theorem ok_StepCheck_is_shown (T : Tx K mg) (SM : SupM P K mg T.file) : FnG P w K mg base 5 T.a_StepCheck_is_shown T.d_StepCheck_is_shown ["self", "step"] (c_StepCheck_is_shown T.G) := by
  have SC := sc_StepCheck_is_shown
  have F_StepCheck_are_registers := (ok_StepCheck_are_registers (P := P) (w := w) (base := base) T SM).mono (k := 4) (by decide)
  have F_is_name := (ok_is_name (P := P) (w := w) (base := base) T SM).mono (k := 4) (by decide)
  exact Fun.okP (k := 4) (ds := (b_StepCheck_is_shown T.G)) T.F_StepCheck_is_shown sc_StepCheck_is_shown (l_StepCheck_is_shown T.G) (fun cdv A outer s H hr am => ⟨_, (qss_one (qs_ret (q_and (q_call F_is_name am hr T.m_is_name T.F_is_name.kp T.b_is_name (qa_cons (q_ix (qv 1) q_int) qa_nil)) (q_one (q_meth (qv 0) T.cl_StepCheck T.mt_StepCheck_are_registers F_StepCheck_are_registers am hr T.b_StepCheck_are_registers (qa_cons (q_ix (qv 1) q_int) (qa_cons q_int (qa_cons (q_gi T.g_MOST_SHOWN) qa_nil))))))))⟩) (r_StepCheck_is_shown T.G)
set_option maxHeartbeats 2000000 in
theorem ok_StepCheck_is_fine (T : Tx K mg) (SM : SupM P K mg T.file) : FnG P w K mg base 6 T.a_StepCheck_is_fine T.d_StepCheck_is_fine ["self", "step"] (c_StepCheck_is_fine T.G) := by
  have SC := sc_StepCheck_is_fine
  have F_StepCheck_are_registers := (ok_StepCheck_are_registers (P := P) (w := w) (base := base) T SM).mono (k := 5) (by decide)
  have F_StepCheck_is_call := (ok_StepCheck_is_call (P := P) (w := w) (base := base) T SM).mono (k := 5) (by decide)
  have F_StepCheck_is_place := (ok_StepCheck_is_place (P := P) (w := w) (base := base) T SM).mono (k := 5) (by decide)
  have F_StepCheck_is_set := (ok_StepCheck_is_set (P := P) (w := w) (base := base) T SM).mono (k := 5) (by decide)
  have F_StepCheck_is_shown := (ok_StepCheck_is_shown (P := P) (w := w) (base := base) T SM).mono (k := 5) (by decide)
  have F_is_listed := (ok_is_listed (P := P) (w := w) (base := base) T SM).mono (k := 5) (by decide)
  exact Fun.okP (k := 5) (ds := (b_StepCheck_is_fine T.G)) T.F_StepCheck_is_fine sc_StepCheck_is_fine (l_StepCheck_is_fine T.G) (fun cdv A outer s H hr am => ⟨_, (qss_cons (qs_if ((qw_or (qt_not (qt_val (q_call F_is_listed am hr T.m_is_listed T.F_is_listed.kp T.b_is_listed (qa_cons (qv 1) qa_nil)))) (qw_or (qt_eq hr (q_len T.z_len (qa_cons (qv 1) qa_nil)) q_int) (qw_or1 (qt_not (qt_val (q_isi (.ty "str") (anT_ok (by decide)) T.z_isinstance (qa_cons (q_ix (qv 1) q_int) (qa_cons (q_ty T.z_str (by decide +kernel)) qa_nil))))))))).t (qss_one (qs_ret q_bl)) qss_nil)
    (qss_cons (qs_if (qt_eq hr (q_ix (qv 1) q_int) (q_gs T.g_SET)) (qss_one (qs_ret (q_and (q_eq hr (q_len T.z_len (qa_cons (qv 1) qa_nil)) q_int) (q_one (q_meth (qv 0) T.cl_StepCheck T.mt_StepCheck_is_set F_StepCheck_is_set am hr T.b_StepCheck_is_set (qa_cons (qv 1) qa_nil)))))) qss_nil)
    (qss_cons (qs_if (qt_eq hr (q_ix (qv 1) q_int) (q_gs T.g_GO)) (qss_one (qs_ret (q_and (q_eq hr (q_len T.z_len (qa_cons (qv 1) qa_nil)) q_int) (q_one (q_meth (qv 0) T.cl_StepCheck T.mt_StepCheck_is_place F_StepCheck_is_place am hr T.b_StepCheck_is_place (qa_cons (q_ix (qv 1) q_int) qa_nil)))))) qss_nil)
    (qss_cons (qs_if (qt_eq hr (q_ix (qv 1) q_int) (q_gs T.g_TEST)) (qss_one (qs_ret (q_and (q_eq hr (q_len T.z_len (qa_cons (qv 1) qa_nil)) q_int) (q_and (q_meth (qv 0) T.cl_StepCheck T.mt_StepCheck_is_shown F_StepCheck_is_shown am hr T.b_StepCheck_is_shown (qa_cons (qv 1) qa_nil)) (q_and (q_meth (qv 0) T.cl_StepCheck T.mt_StepCheck_is_place F_StepCheck_is_place am hr T.b_StepCheck_is_place (qa_cons (q_ix (qv 1) q_int) qa_nil)) (q_one (q_meth (qv 0) T.cl_StepCheck T.mt_StepCheck_is_place F_StepCheck_is_place am hr T.b_StepCheck_is_place (qa_cons (q_ix (qv 1) q_int) qa_nil)))))))) qss_nil)
    (qss_cons (qs_if (qt_eq hr (q_ix (qv 1) q_int) (q_gs T.g_DEED)) (qss_one (qs_ret (q_and (q_eq hr (q_len T.z_len (qa_cons (qv 1) qa_nil)) q_int) (q_one (q_meth (qv 0) T.cl_StepCheck T.mt_StepCheck_is_shown F_StepCheck_is_shown am hr T.b_StepCheck_is_shown (qa_cons (qv 1) qa_nil)))))) qss_nil)
    (qss_cons (qs_if (qt_eq hr (q_ix (qv 1) q_int) (q_gs T.g_CALL)) (qss_one (qs_ret (q_and (q_eq hr (q_len T.z_len (qa_cons (qv 1) qa_nil)) q_int) (q_one (q_meth (qv 0) T.cl_StepCheck T.mt_StepCheck_is_call F_StepCheck_is_call am hr T.b_StepCheck_is_call (qa_cons (qv 1) qa_nil)))))) qss_nil)
    (qss_one (qs_ret (q_and (q_eq hr (q_ix (qv 1) q_int) (q_gs T.g_BACK)) (q_and (q_eq hr (q_len T.z_len (qa_cons (qv 1) qa_nil)) q_int) (q_one (q_meth (qv 0) T.cl_StepCheck T.mt_StepCheck_are_registers F_StepCheck_are_registers am hr T.b_StepCheck_are_registers (qa_cons (q_ix (qv 1) q_int) (qa_cons (q_fld T.cl_StepCheck T.na_StepCheck_back (qv 0)) (qa_cons (q_fld T.cl_StepCheck T.na_StepCheck_back (qv 0)) qa_nil)))))))))))))))⟩) (r_StepCheck_is_fine T.G)
set_option maxHeartbeats 2000000 in
theorem ok_are_procedures (T : Tx K mg) (SM : SupM P K mg T.file) : FnG P w K mg base 7 T.a_are_procedures T.d_are_procedures ["value"] c_are_procedures := by
  have SC := sc_are_procedures
  have F_StepCheck_is_fine := (ok_StepCheck_is_fine (P := P) (w := w) (base := base) T SM).mono (k := 6) (by decide)
  have F_is_row := (ok_is_row (P := P) (w := w) (base := base) T SM).mono (k := 6) (by decide)
  have F_is_shape := (ok_is_shape (P := P) (w := w) (base := base) T SM).mono (k := 6) (by decide)
  have M_StepCheck := ((ok_StepCheck___init__ (P := P) (w := w) (base := base) T SM).toC T.b_StepCheck___init__).mono (k := 5) (by decide)
  exact Fun.okP (k := 6) (ds := (b_are_procedures T.G)) T.F_are_procedures sc_are_procedures l_are_procedures (fun cdv A outer s H hr am => ⟨_, (qss_cons (qs_if ((qw_or (qt_not (qt_val (q_call F_is_row am hr T.m_is_row T.F_is_row.kp T.b_is_row (qa_cons (qv 0) (qa_cons q_int (qa_cons (q_gi T.g_MOST_PROCEDURES) qa_nil)))))) (qw_or1 (qt_not (qt_val (q_all rfl T.z_all (qa_cons (q_lc [("one", 2)] rfl SC.nd (qi_seq (qv 0)) (blkOk_by (by kernel_rfl)) (fun _ _ _ _ _ => ⟨_, (qg_name (i := 2) SC.nd), (is_name (by decide))⟩) (fun _ _ _ _ _ => ⟨_, qts_nil⟩) (fun _ _ _ _ _ => ⟨_, (q_call F_is_shape am hr T.m_is_shape T.F_is_shape.kp T.b_is_shape (qa_cons (qv 2) qa_nil))⟩)) qa_nil))))))).t (qss_one (qs_ret q_bl)) qss_nil)
    (qss_cons (qs_for PassesOwn.never rfl (qi_enum T.z_enumerate (qa_cons (qv 0) qa_nil)) (qg_tup rfl (qgs_cons (qg_name (i := 1) SC.nd) (qgs_cons (qg_name (i := 2) SC.nd) qgs_nil))) (qss_cons (qs_set 3 SC.nd (q_makeC T.mk_StepCheck M_StepCheck am hr T.m_StepCheck (qa_cons (qv 0) (qa_cons (qv 1) qa_nil))))
    (qss_one (qs_if ((qw_or (qt_not (qt_val (q_all rfl T.z_all (qa_cons (q_lc [("step", 4)] rfl SC.nd (qi_seq (q_ix (qv 2) q_int)) (blkOk_by (by kernel_rfl)) (fun _ _ _ _ _ => ⟨_, (qg_name (i := 4) SC.nd), (is_name (by decide))⟩) (fun _ _ _ _ _ => ⟨_, qts_nil⟩) (fun _ _ _ _ _ => ⟨_, (q_meth (qv 3) T.cl_StepCheck T.mt_StepCheck_is_fine F_StepCheck_is_fine am hr T.b_StepCheck_is_fine (qa_cons (qv 4) qa_nil))⟩)) qa_nil)))) (qw_or1 (qt_notinS (q_ix (q_ix (q_ix (qv 2) q_int) (q_neg q_int)) q_int) (q_gtC T.g_LAST))))).t (qss_one (qs_ret q_bl)) qss_nil))))
    (qss_one (qs_ret q_bl))))⟩) (r_are_procedures T.G)
set_option maxHeartbeats 2000000 in
theorem ok_Code___init__ (T : Tx K mg) (SM : SupM P K mg T.file) : FnG P w K mg base 10 T.a_Code___init__ T.d_Code___init__ ["self", "procedures"] (c_Code___init__ T.G) := by
  have SC := sc_Code___init__
  have F_are_procedures := (ok_are_procedures (P := P) (w := w) (base := base) T SM).mono (k := 9) (by decide)
  have F_fixed := (ok_fixed (P := P) (w := w) (base := base) T SM 7).mono (k := 9) (by decide)
  exact Fun.okD (k := 9) (ds := (b_Code___init__ T.G)) T.F_Code___init__ sc_Code___init__ (l_Code___init__ T.G) (fun cdv A outer s H hr am => ⟨_, (qss_cons (qs_if (qt_not (qt_val (q_call F_are_procedures am hr T.m_are_procedures T.F_are_procedures.kp T.b_are_procedures (qa_cons (qv 1) qa_nil)))) (qss_one qs_dead) qss_nil)
    (qss_cons (qs_fld T.cl_Code T.na_Code_procedures (qv 0) (q_call F_fixed am hr T.m_fixed T.F_fixed.kp T.b_fixed (qa_cons (qv 1) qa_nil)))
    (qss_one (qs_fld T.cl_Code T.na_Code_inputs (qv 0) (q_ix (q_ix (q_fld T.cl_Code T.na_Code_procedures (qv 0)) q_int) q_int)))))⟩) (r_Code___init__ T.G)
set_option maxHeartbeats 2000000 in
theorem ok_need_code (T : Tx K mg) (SM : SupM P K mg T.file) : FnG P w K mg base 1 T.a_need_code T.d_need_code ["value", "part"] (c_need_code T.G) := by
  have SC := sc_need_code
  exact Fun.okP (k := 0) (ds := (b_need_code T.G)) T.F_need_code sc_need_code (l_need_code T.G) (fun cdv A outer s H hr am => ⟨_, (qss_one (qs_if (qt_not (qt_val (q_isi (.own _) T.an_Code T.z_isinstance (qa_cons (qv 0) (qa_cons (q_own T.m_Code) qa_nil))))) (qss_one qs_dead) qss_nil))⟩) (r_need_code T.G)
set_option maxHeartbeats 2000000 in
theorem ok_Needed___init__ (T : Tx K mg) (SM : SupM P K mg T.file) : FnC P w K mg base 11 T.a_Needed___init__ (c_Needed___init__ T.G) := by
  have SC := sc_Needed___init__
  have FB := (ok_Paper___init__ (P := P) (w := w) (base := base) T SM T.cl_Needed T.na_Needed_word T.na_Needed_parts).mono (k := 10) (by decide)
  exact SupF.ok (k := 10) (ds := (b_Needed___init__ T.G)) (d := a_Needed___init__ T.G) T.F_Needed___init__ SM sc_Needed___init__ rfl (fun doc pm ct us hl => match us, hl with | [_, _, _], _ => rfl) (l_Needed___init__ T.G) rfl (by decide) rfl rfl rfl FB T.st_Needed___init__ (fun A outer s H hr am => ⟨⟨_, (qa_cons q_str (qa_cons (qv 1) (qa_cons (qv 2) qa_nil)))⟩, _, (qss_one (qs_asg (q_fld T.cl_Needed T.na_Needed_parts (qv 0)) (qg_tup rfl (qgs_cons (qg_fld T.cl_Needed T.na_Needed_backs (qv 0)) (qgs_cons (qg_fld T.cl_Needed T.na_Needed_lots (qv 0)) qgs_nil)))))⟩) (fun L => ⟨_, rfl⟩) (fun _ => rfl) (fun _ => rfl) (fun _ => rfl) (fun _ => rfl) (r_Needed___init__ T.G)
set_option maxHeartbeats 2000000 in
theorem ok_joined (T : Tx K mg) (SM : SupM P K mg T.file) : FnG P w K mg base 1 T.a_joined T.d_joined ["some", "more"] c_joined := by
  have SC := sc_joined
  exact Fun.okP (k := 0) (ds := b_joined) T.F_joined sc_joined l_joined (fun cdv A outer s H hr am => ⟨_, (qss_one (qs_ret (q_tuple T.z_tuple (qa_cons (q_sortedSet rfl T.z_sorted T.z_set (qa_cons (q_lst (qa_star (qv 0) (qa_star (qv 1) qa_nil))) qa_nil)) qa_nil))))⟩) r_joined
set_option maxHeartbeats 2000000 in
theorem ok_nexts_at (T : Tx K mg) (SM : SupM P K mg T.file) : FnG P w K mg base 1 T.a_nexts_at T.d_nexts_at ["steps", "place"] c_nexts_at := by
  have SC := sc_nexts_at
  exact Fun.okP (k := 0) (ds := b_nexts_at) T.F_nexts_at sc_nexts_at l_nexts_at (fun cdv A outer s H hr am => ⟨_, (qss_cons (qs_set 2 SC.nd (q_ix (qv 0) (qv 1)))
    (qss_cons (qs_if (qt_eq hr (q_ix (qv 2) q_int) (q_gs T.g_TEST)) (qss_one (qs_ret (q_slA (qv 2) (qo_some q_int) qo_none))) qss_nil)
    (qss_cons (qs_if (qt_eq hr (q_ix (qv 2) q_int) (q_gs T.g_BACK)) (qss_one (qs_ret (q_tup qa_nil))) qss_nil)
    (qss_one (qs_ret (q_ifE (qt_eq hr (q_ix (qv 2) q_int) (q_gs T.g_GO)) (q_tup (qa_cons (q_ix (qv 2) q_int) qa_nil)) (q_tup (qa_cons (q_add (qv 1) q_int) qa_nil))))))))⟩) r_nexts_at
set_option maxHeartbeats 2000000 in
theorem ok_behind (T : Tx K mg) (SM : SupM P K mg T.file) : FnG P w K mg base 2 T.a_behind T.d_behind ["lots", "steps", "place"] c_behind := by
  have SC := sc_behind
  have F_nexts_at := (ok_nexts_at (P := P) (w := w) (base := base) T SM).mono (k := 1) (by decide)
  exact Fun.okD (k := 1) (ds := b_behind) T.F_behind sc_behind l_behind (fun cdv A outer s H hr am => ⟨_, (qss_one (qs_ret (q_frz (q_dc2 [("one", 3), ("register", 4)] [4] rfl SC.nd (qi_seq (q_call F_nexts_at am hr T.m_nexts_at T.F_nexts_at.kp T.b_nexts_at (qa_cons (qv 1) (qa_cons (qv 2) qa_nil)))) (blkOk_by (by kernel_rfl)) (by decide) (fun _ _ _ _ _ => ⟨_, (qg_name (i := 3) SC.nd), (is_name (by decide))⟩) (fun _ _ _ _ _ => ⟨_, (qi_seq (q_ix (qv 0) (qv 3)))⟩) (fun _ _ _ _ _ => ⟨_, (qg_name (i := 4) SC.nd), (is_name (by decide))⟩) (fun _ _ _ _ _ => ⟨_, (qv 4)⟩) (fun _ _ _ _ _ => ⟨_, q_bl⟩)))))⟩) r_behind
set_option maxHeartbeats 2000000 in
theorem ok_wanted (T : Tx K mg) (SM : SupM P K mg T.file) : FnG P w K mg base 2 T.a_wanted T.d_wanted ["step", "found", "lots", "backs"] c_wanted := by
  have SC := sc_wanted
  have F_joined := (ok_joined (P := P) (w := w) (base := base) T SM).mono (k := 1) (by decide)
  exact Fun.okP (k := 1) (ds := b_wanted) T.F_wanted sc_wanted l_wanted (fun cdv A outer s H hr am => ⟨_, (qss_cons (qs_if (qt_eq hr (q_ix (qv 0) q_int) (q_gs T.g_SET)) (qss_cons (qs_if (qt_dnotinA hr (q_ix (qv 0) q_int) (qv 1)) (qss_one (qs_ret (q_tuple T.z_tuple (qa_cons (q_sortedD rfl T.z_sorted (qa_cons (qv 1) qa_nil)) qa_nil)))) qss_nil)
    (qss_one (qs_ret (q_call F_joined am hr T.m_joined T.F_joined.kp T.b_joined (qa_cons (q_lc [("one", 7)] rfl SC.nd (qi_keys (qv 1)) (blkOk_by (by kernel_rfl)) (fun _ _ _ _ _ => ⟨_, (qg_name (i := 7) SC.nd), (is_name (by decide))⟩) (fun _ _ _ _ _ => ⟨_, (qts_one (qt_ne hr (qv 7) (q_ix (qv 0) q_int)))⟩) (fun _ _ _ _ _ => ⟨_, (qv 7)⟩)) (qa_cons (q_lc [("pair", 8)] rfl SC.nd (qi_seq (q_ix (qv 0) q_int)) (blkOk_by (by kernel_rfl)) (fun _ _ _ _ _ => ⟨_, (qg_name (i := 8) SC.nd), (is_name (by decide))⟩) (fun _ _ _ _ _ => ⟨_, qts_nil⟩) (fun _ _ _ _ _ => ⟨_, (q_ix (qv 8) q_int)⟩)) qa_nil)))))) qss_nil)
    (qss_cons (qs_if (qt_eq hr (q_ix (qv 0) q_int) (q_gs T.g_CALL)) (qss_cons (qs_setLc 4 [("at", 5), ("register", 6)] rfl SC.nd (qi_enum T.z_enumerate (qa_cons (q_ix (qv 0) q_int) qa_nil)) (blkOk_by (by kernel_rfl)) (fun _ _ _ _ _ => ⟨_, (qg_tup rfl (qgs_cons (qg_name (i := 5) SC.nd) (qgs_cons (qg_name (i := 6) SC.nd) qgs_nil))), (is_tup (is_cons (is_name (by decide)) (is_cons (is_name (by decide)) is_nil)))⟩) (fun _ _ _ _ _ => ⟨_, (qts_one (qt_inS (qv 5) (q_ix (q_ix (qv 2) (q_ix (qv 0) q_int)) q_int)))⟩) (fun _ _ _ _ _ => ⟨_, (qv 6)⟩))
    (qss_one (qs_ret (q_call F_joined am hr T.m_joined T.F_joined.kp T.b_joined (qa_cons (q_lc [("one", 7)] rfl SC.nd (qi_keys (qv 1)) (blkOk_by (by kernel_rfl)) (fun _ _ _ _ _ => ⟨_, (qg_name (i := 7) SC.nd), (is_name (by decide))⟩) (fun _ _ _ _ _ => ⟨_, (qts_one (qt_notinS (qv 7) (q_ix (qv 0) q_int)))⟩) (fun _ _ _ _ _ => ⟨_, (qv 7)⟩)) (qa_cons (qv 4) qa_nil)))))) qss_nil)
    (qss_cons (qs_if (qt_eq hr (q_ix (qv 0) q_int) (q_gs T.g_BACK)) (qss_one (qs_ret (q_call F_joined am hr T.m_joined T.F_joined.kp T.b_joined (qa_cons (q_lc [("at", 5)] rfl SC.nd (qi_seq (qv 3)) (blkOk_by (by kernel_rfl)) (fun _ _ _ _ _ => ⟨_, (qg_name (i := 5) SC.nd), (is_name (by decide))⟩) (fun _ _ _ _ _ => ⟨_, qts_nil⟩) (fun _ _ _ _ _ => ⟨_, (q_ix (q_ix (qv 0) q_int) (qv 5))⟩)) (qa_cons (q_lst qa_nil) qa_nil))))) qss_nil)
    (qss_one (qs_ret (q_call F_joined am hr T.m_joined T.F_joined.kp T.b_joined (qa_cons (q_listD rfl T.z_list (qa_cons (qv 1) qa_nil)) (qa_cons (q_ifE (qt_ne hr (q_ix (qv 0) q_int) (q_gs T.g_GO)) (q_ix (qv 0) q_int) (q_lst qa_nil)) qa_nil))))))))⟩) r_wanted
set_option maxHeartbeats 2000000 in
theorem ok_is_closed (T : Tx K mg) (SM : SupM P K mg T.file) : FnG P w K mg base 3 T.a_is_closed T.d_is_closed ["code", "backs", "lots"] (c_is_closed T.G) := by
  have SC := sc_is_closed
  have F_behind := (ok_behind (P := P) (w := w) (base := base) T SM).mono (k := 2) (by decide)
  have F_wanted := (ok_wanted (P := P) (w := w) (base := base) T SM).mono (k := 2) (by decide)
  exact Fun.okP (k := 2) (ds := (b_is_closed T.G)) T.F_is_closed sc_is_closed (l_is_closed T.G) (fun cdv A outer s H hr am => ⟨_, (qss_cons (qs_if (qt_ne hr (q_ix (qv 1) q_int) (q_tupRg rfl T.z_tuple T.z_range (q_ix (q_ix (q_fld T.cl_Code T.na_Code_procedures (qv 0)) q_int) q_int))) (qss_one (qs_ret q_bl)) qss_nil)
    (qss_cons (qs_for PassesOwn.never rfl (qi_enum T.z_enumerate (qa_cons (q_fld T.cl_Code T.na_Code_procedures (qv 0)) qa_nil)) (qg_tup rfl (qgs_cons (qg_name (i := 3) SC.nd) (qgs_cons (qg_name (i := 4) SC.nd) qgs_nil))) (qss_one (qs_for PassesOwn.never rfl (qi_enum T.z_enumerate (qa_cons (q_ix (qv 4) q_int) qa_nil)) (qg_tup rfl (qgs_cons (qg_name (i := 5) SC.nd) (qgs_cons (qg_name (i := 6) SC.nd) qgs_nil))) (qss_cons (qs_set 7 SC.nd (q_call F_behind am hr T.m_behind T.F_behind.kp T.b_behind (qa_cons (q_ix (qv 2) (qv 3)) (qa_cons (q_ix (qv 4) q_int) (qa_cons (qv 5) qa_nil)))))
    (qss_cons (qs_if (qt_not (qt_val (q_all rfl T.z_all (qa_cons (q_lc [("register", 8)] rfl SC.nd (qi_seq (q_call F_wanted am hr T.m_wanted T.F_wanted.kp T.b_wanted (qa_cons (qv 6) (qa_cons (qv 7) (qa_cons (qv 2) (qa_cons (q_ix (qv 1) (qv 3)) qa_nil)))))) (blkOk_by (by kernel_rfl)) (fun _ _ _ _ _ => ⟨_, (qg_name (i := 8) SC.nd), (is_name (by decide))⟩) (fun _ _ _ _ _ => ⟨_, qts_nil⟩) (fun _ _ _ _ _ => ⟨_, (q_inS (qv 8) (q_ix (q_ix (qv 2) (qv 3)) (qv 5)))⟩)) qa_nil)))) (qss_one (qs_ret q_bl)) qss_nil)
    (qss_one (qs_if ((qw_and (qt_eq hr (q_ix (qv 6) q_int) (q_gs T.g_CALL)) (qw_and1 (qt_not (qt_val (q_all rfl T.z_all (qa_cons (q_lc [("at", 9), ("its", 10)] rfl SC.nd (qi_enum T.z_enumerate (qa_cons (q_ix (qv 6) q_int) qa_nil)) (blkOk_by (by kernel_rfl)) (fun _ _ _ _ _ => ⟨_, (qg_tup rfl (qgs_cons (qg_name (i := 9) SC.nd) (qgs_cons (qg_name (i := 10) SC.nd) qgs_nil))), (is_tup (is_cons (is_name (by decide)) (is_cons (is_name (by decide)) is_nil)))⟩) (fun _ _ _ _ _ => ⟨_, (qts_one (qt_dinA hr (qv 10) (qv 7)))⟩) (fun _ _ _ _ _ => ⟨_, (q_inS (qv 9) (q_ix (qv 1) (q_ix (qv 6) q_int)))⟩)) qa_nil))))))).t (qss_one (qs_ret q_bl)) qss_nil)))))))
    (qss_one (qs_ret q_bl))))⟩) (r_is_closed T.G)
set_option maxHeartbeats 2000000 in
theorem ok_is_lot (T : Tx K mg) (SM : SupM P K mg T.file) : FnG P w K mg base 4 T.a_is_lot T.d_is_lot ["value", "many"] c_is_lot := by
  have SC := sc_is_lot
  have F_is_ascending := (ok_is_ascending (P := P) (w := w) (base := base) T SM).mono (k := 3) (by decide)
  have F_is_lot_of := (ok_is_lot_of (P := P) (w := w) (base := base) T SM).mono (k := 3) (by decide)
  exact Fun.okP (k := 3) (ds := b_is_lot) T.F_is_lot sc_is_lot l_is_lot (fun cdv A outer s H hr am => ⟨_, (qss_one (qs_ret (q_and (q_call F_is_lot_of am hr T.m_is_lot_of T.F_is_lot_of.kp T.b_is_lot_of (qa_cons (qv 0) (qa_cons (qv 1) qa_nil))) (q_one (q_call F_is_ascending am hr T.m_is_ascending T.F_is_ascending.kp T.b_is_ascending (qa_cons (qv 0) qa_nil))))))⟩) r_is_lot
set_option maxHeartbeats 2000000 in
theorem ok_shows_needed (T : Tx K mg) (SM : SupM P K mg T.file) : FnG P w K mg base 5 T.a_shows_needed T.d_shows_needed ["code", "value"] (c_shows_needed T.G) := by
  have SC := sc_shows_needed
  have F_is_closed := (ok_is_closed (P := P) (w := w) (base := base) T SM).mono (k := 4) (by decide)
  have F_is_listed := (ok_is_listed (P := P) (w := w) (base := base) T SM).mono (k := 4) (by decide)
  have F_is_lot := (ok_is_lot (P := P) (w := w) (base := base) T SM).mono (k := 4) (by decide)
  have F_is_row := (ok_is_row (P := P) (w := w) (base := base) T SM).mono (k := 4) (by decide)
  have F_need_code := (ok_need_code (P := P) (w := w) (base := base) T SM).mono (k := 4) (by decide)
  exact Fun.okP (k := 4) (ds := (b_shows_needed T.G)) T.F_shows_needed sc_shows_needed (l_shows_needed T.G) (fun cdv A outer s H hr am => ⟨_, (qss_cons (qs_expr (q_call F_need_code am hr T.m_need_code T.F_need_code.kp T.b_need_code (qa_cons (qv 0) (qa_cons q_str qa_nil))))
    (qss_cons (qs_set 2 SC.nd (q_len T.z_len (qa_cons (q_fld T.cl_Code T.na_Code_procedures (qv 0)) qa_nil)))
    (qss_cons (qs_if ((qw_or (qt_not (qt_val (q_isi (.own _) T.an_Needed T.z_isinstance (qa_cons (qv 1) (qa_cons (q_own T.m_Needed) qa_nil))))) (qw_or (qt_not (qt_val (q_call F_is_row am hr T.m_is_row T.F_is_row.kp T.b_is_row (qa_cons (q_fld T.cl_Needed T.na_Needed_backs (qv 1)) (qa_cons (qv 2) (qa_cons (qv 2) qa_nil)))))) (qw_or1 (qt_not (qt_val (q_call F_is_row am hr T.m_is_row T.F_is_row.kp T.b_is_row (qa_cons (q_fld T.cl_Needed T.na_Needed_lots (qv 1)) (qa_cons (qv 2) (qa_cons (qv 2) qa_nil)))))))))).t (qss_one (qs_ret q_bl)) qss_nil)
    (qss_cons (qs_for PassesOwn.never rfl (qi_zip3 T.z_zip (qa_cons (q_fld T.cl_Needed T.na_Needed_backs (qv 1)) (qa_cons (q_fld T.cl_Needed T.na_Needed_lots (qv 1)) (qa_cons (q_fld T.cl_Code T.na_Code_procedures (qv 0)) qa_nil)))) (qg_tup rfl (qgs_cons (qg_name (i := 3) SC.nd) (qgs_cons (qg_name (i := 4) SC.nd) (qgs_cons (qg_name (i := 5) SC.nd) qgs_nil)))) (qss_cons (qs_if ((qw_or (qt_not (qt_val (q_call F_is_lot am hr T.m_is_lot T.F_is_lot.kp T.b_is_lot (qa_cons (qv 3) (qa_cons (q_ix (qv 5) q_int) qa_nil))))) (qw_or (qt_not (qt_val (q_call F_is_listed am hr T.m_is_listed T.F_is_listed.kp T.b_is_listed (qa_cons (qv 4) qa_nil)))) (qw_or1 (qt_ne hr (q_len T.z_len (qa_cons (qv 4) qa_nil)) (q_len T.z_len (qa_cons (q_ix (qv 5) q_int) qa_nil))))))).t (qss_one (qs_ret q_bl)) qss_nil)
    (qss_one (qs_if (qt_not (qt_val (q_all rfl T.z_all (qa_cons (q_lc [("lot", 6)] rfl SC.nd (qi_seq (qv 4)) (blkOk_by (by kernel_rfl)) (fun _ _ _ _ _ => ⟨_, (qg_name (i := 6) SC.nd), (is_name (by decide))⟩) (fun _ _ _ _ _ => ⟨_, qts_nil⟩) (fun _ _ _ _ _ => ⟨_, (q_call F_is_lot am hr T.m_is_lot T.F_is_lot.kp T.b_is_lot (qa_cons (qv 6) (qa_cons (q_ix (qv 5) q_int) qa_nil)))⟩)) qa_nil)))) (qss_one (qs_ret q_bl)) qss_nil))))
    (qss_one (qs_ret (q_call F_is_closed am hr T.m_is_closed T.F_is_closed.kp T.b_is_closed (qa_cons (qv 0) (qa_cons (q_fld T.cl_Needed T.na_Needed_backs (qv 1)) (qa_cons (q_fld T.cl_Needed T.na_Needed_lots (qv 1)) qa_nil))))))))))⟩) (r_shows_needed T.G)
set_option maxHeartbeats 2000000 in
theorem ok__law_pen (T : Tx K mg) (SM : SupM P K mg T.file) : FnG P w K mg base 1 T.a__law_pen T.d__law_pen ["script"] c__law_pen := by
  have SC := sc__law_pen
  exact Fun.okD (k := 0) (ds := b__law_pen) T.F__law_pen sc__law_pen l__law_pen (fun cdv A outer s H hr am => ⟨_, (qss_one (qs_ret (q_lst (qa_cons (q_list T.z_list (qa_cons (q_slA (qv 0) qo_none (qo_some q_int)) qa_nil)) (qa_cons q_int (qa_cons q_int qa_nil))))))⟩) r__law_pen
set_option maxHeartbeats 2000000 in
theorem ok__law_draw (T : Tx K mg) (SM : SupM P K mg T.file) : FnG P w K mg base 1 T.a__law_draw T.d__law_draw ["pen", "many"] c__law_draw := by
  have SC := sc__law_draw
  exact Fun.okD (k := 0) (ds := b__law_draw) T.F__law_draw sc__law_draw l__law_draw (fun cdv A outer s H hr am => ⟨_, (qss_cons (qs_if (qt_lt (qv 1) q_int) (qss_one (qs_ret q_int)) qss_nil)
    (qss_cons (qs_if (qt_gt (q_ix (qv 0) q_int) q_int) (qss_cons (qs_set 2 SC.nd (q_mod (q_intC T.z_int (qa_cons (q_ix (qv 0) q_int) qa_nil)) (qv 1)))
    (qss_cons (qs_asg (q_fdiv (q_intC T.z_int (qa_cons (q_ix (qv 0) q_int) qa_nil)) (qv 1)) (qg_ix (qv 0) q_int))
    (qss_one (qs_ret (qv 2))))) qss_nil)
    (qss_cons (qs_set 3 SC.nd (q_ix (qv 0) q_int))
    (qss_cons (qs_asg (q_add (qv 3) q_int) (qg_ix (qv 0) q_int))
    (qss_cons (qs_set 4 SC.nd (q_add (q_mul q_int (qv 3)) q_int))
    (qss_cons (qs_if (qt_ne hr (q_ix (qv 0) q_int) (q_lst qa_nil)) (qss_one (qs_set 4 SC.nd (q_ix (q_ix (qv 0) q_int) (q_mod (q_intC T.z_int (qa_cons (qv 3) qa_nil)) (q_len T.z_len (qa_cons (q_ix (qv 0) q_int) qa_nil)))))) qss_nil)
    (qss_cons (qs_if ((qw_and (qt_lt (qv 3) (q_len T.z_len (qa_cons (q_ix (qv 0) q_int) qa_nil))) (qw_and1 (qt_ge (q_abs T.z_abs (qa_cons (qv 4) qa_nil)) (q_pow q_int q_int))))).t (qss_cons (qs_set 5 SC.nd (q_add (q_mul q_int (q_sub (q_abs T.z_abs (qa_cons (qv 4) qa_nil)) (q_pow q_int q_int))) (q_intC T.z_int (qa_cons (q_lt (qv 4) q_int) qa_nil))))
    (qss_cons (qs_asg (q_fdiv (q_intC T.z_int (qa_cons (qv 5) qa_nil)) (qv 1)) (qg_ix (qv 0) q_int))
    (qss_one (qs_ret (q_mod (q_intC T.z_int (qa_cons (qv 5) qa_nil)) (qv 1)))))) qss_nil)
    (qss_cons (qs_set 6 SC.nd (q_mod (q_intC T.z_int (qa_cons (q_pow (q_add (q_add (q_mod (q_intC T.z_int (qa_cons (qv 4) qa_nil)) q_int) (q_mul q_int (qv 3))) q_int) q_int) qa_nil)) q_int))
    (qss_cons (qs_set 6 SC.nd (q_mod (q_intC T.z_int (qa_cons (q_pow (q_add (q_add (q_mul (qv 6) (q_add (q_mul q_int (qv 3)) q_int)) (q_mul (q_mul q_int (qv 3)) (qv 3))) q_int) q_int) qa_nil)) q_int))
    (qss_one (qs_ret (q_mod (q_intC T.z_int (qa_cons (q_fdiv (qv 6) q_int) qa_nil)) (qv 1)))))))))))))⟩) r__law_draw
set_option maxHeartbeats 2000000 in
theorem ok__law_pick (T : Tx K mg) (SM : SupM P K mg T.file) : FnG P w K mg base 2 T.a__law_pick T.d__law_pick ["pen", "some"] c__law_pick := by
  have SC := sc__law_pick
  have F__law_draw := (ok__law_draw (P := P) (w := w) (base := base) T SM).mono (k := 1) (by decide)
  exact Fun.okD (k := 1) (ds := b__law_pick) T.F__law_pick sc__law_pick l__law_pick (fun cdv A outer s H hr am => ⟨_, (qss_one (qs_ret (q_ix (qv 1) (q_call F__law_draw am hr T.m__law_draw T.F__law_draw.kp T.b__law_draw (qa_cons (qv 0) (qa_cons (q_len T.z_len (qa_cons (qv 1) qa_nil)) qa_nil))))))⟩) r__law_pick
set_option maxHeartbeats 2000000 in
theorem ok__law_mixed (T : Tx K mg) (SM : SupM P K mg T.file) : FnG P w K mg base 2 T.a__law_mixed T.d__law_mixed ["pen", "some"] c__law_mixed := by
  have SC := sc__law_mixed
  have F__law_draw := (ok__law_draw (P := P) (w := w) (base := base) T SM).mono (k := 1) (by decide)
  exact Fun.okD (k := 1) (ds := b__law_mixed) T.F__law_mixed sc__law_mixed l__law_mixed (fun cdv A outer s H hr am => ⟨_, (qss_cons (qs_par 2 3 rfl SC.nd (qa_cons (q_list T.z_list (qa_cons (qv 1) qa_nil)) (qa_cons (q_lst qa_nil) qa_nil)))
    (qss_cons (qs_for PassesOwn.never rfl (qi_range1 T.z_range (qa_cons (q_len T.z_len (qa_cons (qv 1) qa_nil)) qa_nil)) (qg_name (i := 4) SC.nd) (qss_one (qs_expr (q_append (qv 3) (qa_cons (q_popAt (qv 2) (qa_cons (q_call F__law_draw am hr T.m__law_draw T.F__law_draw.kp T.b__law_draw (qa_cons (qv 0) (qa_cons (q_len T.z_len (qa_cons (qv 2) qa_nil)) qa_nil))) qa_nil)) qa_nil)))))
    (qss_one (qs_ret (qv 3)))))⟩) r__law_mixed
set_option maxHeartbeats 2000000 in
theorem ok__law_pairs_of (T : Tx K mg) (SM : SupM P K mg T.file) : FnG P w K mg base 3 T.a__law_pairs_of T.d__law_pairs_of ["pen", "registers"] c__law_pairs_of := by
  have SC := sc__law_pairs_of
  have F__law_mixed := (ok__law_mixed (P := P) (w := w) (base := base) T SM).mono (k := 2) (by decide)
  have F__law_pick := (ok__law_pick (P := P) (w := w) (base := base) T SM).mono (k := 2) (by decide)
  exact Fun.okD (k := 2) (ds := b__law_pairs_of) T.F__law_pairs_of sc__law_pairs_of l__law_pairs_of (fun cdv A outer s H hr am => ⟨_, (qss_cons (qs_set 2 SC.nd (q_sortedI T.z_sorted (qa_cons (q_slA (q_call F__law_mixed am hr T.m__law_mixed T.F__law_mixed.kp T.b__law_mixed (qa_cons (qv 0) (qa_cons (q_listRg rfl T.z_list T.z_range (qv 1)) qa_nil))) qo_none (qo_some (q_call F__law_pick am hr T.m__law_pick T.F__law_pick.kp T.b__law_pick (qa_cons (qv 0) (qa_cons (q_lst (qa_cons q_int (qa_cons q_int (qa_cons q_int (qa_cons q_int (qa_cons q_int qa_nil)))))) qa_nil))))) qa_nil)))
    (qss_one (qs_ret (q_tuple T.z_tuple (qa_cons (q_lc [("slot", 3)] rfl SC.nd (qi_seq (qv 2)) (blkOk_by (by kernel_rfl)) (fun _ _ _ _ _ => ⟨_, (qg_name (i := 3) SC.nd), (is_name (by decide))⟩) (fun _ _ _ _ _ => ⟨_, qts_nil⟩) (fun _ _ _ _ _ => ⟨_, (q_tup (qa_cons (qv 3) (qa_cons (q_call F__law_pick am hr T.m__law_pick T.F__law_pick.kp T.b__law_pick (qa_cons (qv 0) (qa_cons (q_lst (qa_cons q_int (qa_cons q_int (qa_cons q_int (qa_cons q_int (qa_cons (q_neg q_int) (qa_cons q_int (qa_cons q_int (qa_cons (q_neg q_int) qa_nil))))))))) qa_nil))) qa_nil)))⟩)) qa_nil)))))⟩) r__law_pairs_of
set_option maxHeartbeats 2000000 in
theorem ok__law_set (T : Tx K mg) (SM : SupM P K mg T.file) : FnG P w K mg base 4 T.a__law_set T.d__law_set ["pen", "registers"] c__law_set := by
  have SC := sc__law_set
  have F__law_draw := (ok__law_draw (P := P) (w := w) (base := base) T SM).mono (k := 3) (by decide)
  have F__law_pairs_of := (ok__law_pairs_of (P := P) (w := w) (base := base) T SM).mono (k := 3) (by decide)
  have F__law_pick := (ok__law_pick (P := P) (w := w) (base := base) T SM).mono (k := 3) (by decide)
  exact Fun.okD (k := 3) (ds := b__law_set) T.F__law_set sc__law_set l__law_set (fun cdv A outer s H hr am => ⟨_, (qss_one (qs_ret (q_tup (qa_cons q_str (qa_cons (q_call F__law_draw am hr T.m__law_draw T.F__law_draw.kp T.b__law_draw (qa_cons (qv 0) (qa_cons (qv 1) qa_nil))) (qa_cons (q_call F__law_pick am hr T.m__law_pick T.F__law_pick.kp T.b__law_pick (qa_cons (qv 0) (qa_cons (q_lst (qa_cons q_int (qa_cons q_int (qa_cons q_int (qa_cons q_int (qa_cons (q_neg q_int) (qa_cons q_int qa_nil))))))) qa_nil))) (qa_cons (q_call F__law_pairs_of am hr T.m__law_pairs_of T.F__law_pairs_of.kp T.b__law_pairs_of (qa_cons (qv 0) (qa_cons (qv 1) qa_nil))) qa_nil)))))))⟩) r__law_set
set_option maxHeartbeats 2000000 in
theorem ok__law_sets (T : Tx K mg) (SM : SupM P K mg T.file) : FnG P w K mg base 5 T.a__law_sets T.d__law_sets ["pen", "registers", "most"] c__law_sets := by
  have SC := sc__law_sets
  have F__law_draw := (ok__law_draw (P := P) (w := w) (base := base) T SM).mono (k := 4) (by decide)
  have F__law_set := (ok__law_set (P := P) (w := w) (base := base) T SM).mono (k := 4) (by decide)
  exact Fun.okD (k := 4) (ds := b__law_sets) T.F__law_sets sc__law_sets l__law_sets (fun cdv A outer s H hr am => ⟨_, (qss_one (qs_ret (q_lc [("turn", 3)] rfl SC.nd (qi_range1 T.z_range (qa_cons (q_call F__law_draw am hr T.m__law_draw T.F__law_draw.kp T.b__law_draw (qa_cons (qv 0) (qa_cons (q_add (qv 2) q_int) qa_nil))) qa_nil)) (blkOk_by (by kernel_rfl)) (fun _ _ _ _ _ => ⟨_, (qg_name (i := 3) SC.nd), (is_name (by decide))⟩) (fun _ _ _ _ _ => ⟨_, qts_nil⟩) (fun _ _ _ _ _ => ⟨_, (q_call F__law_set am hr T.m__law_set T.F__law_set.kp T.b__law_set (qa_cons (qv 0) (qa_cons (qv 1) qa_nil)))⟩))))⟩) r__law_sets
set_option maxHeartbeats 2000000 in
theorem ok__law_shown (T : Tx K mg) (SM : SupM P K mg T.file) : FnG P w K mg base 3 T.a__law_shown T.d__law_shown ["pen", "registers"] c__law_shown := by
  have SC := sc__law_shown
  have F__law_draw := (ok__law_draw (P := P) (w := w) (base := base) T SM).mono (k := 2) (by decide)
  have F__law_pick := (ok__law_pick (P := P) (w := w) (base := base) T SM).mono (k := 2) (by decide)
  exact Fun.okD (k := 2) (ds := b__law_shown) T.F__law_shown sc__law_shown l__law_shown (fun cdv A outer s H hr am => ⟨_, (qss_one (qs_ret (q_tuple T.z_tuple (qa_cons (q_lc [("turn", 2)] rfl SC.nd (qi_range1 T.z_range (qa_cons (q_call F__law_pick am hr T.m__law_pick T.F__law_pick.kp T.b__law_pick (qa_cons (qv 0) (qa_cons (q_lst (qa_cons q_int (qa_cons q_int (qa_cons q_int (qa_cons q_int (qa_cons q_int (qa_cons q_int (qa_cons q_int (qa_cons q_int qa_nil))))))))) qa_nil))) qa_nil)) (blkOk_by (by kernel_rfl)) (fun _ _ _ _ _ => ⟨_, (qg_name (i := 2) SC.nd), (is_name (by decide))⟩) (fun _ _ _ _ _ => ⟨_, qts_nil⟩) (fun _ _ _ _ _ => ⟨_, (q_call F__law_draw am hr T.m__law_draw T.F__law_draw.kp T.b__law_draw (qa_cons (qv 0) (qa_cons (qv 1) qa_nil)))⟩)) qa_nil))))⟩) r__law_shown
set_option maxHeartbeats 2000000 in
theorem ok__law_procedure (T : Tx K mg) (SM : SupM P K mg T.file) : FnG P w K mg base 6 T.a__law_procedure T.d__law_procedure ["pen", "word", "handed", "back", "registers", "callees"] c__law_procedure := by
  have SC := sc__law_procedure
  have F__law_draw := (ok__law_draw (P := P) (w := w) (base := base) T SM).mono (k := 5) (by decide)
  have F__law_mixed := (ok__law_mixed (P := P) (w := w) (base := base) T SM).mono (k := 5) (by decide)
  have F__law_pick := (ok__law_pick (P := P) (w := w) (base := base) T SM).mono (k := 5) (by decide)
  have F__law_sets := (ok__law_sets (P := P) (w := w) (base := base) T SM).mono (k := 5) (by decide)
  have F__law_shown := (ok__law_shown (P := P) (w := w) (base := base) T SM).mono (k := 5) (by decide)
  exact Fun.okD (k := 5) (ds := B__law_procedure) T.F__law_procedure sc__law_procedure l__law_procedure (fun cdv A outer s H hr am => ⟨_, (qss_cons (qs_set 6 SC.nd (q_call F__law_sets am hr T.m__law_sets T.F__law_sets.kp T.b__law_sets (qa_cons (qv 0) (qa_cons (qv 4) (qa_cons q_int qa_nil)))))
    (qss_cons (qs_if (qt_eq hr (q_call F__law_draw am hr T.m__law_draw T.F__law_draw.kp T.b__law_draw (qa_cons (qv 0) (qa_cons q_int qa_nil))) q_int) (qss_one (qs_expr (q_append (qv 6) (qa_cons (q_tup (qa_cons q_str (qa_cons (q_call F__law_pick am hr T.m__law_pick T.F__law_pick.kp T.b__law_pick (qa_cons (qv 0) (qa_cons (q_lst (qa_cons q_str (qa_cons q_str qa_nil))) qa_nil))) (qa_cons (q_call F__law_shown am hr T.m__law_shown T.F__law_shown.kp T.b__law_shown (qa_cons (qv 0) (qa_cons (qv 4) qa_nil))) qa_nil)))) qa_nil)))) qss_nil)
    (qss_cons (qs_set 7 SC.nd (q_len T.z_len (qa_cons (qv 6) qa_nil)))
    (qss_cons (qs_expr (q_append (qv 6) (qa_cons q_non qa_nil)))
    (qss_cons (qs_set 8 SC.nd (q_len T.z_len (qa_cons (qv 6) qa_nil)))
    (qss_cons (qs_set 6 SC.nd (q_add (qv 6) (q_call F__law_sets am hr T.m__law_sets T.F__law_sets.kp T.b__law_sets (qa_cons (qv 0) (qa_cons (qv 4) (qa_cons q_int qa_nil))))))
    (qss_cons (qs_if ((qw_and (qt_ne hr (qv 5) (q_lst qa_nil)) (qw_and1 (qt_gt (q_call F__law_draw am hr T.m__law_draw T.F__law_draw.kp T.b__law_draw (qa_cons (qv 0) (qa_cons q_int qa_nil))) q_int)))).t (qss_cons (qs_asg (q_call F__law_pick am hr T.m__law_pick T.F__law_pick.kp T.b__law_pick (qa_cons (qv 0) (qa_cons (qv 5) qa_nil))) (qg_tup rfl (qgs_cons (qg_name (i := 9) SC.nd) (qgs_cons (qg_name (i := 10) SC.nd) (qgs_cons (qg_name (i := 11) SC.nd) qgs_nil)))))
    (qss_cons (qs_set 12 SC.nd (q_tuple T.z_tuple (qa_cons (q_slA (q_call F__law_mixed am hr T.m__law_mixed T.F__law_mixed.kp T.b__law_mixed (qa_cons (qv 0) (qa_cons (q_listRg rfl T.z_list T.z_range (qv 4)) qa_nil))) qo_none (qo_some (qv 11))) qa_nil)))
    (qss_one (qs_expr (q_append (qv 6) (qa_cons (q_tup (qa_cons q_str (qa_cons (qv 9) (qa_cons (q_tuple T.z_tuple (qa_cons (q_lc [("turn", 14)] rfl SC.nd (qi_range1 T.z_range (qa_cons (qv 10) qa_nil)) (blkOk_by (by kernel_rfl)) (fun _ _ _ _ _ => ⟨_, (qg_name (i := 14) SC.nd), (is_name (by decide))⟩) (fun _ _ _ _ _ => ⟨_, qts_nil⟩) (fun _ _ _ _ _ => ⟨_, (q_call F__law_draw am hr T.m__law_draw T.F__law_draw.kp T.b__law_draw (qa_cons (qv 0) (qa_cons (qv 4) qa_nil)))⟩)) qa_nil)) (qa_cons (qv 12) qa_nil))))) qa_nil)))))) qss_nil)
    (qss_cons (qs_set 6 SC.nd (q_add (qv 6) (q_call F__law_sets am hr T.m__law_sets T.F__law_sets.kp T.b__law_sets (qa_cons (qv 0) (qa_cons (qv 4) (qa_cons q_int qa_nil))))))
    (qss_cons (qs_expr (q_append (qv 6) (qa_cons (q_ifE (qt_eq hr (q_call F__law_draw am hr T.m__law_draw T.F__law_draw.kp T.b__law_draw (qa_cons (qv 0) (qa_cons q_int qa_nil))) q_int) (q_tup (qa_cons q_str (qa_cons (qv 7) qa_nil))) (q_tup (qa_cons q_str (qa_cons (q_tuple T.z_tuple (qa_cons (q_lc [("turn", 14)] rfl SC.nd (qi_range1 T.z_range (qa_cons (qv 3) qa_nil)) (blkOk_by (by kernel_rfl)) (fun _ _ _ _ _ => ⟨_, (qg_name (i := 14) SC.nd), (is_name (by decide))⟩) (fun _ _ _ _ _ => ⟨_, qts_nil⟩) (fun _ _ _ _ _ => ⟨_, (q_call F__law_draw am hr T.m__law_draw T.F__law_draw.kp T.b__law_draw (qa_cons (qv 0) (qa_cons (qv 4) qa_nil)))⟩)) qa_nil)) qa_nil)))) qa_nil)))
    (qss_cons (qs_set 13 SC.nd (q_len T.z_len (qa_cons (qv 6) qa_nil)))
    (qss_cons (qs_set 6 SC.nd (q_add (q_add (qv 6) (q_call F__law_sets am hr T.m__law_sets T.F__law_sets.kp T.b__law_sets (qa_cons (qv 0) (qa_cons (qv 4) (qa_cons q_int qa_nil))))) (q_lst (qa_cons (q_tup (qa_cons q_str (qa_cons (q_tuple T.z_tuple (qa_cons (q_lc [("turn", 14)] rfl SC.nd (qi_range1 T.z_range (qa_cons (qv 3) qa_nil)) (blkOk_by (by kernel_rfl)) (fun _ _ _ _ _ => ⟨_, (qg_name (i := 14) SC.nd), (is_name (by decide))⟩) (fun _ _ _ _ _ => ⟨_, qts_nil⟩) (fun _ _ _ _ _ => ⟨_, (q_call F__law_draw am hr T.m__law_draw T.F__law_draw.kp T.b__law_draw (qa_cons (qv 0) (qa_cons (qv 4) qa_nil)))⟩)) qa_nil)) qa_nil))) qa_nil))))
    (qss_cons (qs_asg (q_tup (qa_cons q_str (qa_cons (q_call F__law_pick am hr T.m__law_pick T.F__law_pick.kp T.b__law_pick (qa_cons (qv 0) (qa_cons (q_lst (qa_cons q_str (qa_cons q_str (qa_cons q_str qa_nil)))) qa_nil))) (qa_cons (q_call F__law_shown am hr T.m__law_shown T.F__law_shown.kp T.b__law_shown (qa_cons (qv 0) (qa_cons (qv 4) qa_nil))) (qa_cons (qv 8) (qa_cons (qv 13) qa_nil)))))) (qg_ix (qv 6) (qv 7)))
    (qss_one (qs_ret (q_tup (qa_cons (qv 1) (qa_cons (qv 2) (qa_cons (qv 3) (qa_cons (qv 4) (qa_cons (q_tuple T.z_tuple (qa_cons (qv 6) qa_nil)) qa_nil))))))))))))))))))))⟩) r__law_procedure
set_option maxHeartbeats 2000000 in
theorem ok__law_plain (T : Tx K mg) (SM : SupM P K mg T.file) : FnG P w K mg base 7 T.a__law_plain T.d__law_plain ["pen", "procedures"] c__law_plain := by
  have SC := sc__law_plain
  have F__law_draw := (ok__law_draw (P := P) (w := w) (base := base) T SM).mono (k := 6) (by decide)
  have F__law_pick := (ok__law_pick (P := P) (w := w) (base := base) T SM).mono (k := 6) (by decide)
  have F__law_procedure := (ok__law_procedure (P := P) (w := w) (base := base) T SM).mono (k := 6) (by decide)
  exact Fun.okD (k := 6) (ds := B__law_plain) T.F__law_plain sc__law_plain l__law_plain (fun cdv A outer s H hr am => ⟨_, (qss_cons (qs_set 2 SC.nd (q_add q_int (q_call F__law_draw am hr T.m__law_draw T.F__law_draw.kp T.b__law_draw (qa_cons (qv 0) (qa_cons (qv 1) qa_nil)))))
    (qss_cons (qs_set 3 SC.nd (q_lc [("at", 7)] rfl SC.nd (qi_range1 T.z_range (qa_cons (qv 2) qa_nil)) (blkOk_by (by kernel_rfl)) (fun _ _ _ _ _ => ⟨_, (qg_name (i := 7) SC.nd), (is_name (by decide))⟩) (fun _ _ _ _ _ => ⟨_, qts_nil⟩) (fun _ _ _ _ _ => ⟨_, (q_tup (qa_cons (q_call F__law_draw am hr T.m__law_draw T.F__law_draw.kp T.b__law_draw (qa_cons (qv 0) (qa_cons q_int qa_nil))) (qa_cons (q_call F__law_pick am hr T.m__law_pick T.F__law_pick.kp T.b__law_pick (qa_cons (qv 0) (qa_cons (q_lst (qa_cons q_int (qa_cons q_int (qa_cons q_int (qa_cons q_int qa_nil))))) qa_nil))) qa_nil)))⟩)))
    (qss_cons (qs_if (qt_eq hr (q_call F__law_draw am hr T.m__law_draw T.F__law_draw.kp T.b__law_draw (qa_cons (qv 0) (qa_cons q_int qa_nil))) q_int) (qss_cons (qs_set 3 SC.nd (q_lc [("at", 7)] rfl SC.nd (qi_range1 T.z_range (qa_cons (q_min2 rfl T.z_min (qa_cons (qv 2) (qa_cons q_int qa_nil))) qa_nil)) (blkOk_by (by kernel_rfl)) (fun _ _ _ _ _ => ⟨_, (qg_name (i := 7) SC.nd), (is_name (by decide))⟩) (fun _ _ _ _ _ => ⟨_, qts_nil⟩) (fun _ _ _ _ _ => ⟨_, (q_tup (qa_cons (q_call F__law_pick am hr T.m__law_pick T.F__law_pick.kp T.b__law_pick (qa_cons (qv 0) (qa_cons (q_lst (qa_cons q_int (qa_cons q_int (qa_cons q_int qa_nil)))) qa_nil))) (qa_cons (q_call F__law_pick am hr T.m__law_pick T.F__law_pick.kp T.b__law_pick (qa_cons (qv 0) (qa_cons (q_lst (qa_cons q_int (qa_cons q_int (qa_cons q_int (qa_cons q_int qa_nil))))) qa_nil))) qa_nil)))⟩)))
    (qss_one (qs_set 2 SC.nd (q_len T.z_len (qa_cons (qv 3) qa_nil))))) qss_nil)
    (qss_cons (qs_set 4 SC.nd (q_lc [("handed", 9), ("back", 10)] rfl SC.nd (qi_seq (qv 3)) (blkOk_by (by kernel_rfl)) (fun _ _ _ _ _ => ⟨_, (qg_tup rfl (qgs_cons (qg_name (i := 9) SC.nd) (qgs_cons (qg_name (i := 10) SC.nd) qgs_nil))), (is_tup (is_cons (is_name (by decide)) (is_cons (is_name (by decide)) is_nil)))⟩) (fun _ _ _ _ _ => ⟨_, qts_nil⟩) (fun _ _ _ _ _ => ⟨_, (q_min2 rfl T.z_min (qa_cons q_int (qa_cons (q_add (q_max3 rfl T.z_max (qa_cons q_int (qa_cons (qv 9) (qa_cons (qv 10) qa_nil)))) (q_call F__law_draw am hr T.m__law_draw T.F__law_draw.kp T.b__law_draw (qa_cons (qv 0) (qa_cons q_int qa_nil)))) qa_nil)))⟩)))
    (qss_cons (qs_setLc 5 [("at", 7)] rfl SC.nd (qi_range2 T.z_range (qa_cons q_int (qa_cons (qv 2) qa_nil))) (blkOk_by (by kernel_rfl)) (fun _ _ _ _ _ => ⟨_, (qg_name (i := 7) SC.nd), (is_name (by decide))⟩) (fun _ _ _ _ _ => ⟨_, qts_nil⟩) (fun _ _ _ _ _ => ⟨_, (q_tup (qa_cons (qv 7) (qa_cons (q_ix (q_ix (qv 3) (qv 7)) q_int) (qa_cons (q_ix (q_ix (qv 3) (qv 7)) q_int) qa_nil))))⟩))
    (qss_cons (qs_set 6 SC.nd (q_lst qa_nil))
    (qss_cons (qs_for PassesOwn.never rfl (qi_range1 T.z_range (qa_cons (qv 2) qa_nil)) (qg_name (i := 7) SC.nd) (qss_cons (qs_setLc 8 [("row", 11)] rfl SC.nd (qi_seq (qv 5)) (blkOk_by (by kernel_rfl)) (fun _ _ _ _ _ => ⟨_, (qg_name (i := 11) SC.nd), (is_name (by decide))⟩) (fun _ _ _ _ _ => ⟨_, (qts_one (qt_le (q_ix (qv 11) q_int) (q_ix (qv 4) (qv 7))))⟩) (fun _ _ _ _ _ => ⟨_, (qv 11)⟩))
    (qss_one (qs_expr (q_append (qv 6) (qa_cons (q_call F__law_procedure am hr T.m__law_procedure T.F__law_procedure.kp T.b__law_procedure (qa_cons (qv 0) (qa_cons (q_ix (q_lst (qa_cons q_str (qa_cons q_str (qa_cons q_str (qa_cons q_str qa_nil))))) (qv 7)) (qa_cons (q_ix (q_ix (qv 3) (qv 7)) q_int) (qa_cons (q_ix (q_ix (qv 3) (qv 7)) q_int) (qa_cons (q_ix (qv 4) (qv 7)) (qa_cons (qv 8) qa_nil))))))) qa_nil))))))
    (qss_one (qs_ret (q_tuple T.z_tuple (qa_cons (qv 6) qa_nil)))))))))))⟩) r__law_plain
set_option maxHeartbeats 2000000 in
theorem ok__law_made (T : Tx K mg) (SM : SupM P K mg T.file) : FnG P w K mg base 12 T.a__law_made T.d__law_made ["plain"] (c__law_made T.G) := by
  have SC := sc__law_made
  have M_Code := ((ok_Code___init__ (P := P) (w := w) (base := base) T SM).toC T.b_Code___init__).mono (k := 10) (by decide)
  exact Fun.okD (k := 11) (ds := (b__law_made T.G)) T.F__law_made sc__law_made (l__law_made T.G) (fun cdv A outer s H hr am => ⟨_, (qss_one (qs_ret (q_makeC T.mk_Code M_Code am hr T.m_Code (qa_cons (q_lc [("word", 1), ("handed", 2), ("back", 3), ("registers", 4), ("steps", 5)] rfl SC.nd (qi_seq (qv 0)) (blkOk_by (by kernel_rfl)) (fun _ _ _ _ _ => ⟨_, (qg_tup rfl (qgs_cons (qg_name (i := 1) SC.nd) (qgs_cons (qg_name (i := 2) SC.nd) (qgs_cons (qg_name (i := 3) SC.nd) (qgs_cons (qg_name (i := 4) SC.nd) (qgs_cons (qg_name (i := 5) SC.nd) qgs_nil)))))), (is_tup (is_cons (is_name (by decide)) (is_cons (is_name (by decide)) (is_cons (is_name (by decide)) (is_cons (is_name (by decide)) (is_cons (is_name (by decide)) is_nil))))))⟩) (fun _ _ _ _ _ => ⟨_, qts_nil⟩) (fun _ _ _ _ _ => ⟨_, (q_lst (qa_cons (qv 1) (qa_cons (qv 2) (qa_cons (qv 3) (qa_cons (qv 4) (qa_cons (q_lc [("step", 6)] rfl SC.nd (qi_seq (qv 5)) (blkOk_by (by kernel_rfl)) (fun _ _ _ _ _ => ⟨_, (qg_name (i := 6) SC.nd), (is_name (by decide))⟩) (fun _ _ _ _ _ => ⟨_, qts_nil⟩) (fun _ _ _ _ _ => ⟨_, (q_list T.z_list (qa_cons (qv 6) qa_nil))⟩)) qa_nil))))))⟩)) qa_nil))))⟩) (r__law_made T.G)
set_option maxHeartbeats 2000000 in
theorem ok__law_nexts (T : Tx K mg) (SM : SupM P K mg T.file) : FnG P w K mg base 1 T.a__law_nexts T.d__law_nexts ["steps", "place"] c__law_nexts := by
  have SC := sc__law_nexts
  exact Fun.okP (k := 0) (ds := b__law_nexts) T.F__law_nexts sc__law_nexts l__law_nexts (fun cdv A outer s H hr am => ⟨_, (qss_cons (qs_set 2 SC.nd (q_ix (qv 0) (qv 1)))
    (qss_cons (qs_if (qt_eq hr (q_ix (qv 2) q_int) q_str) (qss_one (qs_ret (q_lst (qa_cons (q_ix (qv 2) q_int) (qa_cons (q_ix (qv 2) q_int) qa_nil))))) qss_nil)
    (qss_one (qs_ret (q_ifE (qt_eq hr (q_ix (qv 2) q_int) q_str) (q_lst qa_nil) (q_ifE (qt_eq hr (q_ix (qv 2) q_int) q_str) (q_lst (qa_cons (q_ix (qv 2) q_int) qa_nil)) (q_lst (qa_cons (q_add (qv 1) q_int) qa_nil))))))))⟩) r__law_nexts
set_option maxHeartbeats 2000000 in
theorem ok__law_lot (T : Tx K mg) (SM : SupM P K mg T.file) : FnG P w K mg base 2 T.a__law_lot T.d__law_lot ["plain", "lots", "backs", "number", "place"] c__law_lot := by
  have SC := sc__law_lot
  have F__law_nexts := (ok__law_nexts (P := P) (w := w) (base := base) T SM).mono (k := 1) (by decide)
  exact Fun.okD (k := 1) (ds := B__law_lot) T.F__law_lot sc__law_lot l__law_lot (fun cdv A outer s H hr am => ⟨_, (qss_cons (qs_set 5 SC.nd (q_ix (q_ix (qv 0) (qv 3)) q_int))
    (qss_cons (qs_asg (q_tup (qa_cons (q_ix (qv 5) (qv 4)) (qa_cons (q_lst qa_nil) qa_nil))) (qg_tup rfl (qgs_cons (qg_name (i := 6) SC.nd) (qgs_cons (qg_name (i := 7) SC.nd) qgs_nil))))
    (qss_cons (qs_for PassesOwn.never rfl (qi_seq (q_call F__law_nexts am hr T.m__law_nexts T.F__law_nexts.kp T.b__law_nexts (qa_cons (qv 5) (qa_cons (qv 4) qa_nil)))) (qg_name (i := 8) SC.nd) (qss_one (qs_set 7 SC.nd (q_add (qv 7) (q_ix (q_ix (qv 1) (qv 3)) (qv 8))))))
    (qss_cons (qs_if (qt_eq hr (q_ix (qv 6) q_int) q_str) (qss_one (qs_set 7 SC.nd (q_ifE (qt_notinS (q_ix (qv 6) q_int) (qv 7)) (qv 7) (q_add (q_lc [("one", 8)] rfl SC.nd (qi_seq (qv 7)) (blkOk_by (by kernel_rfl)) (fun _ _ _ _ _ => ⟨_, (qg_name (i := 8) SC.nd), (is_name (by decide))⟩) (fun _ _ _ _ _ => ⟨_, (qts_one (qt_ne hr (qv 8) (q_ix (qv 6) q_int)))⟩) (fun _ _ _ _ _ => ⟨_, (qv 8)⟩)) (q_lc [("pair", 9)] rfl SC.nd (qi_seq (q_ix (qv 6) q_int)) (blkOk_by (by kernel_rfl)) (fun _ _ _ _ _ => ⟨_, (qg_name (i := 9) SC.nd), (is_name (by decide))⟩) (fun _ _ _ _ _ => ⟨_, qts_nil⟩) (fun _ _ _ _ _ => ⟨_, (q_ix (qv 9) q_int)⟩)))))) (qss_one (qs_if (qt_inS (q_ix (qv 6) q_int) (q_tup (qa_cons q_str (qa_cons q_str qa_nil)))) (qss_one (qs_set 7 SC.nd (q_add (qv 7) (q_list T.z_list (qa_cons (q_ix (qv 6) q_int) qa_nil))))) (qss_one (qs_if (qt_eq hr (q_ix (qv 6) q_int) q_str) (qss_one (qs_set 7 SC.nd (q_add (q_lc [("one", 8)] rfl SC.nd (qi_seq (qv 7)) (blkOk_by (by kernel_rfl)) (fun _ _ _ _ _ => ⟨_, (qg_name (i := 8) SC.nd), (is_name (by decide))⟩) (fun _ _ _ _ _ => ⟨_, (qts_one (qt_notinS (qv 8) (q_ix (qv 6) q_int)))⟩) (fun _ _ _ _ _ => ⟨_, (qv 8)⟩)) (q_lc [("at", 10), ("one", 8)] rfl SC.nd (qi_enum T.z_enumerate (qa_cons (q_ix (qv 6) q_int) qa_nil)) (blkOk_by (by kernel_rfl)) (fun _ _ _ _ _ => ⟨_, (qg_tup rfl (qgs_cons (qg_name (i := 10) SC.nd) (qgs_cons (qg_name (i := 8) SC.nd) qgs_nil))), (is_tup (is_cons (is_name (by decide)) (is_cons (is_name (by decide)) is_nil)))⟩) (fun _ _ _ _ _ => ⟨_, (qts_one (qt_inS (qv 10) (q_ix (q_ix (qv 1) (q_ix (qv 6) q_int)) q_int)))⟩) (fun _ _ _ _ _ => ⟨_, (qv 8)⟩))))) (qss_one (qs_if (qt_eq hr (q_ix (qv 6) q_int) q_str) (qss_one (qs_setLc 7 [("at", 10)] rfl SC.nd (qi_seq (q_ix (qv 2) (qv 3))) (blkOk_by (by kernel_rfl)) (fun _ _ _ _ _ => ⟨_, (qg_name (i := 10) SC.nd), (is_name (by decide))⟩) (fun _ _ _ _ _ => ⟨_, qts_nil⟩) (fun _ _ _ _ _ => ⟨_, (q_ix (q_ix (qv 6) q_int) (qv 10))⟩))) qss_nil)))))))
    (qss_one (qs_ret (q_sortedSet rfl T.z_sorted T.z_set (qa_cons (qv 7) qa_nil))))))))⟩) r__law_lot
set_option maxHeartbeats 2000000 in
theorem ok__law_least_lots (T : Tx K mg) (SM : SupM P K mg T.file) : FnG P w K mg base 3 T.a__law_least_lots T.d__law_least_lots ["plain"] c__law_least_lots := by
  have SC := sc__law_least_lots
  have F__law_lot := (ok__law_lot (P := P) (w := w) (base := base) T SM).mono (k := 2) (by decide)
  exact Fun.okD (k := 2) (ds := B__law_least_lots) T.F__law_least_lots sc__law_least_lots l__law_least_lots (fun cdv A outer s H hr am => ⟨_, (qss_cons (qs_setLc 1 [("one", 6)] rfl SC.nd (qi_seq (qv 0)) (blkOk_by (by kernel_rfl)) (fun _ _ _ _ _ => ⟨_, (qg_name (i := 6) SC.nd), (is_name (by decide))⟩) (fun _ _ _ _ _ => ⟨_, qts_nil⟩) (fun _ _ _ _ _ => ⟨_, (q_lc [("step", 8)] rfl SC.nd (qi_seq (q_ix (qv 6) q_int)) (blkOk_by (by kernel_rfl)) (fun _ _ _ _ _ => ⟨_, (qg_name (i := 8) SC.nd), (is_name (by decide))⟩) (fun _ _ _ _ _ => ⟨_, qts_nil⟩) (fun _ _ _ _ _ => ⟨_, (q_lst qa_nil)⟩))⟩))
    (qss_cons (qs_setLc 2 [("at", 10), ("one", 6)] rfl SC.nd (qi_enum T.z_enumerate (qa_cons (qv 0) qa_nil)) (blkOk_by (by kernel_rfl)) (fun _ _ _ _ _ => ⟨_, (qg_tup rfl (qgs_cons (qg_name (i := 10) SC.nd) (qgs_cons (qg_name (i := 6) SC.nd) qgs_nil))), (is_tup (is_cons (is_name (by decide)) (is_cons (is_name (by decide)) is_nil)))⟩) (fun _ _ _ _ _ => ⟨_, qts_nil⟩) (fun _ _ _ _ _ => ⟨_, (q_ifE (qt_eq hr (qv 10) q_int) (q_listRg rfl T.z_list T.z_range (q_ix (qv 6) q_int)) (q_lst qa_nil))⟩))
    (qss_cons (qs_for PassesOwn.never rfl (qi_range1 T.z_range (qa_cons q_int qa_nil)) (qg_name (i := 3) SC.nd) (qss_cons (qs_set 4 SC.nd (q_reprD am.guards hr T.z_repr (qa_cons (q_lst (qa_cons (qv 1) (qa_cons (qv 2) qa_nil))) qa_nil)))
    (qss_cons (qs_for PassesOwn.never rfl (qi_enum T.z_enumerate (qa_cons (qv 0) qa_nil)) (qg_tup rfl (qgs_cons (qg_name (i := 5) SC.nd) (qgs_cons (qg_name (i := 6) SC.nd) qgs_nil))) (qss_one (qs_for PassesOwn.never rfl (qi_enum T.z_enumerate (qa_cons (q_ix (qv 6) q_int) qa_nil)) (qg_tup rfl (qgs_cons (qg_name (i := 7) SC.nd) (qgs_cons (qg_name (i := 8) SC.nd) qgs_nil))) (qss_cons (qs_asg (q_call F__law_lot am hr T.m__law_lot T.F__law_lot.kp T.b__law_lot (qa_cons (qv 0) (qa_cons (qv 1) (qa_cons (qv 2) (qa_cons (qv 5) (qa_cons (qv 7) qa_nil)))))) (qg_ix (q_ix (qv 1) (qv 5)) (qv 7)))
    (qss_one (qs_if (qt_eq hr (q_ix (qv 8) q_int) q_str) (qss_cons (qs_set 9 SC.nd (q_ix (q_ix (qv 1) (qv 5)) (q_add (qv 7) q_int)))
    (qss_one (qs_asg (q_sortedSet rfl T.z_sorted T.z_set (qa_cons (q_add (q_ix (qv 2) (q_ix (qv 8) q_int)) (q_lc [("at", 10), ("its", 11)] rfl SC.nd (qi_enum T.z_enumerate (qa_cons (q_ix (qv 8) q_int) qa_nil)) (blkOk_by (by kernel_rfl)) (fun _ _ _ _ _ => ⟨_, (qg_tup rfl (qgs_cons (qg_name (i := 10) SC.nd) (qgs_cons (qg_name (i := 11) SC.nd) qgs_nil))), (is_tup (is_cons (is_name (by decide)) (is_cons (is_name (by decide)) is_nil)))⟩) (fun _ _ _ _ _ => ⟨_, (qts_one (qt_inS (qv 11) (qv 9)))⟩) (fun _ _ _ _ _ => ⟨_, (qv 10)⟩))) qa_nil)) (qg_ix (qv 2) (q_ix (qv 8) q_int))))) qss_nil))))))
    (qss_one (qs_if (qt_eq hr (q_reprD am.guards hr T.z_repr (qa_cons (q_lst (qa_cons (qv 1) (qa_cons (qv 2) qa_nil))) qa_nil)) (qv 4)) (qss_one qs_break) qss_nil)))))
    (qss_one (qs_ret (q_tup (qa_cons (qv 2) (qa_cons (qv 1) qa_nil))))))))⟩) r__law_least_lots
set_option maxHeartbeats 2000000 in
theorem ok__law_is_closed (T : Tx K mg) (SM : SupM P K mg T.file) : FnG P w K mg base 3 T.a__law_is_closed T.d__law_is_closed ["plain", "backs", "lots"] c__law_is_closed := by
  have SC := sc__law_is_closed
  have F__law_lot := (ok__law_lot (P := P) (w := w) (base := base) T SM).mono (k := 2) (by decide)
  exact Fun.okD (k := 2) (ds := b__law_is_closed) T.F__law_is_closed sc__law_is_closed l__law_is_closed (fun cdv A outer s H hr am => ⟨_, (qss_cons (qs_if (qt_ne hr (q_ix (qv 1) q_int) (q_listRg rfl T.z_list T.z_range (q_ix (q_ix (qv 0) q_int) q_int))) (qss_one (qs_ret q_bl)) qss_nil)
    (qss_cons (qs_for PassesOwn.never rfl (qi_enum T.z_enumerate (qa_cons (qv 0) qa_nil)) (qg_tup rfl (qgs_cons (qg_name (i := 3) SC.nd) (qgs_cons (qg_name (i := 4) SC.nd) qgs_nil))) (qss_one (qs_for PassesOwn.never rfl (qi_enum T.z_enumerate (qa_cons (q_ix (qv 4) q_int) qa_nil)) (qg_tup rfl (qgs_cons (qg_name (i := 5) SC.nd) (qgs_cons (qg_name (i := 6) SC.nd) qgs_nil))) (qss_cons (qs_if (qt_ne hr (q_lc [("slot", 7)] rfl SC.nd (qi_seq (q_call F__law_lot am hr T.m__law_lot T.F__law_lot.kp T.b__law_lot (qa_cons (qv 0) (qa_cons (qv 2) (qa_cons (qv 1) (qa_cons (qv 3) (qa_cons (qv 5) qa_nil))))))) (blkOk_by (by kernel_rfl)) (fun _ _ _ _ _ => ⟨_, (qg_name (i := 7) SC.nd), (is_name (by decide))⟩) (fun _ _ _ _ _ => ⟨_, (qts_one (qt_notinS (qv 7) (q_ix (q_ix (qv 2) (qv 3)) (qv 5))))⟩) (fun _ _ _ _ _ => ⟨_, (qv 7)⟩)) (q_lst qa_nil)) (qss_one (qs_ret q_bl)) qss_nil)
    (qss_one (qs_if ((qw_and (qt_eq hr (q_ix (qv 6) q_int) q_str) (qw_and1 (qt_ne hr (q_lc [("at", 8), ("slot", 7)] rfl SC.nd (qi_enum T.z_enumerate (qa_cons (q_ix (qv 6) q_int) qa_nil)) (blkOk_by (by kernel_rfl)) (fun _ _ _ _ _ => ⟨_, (qg_tup rfl (qgs_cons (qg_name (i := 8) SC.nd) (qgs_cons (qg_name (i := 7) SC.nd) qgs_nil))), (is_tup (is_cons (is_name (by decide)) (is_cons (is_name (by decide)) is_nil)))⟩) (fun _ _ _ _ _ => ⟨_, (qts_one ((qw_and (qt_inS (qv 7) (q_ix (q_ix (qv 2) (qv 3)) (q_add (qv 5) q_int))) (qw_and1 (qt_notinS (qv 8) (q_ix (qv 1) (q_ix (qv 6) q_int)))))).t)⟩) (fun _ _ _ _ _ => ⟨_, (qv 8)⟩)) (q_lst qa_nil))))).t (qss_one (qs_ret q_bl)) qss_nil))))))
    (qss_one (qs_ret q_bl))))⟩) r__law_is_closed
set_option maxHeartbeats 2000000 in
theorem ok_law (T : Tx K mg) (SM : SupM P K mg T.file) : FnG P w K mg base 13 T.a_law T.d_law ["script"] c_law := by
  have SC := sc_law
  have F__law_draw := (ok__law_draw (P := P) (w := w) (base := base) T SM).mono (k := 12) (by decide)
  have F__law_is_closed := (ok__law_is_closed (P := P) (w := w) (base := base) T SM).mono (k := 12) (by decide)
  have F__law_least_lots := (ok__law_least_lots (P := P) (w := w) (base := base) T SM).mono (k := 12) (by decide)
  have F__law_made := (ok__law_made (P := P) (w := w) (base := base) T SM).mono (k := 12) (by decide)
  have F__law_pen := (ok__law_pen (P := P) (w := w) (base := base) T SM).mono (k := 12) (by decide)
  have F__law_pick := (ok__law_pick (P := P) (w := w) (base := base) T SM).mono (k := 12) (by decide)
  have F__law_plain := (ok__law_plain (P := P) (w := w) (base := base) T SM).mono (k := 12) (by decide)
  have F_shows_needed := (ok_shows_needed (P := P) (w := w) (base := base) T SM).mono (k := 12) (by decide)
  have M_Needed := (ok_Needed___init__ (P := P) (w := w) (base := base) T SM).mono (k := 11) (by decide)
  have M_Paper := (ok_Paper___init__ (P := P) (w := w) (base := base) T SM T.cl_Paper T.na_Paper_word T.na_Paper_parts).mono (k := 11) (by decide)
  exact Fun.okD (k := 12) (ds := (B_law T.G)) T.F_law sc_law l_law (fun cdv A outer s H hr am => ⟨_, (qss_cons (qs_set 1 SC.nd (q_call F__law_pen am hr T.m__law_pen T.F__law_pen.kp T.b__law_pen (qa_cons (qv 0) qa_nil)))
    (qss_cons (qs_for PassesOwn.never rfl (qi_range1 T.z_range (qa_cons q_int qa_nil)) (qg_name (i := 2) SC.nd) (qss_cons (qs_set 3 SC.nd (q_call F__law_plain am hr T.m__law_plain T.F__law_plain.kp T.b__law_plain (qa_cons (qv 1) (qa_cons q_int qa_nil))))
    (qss_cons (qs_asg (q_tup (qa_cons (q_call F__law_made am hr T.m__law_made T.F__law_made.kp T.b__law_made (qa_cons (qv 3) qa_nil)) (qa_cons (q_len T.z_len (qa_cons (qv 3) qa_nil)) qa_nil))) (qg_tup rfl (qgs_cons (qg_name (i := 4) SC.nd) (qgs_cons (qg_name (i := 5) SC.nd) qgs_nil))))
    (qss_cons (qs_for PassesOwn.never rfl (qi_range1 T.z_range (qa_cons q_int qa_nil)) (qg_name (i := 6) SC.nd) (qss_cons (qs_asg (q_call F__law_least_lots am hr T.m__law_least_lots T.F__law_least_lots.kp T.b__law_least_lots (qa_cons (qv 3) qa_nil)) (qg_tup rfl (qgs_cons (qg_name (i := 7) SC.nd) (qgs_cons (qg_name (i := 8) SC.nd) qgs_nil))))
    (qss_cons (qs_if (qt_gt (qv 6) q_int) (qss_cons (qs_setLc 7 [("spot", 19), ("row", 20)] rfl SC.nd (qi_enum T.z_enumerate (qa_cons (qv 7) qa_nil)) (blkOk_by (by kernel_rfl)) (fun _ _ _ _ _ => ⟨_, (qg_tup rfl (qgs_cons (qg_name (i := 19) SC.nd) (qgs_cons (qg_name (i := 20) SC.nd) qgs_nil))), (is_tup (is_cons (is_name (by decide)) (is_cons (is_name (by decide)) is_nil)))⟩) (fun _ _ _ _ _ => ⟨_, qts_nil⟩) (fun _ _ _ _ _ => ⟨_, (q_sortedSet rfl T.z_sorted T.z_set (qa_cons (q_add (qv 20) (q_lc [("at", 21)] rfl SC.nd (qi_range1 T.z_range (qa_cons (q_ix (q_ix (qv 3) (qv 19)) q_int) qa_nil)) (blkOk_by (by kernel_rfl)) (fun _ _ _ _ _ => ⟨_, (qg_name (i := 21) SC.nd), (is_name (by decide))⟩) (fun _ _ _ _ _ => ⟨_, (qts_one (qt_eq hr (q_call F__law_draw am hr T.m__law_draw T.F__law_draw.kp T.b__law_draw (qa_cons (qv 1) (qa_cons q_int qa_nil))) q_int))⟩) (fun _ _ _ _ _ => ⟨_, (qv 21)⟩))) qa_nil))⟩))
    (qss_one (qs_setLc 8 [("spot", 19), ("row", 20)] rfl SC.nd (qi_enum T.z_enumerate (qa_cons (qv 8) qa_nil)) (blkOk_by (by kernel_rfl)) (fun _ _ _ _ _ => ⟨_, (qg_tup rfl (qgs_cons (qg_name (i := 19) SC.nd) (qgs_cons (qg_name (i := 20) SC.nd) qgs_nil))), (is_tup (is_cons (is_name (by decide)) (is_cons (is_name (by decide)) is_nil)))⟩) (fun _ _ _ _ _ => ⟨_, qts_nil⟩) (fun _ _ _ _ _ => ⟨_, (q_lc [("lot", 12)] rfl SC.nd (qi_seq (qv 20)) (blkOk_by (by kernel_rfl)) (fun _ _ _ _ _ => ⟨_, (qg_name (i := 12) SC.nd), (is_name (by decide))⟩) (fun _ _ _ _ _ => ⟨_, qts_nil⟩) (fun _ _ _ _ _ => ⟨_, (q_ifE (qt_eq hr (q_call F__law_draw am hr T.m__law_draw T.F__law_draw.kp T.b__law_draw (qa_cons (qv 1) (qa_cons q_int qa_nil))) q_int) (q_listRg rfl T.z_list T.z_range (q_ix (q_ix (qv 3) (qv 19)) q_int)) (qv 12))⟩))⟩)))) qss_nil)
    (qss_cons (qs_par 9 10 rfl SC.nd (qa_cons (q_call F__law_draw am hr T.m__law_draw T.F__law_draw.kp T.b__law_draw (qa_cons (qv 1) (qa_cons (qv 5) qa_nil))) (qa_cons (q_call F__law_draw am hr T.m__law_draw T.F__law_draw.kp T.b__law_draw (qa_cons (qv 1) (qa_cons q_int qa_nil))) qa_nil)))
    (qss_cons (qs_set 11 SC.nd (q_call F__law_draw am hr T.m__law_draw T.F__law_draw.kp T.b__law_draw (qa_cons (qv 1) (qa_cons (q_len T.z_len (qa_cons (q_ix (qv 8) (qv 9)) qa_nil)) qa_nil))))
    (qss_cons (qs_set 12 SC.nd (q_ix (q_ix (qv 8) (qv 9)) (qv 11)))
    (qss_cons (qs_if ((qw_and (qt_eq hr (qv 10) q_int) (qw_and1 (qt_ne hr (qv 12) (q_lst qa_nil))))).t (qss_one (qs_asg (q_slA (qv 12) qo_none (qo_some (q_neg q_int))) (qg_ix (q_ix (qv 8) (qv 9)) (qv 11)))) (qss_one (qs_if ((qw_and (qt_eq hr (qv 10) q_int) (qw_and1 (qt_lt (q_len T.z_len (qa_cons (qv 12) qa_nil)) (q_ix (q_ix (qv 3) (qv 9)) q_int))))).t (qss_one (qs_asg (q_sortedI T.z_sorted (qa_cons (q_add (qv 12) (q_lst (qa_cons (q_ix (q_lc [("slot", 22)] rfl SC.nd (qi_range1 T.z_range (qa_cons (q_ix (q_ix (qv 3) (qv 9)) q_int) qa_nil)) (blkOk_by (by kernel_rfl)) (fun _ _ _ _ _ => ⟨_, (qg_name (i := 22) SC.nd), (is_name (by decide))⟩) (fun _ _ _ _ _ => ⟨_, (qts_one (qt_notinS (qv 22) (qv 12)))⟩) (fun _ _ _ _ _ => ⟨_, (qv 22)⟩)) q_int) qa_nil))) qa_nil)) (qg_ix (q_ix (qv 8) (qv 9)) (qv 11)))) (qss_one (qs_if ((qw_and (qt_eq hr (qv 10) q_int) (qw_and1 (qt_ne hr (q_ix (qv 7) (qv 9)) (q_lst qa_nil))))).t (qss_one (qs_asg (q_slA (q_ix (qv 7) (qv 9)) (qo_some q_int) qo_none) (qg_ix (qv 7) (qv 9)))) qss_nil)))))
    (qss_one (qs_if (qt_ne hr (q_reprD am.guards hr T.z_repr (qa_cons (q_call F_shows_needed am hr T.m_shows_needed T.F_shows_needed.kp T.b_shows_needed (qa_cons (qv 4) (qa_cons (q_makeC T.mk_Needed M_Needed am hr T.m_Needed (qa_cons (qv 7) (qa_cons (qv 8) qa_nil))) qa_nil))) qa_nil)) (q_reprD am.guards hr T.z_repr (qa_cons (q_call F__law_is_closed am hr T.m__law_is_closed T.F__law_is_closed.kp T.b__law_is_closed (qa_cons (qv 3) (qa_cons (qv 7) (qa_cons (qv 8) qa_nil)))) qa_nil))) (qss_one (qs_ret q_bl)) qss_nil)))))))))
    (qss_cons (qs_asg (q_call F__law_least_lots am hr T.m__law_least_lots T.F__law_least_lots.kp T.b__law_least_lots (qa_cons (qv 3) qa_nil)) (qg_tup rfl (qgs_cons (qg_name (i := 7) SC.nd) (qgs_cons (qg_name (i := 8) SC.nd) qgs_nil))))
    (qss_cons (qs_setLc 13 [("one", 17)] rfl SC.nd (qi_seq (qv 3)) (blkOk_by (by kernel_rfl)) (fun _ _ _ _ _ => ⟨_, (qg_name (i := 17) SC.nd), (is_name (by decide))⟩) (fun _ _ _ _ _ => ⟨_, qts_nil⟩) (fun _ _ _ _ _ => ⟨_, (q_lc [("step", 18)] rfl SC.nd (qi_seq (q_ix (qv 17) q_int)) (blkOk_by (by kernel_rfl)) (fun _ _ _ _ _ => ⟨_, (qg_name (i := 18) SC.nd), (is_name (by decide))⟩) (fun _ _ _ _ _ => ⟨_, qts_nil⟩) (fun _ _ _ _ _ => ⟨_, (q_listRg rfl T.z_list T.z_range (q_ix (qv 17) q_int))⟩))⟩))
    (qss_cons (qs_setLc 14 [("one", 17)] rfl SC.nd (qi_seq (qv 3)) (blkOk_by (by kernel_rfl)) (fun _ _ _ _ _ => ⟨_, (qg_name (i := 17) SC.nd), (is_name (by decide))⟩) (fun _ _ _ _ _ => ⟨_, qts_nil⟩) (fun _ _ _ _ _ => ⟨_, (q_listRg rfl T.z_list T.z_range (q_ix (qv 17) q_int))⟩))
    (qss_cons (qs_set 15 SC.nd (q_call F__law_pick am hr T.m__law_pick T.F__law_pick.kp T.b__law_pick (qa_cons (qv 1) (qa_cons (q_lst (qa_cons (q_lst (qa_cons q_int (qa_cons q_int qa_nil))) (qa_cons (q_lst (qa_cons q_int (qa_cons q_int qa_nil))) (qa_cons (q_lst (qa_cons (q_neg q_int) qa_nil)) (qa_cons (q_lst (qa_cons q_int qa_nil)) (qa_cons (q_lst (qa_cons q_bl qa_nil)) (qa_cons (q_lst (qa_cons q_non qa_nil)) (qa_cons (q_lst (qa_cons q_str qa_nil)) (qa_cons q_non (qa_cons q_int qa_nil)))))))))) qa_nil))))
    (qss_cons (qs_set 16 SC.nd (q_lst (qa_cons q_non (qa_cons q_int (qa_cons (q_tup qa_nil) (qa_cons (q_makeC T.mk_Needed M_Needed am hr T.m_Needed (qa_cons q_non (qa_cons (qv 13) qa_nil))) (qa_cons (q_makeC T.mk_Needed M_Needed am hr T.m_Needed (qa_cons (qv 14) (qa_cons q_non qa_nil))) (qa_cons (q_makeC T.mk_Needed M_Needed am hr T.m_Needed (qa_cons (q_add (qv 14) (q_lst (qa_cons (q_lst qa_nil) qa_nil))) (qa_cons (qv 13) qa_nil))) (qa_cons (q_makeC T.mk_Needed M_Needed am hr T.m_Needed (qa_cons (qv 14) (qa_cons (q_add (qv 13) (q_lst (qa_cons (q_lst qa_nil) qa_nil))) qa_nil))) (qa_cons (q_makeC T.mk_Needed M_Needed am hr T.m_Needed (qa_cons (qv 14) (qa_cons (q_slA (qv 13) (qo_some q_int) qo_none) qa_nil))) (qa_cons (q_makeC T.mk_Paper M_Paper am hr T.m_Paper (qa_cons q_str (qa_cons (qv 14) (qa_cons (qv 13) qa_nil)))) qa_nil)))))))))))
    (qss_cons (qs_expr (q_append (qv 16) (qa_cons (q_makeC T.mk_Needed M_Needed am hr T.m_Needed (qa_cons (q_add (q_lst (qa_cons (qv 15) qa_nil)) (q_slA (qv 14) (qo_some q_int) qo_none)) (qa_cons (qv 13) qa_nil))) qa_nil)))
    (qss_cons (qs_set 16 SC.nd (q_add (qv 16) (q_lst (qa_cons (q_makeC T.mk_Needed M_Needed am hr T.m_Needed (qa_cons (qv 14) (qa_cons (q_add (q_lst (qa_cons (q_add (q_lst (qa_cons (qv 15) qa_nil)) (q_slA (q_ix (qv 13) q_int) (qo_some q_int) qo_none)) qa_nil)) (q_slA (qv 13) (qo_some q_int) qo_none)) qa_nil))) (qa_cons (q_makeC T.mk_Needed M_Needed am hr T.m_Needed (qa_cons (qv 14) (qa_cons (q_add (q_lst (qa_cons (q_slA (q_ix (qv 13) q_int) (qo_some q_int) qo_none) qa_nil)) (q_slA (qv 13) (qo_some q_int) qo_none)) qa_nil))) (qa_cons (q_makeC T.mk_Needed M_Needed am hr T.m_Needed (qa_cons (qv 14) (qa_cons (q_add (q_lst (qa_cons (q_add (q_ix (qv 13) q_int) (q_lst (qa_cons (q_lst qa_nil) qa_nil))) qa_nil)) (q_slA (qv 13) (qo_some q_int) qo_none)) qa_nil))) (qa_cons (q_makeC T.mk_Needed M_Needed am hr T.m_Needed (qa_cons (qv 14) (qa_cons (q_add (q_lst (qa_cons q_non qa_nil)) (q_slA (qv 13) (qo_some q_int) qo_none)) qa_nil))) qa_nil)))))))
    (qss_one (qs_if ((qw_or (qt_ne hr (q_lc [("one", 17)] rfl SC.nd (qi_seq (qv 16)) (blkOk_by (by kernel_rfl)) (fun _ _ _ _ _ => ⟨_, (qg_name (i := 17) SC.nd), (is_name (by decide))⟩) (fun _ _ _ _ _ => ⟨_, (qts_one (qt_notB (q_call F_shows_needed am hr T.m_shows_needed T.F_shows_needed.kp T.b_shows_needed (qa_cons (qv 4) (qa_cons (qv 17) qa_nil))) q_bl))⟩) (fun _ _ _ _ _ => ⟨_, (qv 17)⟩)) (q_lst qa_nil)) (qw_or1 (qt_notB (q_call F_shows_needed am hr T.m_shows_needed T.F_shows_needed.kp T.b_shows_needed (qa_cons (qv 4) (qa_cons (q_makeC T.mk_Needed M_Needed am hr T.m_Needed (qa_cons (qv 14) (qa_cons (qv 13) qa_nil))) qa_nil))) q_bl)))).t (qss_one (qs_ret q_bl)) qss_nil)))))))))))))
    (qss_one (qs_ret q_bl))))⟩) (r_law T.G)
end
set_option maxHeartbeats 0 in
theorem all_mk {l : PySem.W.OpenLaw} {w : World} {K : PySem.W.Frag} {h : Heap} {mg : Str → Option Value} {fa : Addr} (X : K.In h) (G : h.Ns mainGlobals mg) (hfa : mg "law" = some (.ref fa))
    {CPaper : Addr}
    (c_Paper : PySem.W.nsIn K mainGlobals "Paper" = some (some (.ref CPaper)))
    (pg_Paper : PySem.W.plainGet K CPaper Str.empty = true)
    (hd_Paper : PySem.W.hasDictIn K CPaper = true)
    (po_Paper : PySem.W.plainOver K CPaper = true)
    (sa_Paper : PySem.W.findIn K (.ref CPaper) "__setattr__" = some (some (.builtin "object.__setattr__")))
    (mk_Paper : PySem.W.makesIn K CPaper = true)
    (kc_Paper : PySem.W.keepIn K (.ref CPaper) = true)
    {CStepCheck : Addr}
    (c_StepCheck : PySem.W.nsIn K mainGlobals "StepCheck" = some (some (.ref CStepCheck)))
    (pg_StepCheck : PySem.W.plainGet K CStepCheck Str.empty = true)
    (hd_StepCheck : PySem.W.hasDictIn K CStepCheck = true)
    (po_StepCheck : PySem.W.plainOver K CStepCheck = true)
    (sa_StepCheck : PySem.W.findIn K (.ref CStepCheck) "__setattr__" = some (some (.builtin "object.__setattr__")))
    (mk_StepCheck : PySem.W.makesIn K CStepCheck = true)
    (kc_StepCheck : PySem.W.keepIn K (.ref CStepCheck) = true)
    {CCode : Addr}
    (c_Code : PySem.W.nsIn K mainGlobals "Code" = some (some (.ref CCode)))
    (pg_Code : PySem.W.plainGet K CCode Str.empty = true)
    (hd_Code : PySem.W.hasDictIn K CCode = true)
    (po_Code : PySem.W.plainOver K CCode = true)
    (sa_Code : PySem.W.findIn K (.ref CCode) "__setattr__" = some (some (.builtin "object.__setattr__")))
    (mk_Code : PySem.W.makesIn K CCode = true)
    (kc_Code : PySem.W.keepIn K (.ref CCode) = true)
    {CNeeded : Addr}
    (c_Needed : PySem.W.nsIn K mainGlobals "Needed" = some (some (.ref CNeeded)))
    (pg_Needed : PySem.W.plainGet K CNeeded Str.empty = true)
    (hd_Needed : PySem.W.hasDictIn K CNeeded = true)
    (po_Needed : PySem.W.plainOver K CNeeded = true)
    (sa_Needed : PySem.W.findIn K (.ref CNeeded) "__setattr__" = some (some (.builtin "object.__setattr__")))
    (mk_Needed : PySem.W.makesIn K CNeeded = true)
    (kc_Needed : PySem.W.keepIn K (.ref CNeeded) = true)
    (na_Code_inputs : PySem.W.findIn K (.ref CCode) "inputs" = some none)
    (na_Code_procedures : PySem.W.findIn K (.ref CCode) "procedures" = some none)
    (na_Needed_backs : PySem.W.findIn K (.ref CNeeded) "backs" = some none)
    (na_Needed_lots : PySem.W.findIn K (.ref CNeeded) "lots" = some none)
    (na_Needed_parts : PySem.W.findIn K (.ref CNeeded) "parts" = some none)
    (na_Needed_word : PySem.W.findIn K (.ref CNeeded) "word" = some none)
    (na_Paper_parts : PySem.W.findIn K (.ref CPaper) "parts" = some none)
    (na_Paper_word : PySem.W.findIn K (.ref CPaper) "word" = some none)
    (na_StepCheck_back : PySem.W.findIn K (.ref CStepCheck) "back" = some none)
    (na_StepCheck_places : PySem.W.findIn K (.ref CStepCheck) "places" = some none)
    (na_StepCheck_procedures : PySem.W.findIn K (.ref CStepCheck) "procedures" = some none)
    (na_StepCheck_registers : PySem.W.findIn K (.ref CStepCheck) "registers" = some none)
    (icg : PySem.W.specialIn K (.builtin "object.__class__") "__get__" = some (some (.builtin "getset_descriptor.__get__")))
    (ict : PySem.W.takesIn K (.builtin "object.__class__") = some true)
    (ia_Code : PySem.W.findIn K (.ref CCode) "__class__" = some (some (.builtin "object.__class__")))
    (io_Code : PySem.W.mroIn K CCode (.type "object") = some true)
    (ia_Needed : PySem.W.findIn K (.ref CNeeded) "__class__" = some (some (.builtin "object.__class__")))
    (io_Needed : PySem.W.mroIn K CNeeded (.type "object") = some true)
    (ia_Paper : PySem.W.findIn K (.ref CPaper) "__class__" = some (some (.builtin "object.__class__")))
    (io_Paper : PySem.W.mroIn K CPaper (.type "object") = some true)
    (nb_Code_non : PySem.W.kitOne K (.type "NoneType") (.ref CCode) = some false)
    (nb_Code_bl : PySem.W.kitOne K (.type "bool") (.ref CCode) = some false)
    (nb_Code_int : PySem.W.kitOne K (.type "int") (.ref CCode) = some false)
    (nb_Code_str : PySem.W.kitOne K (.type "str") (.ref CCode) = some false)
    (nb_Code_tup : PySem.W.kitOne K (.type "tuple") (.ref CCode) = some false)
    (nb_Code_lst : PySem.W.kitOne K (.type "list") (.ref CCode) = some false)
    (nb_Code_dict : PySem.W.kitOne K (.type "dict") (.ref CCode) = some false)
    (ib_Code_Code : PySem.W.kitOne K (.ref CCode) (.ref CCode) = some true)
    (nb_Needed_non : PySem.W.kitOne K (.type "NoneType") (.ref CNeeded) = some false)
    (nb_Needed_bl : PySem.W.kitOne K (.type "bool") (.ref CNeeded) = some false)
    (nb_Needed_int : PySem.W.kitOne K (.type "int") (.ref CNeeded) = some false)
    (nb_Needed_str : PySem.W.kitOne K (.type "str") (.ref CNeeded) = some false)
    (nb_Needed_tup : PySem.W.kitOne K (.type "tuple") (.ref CNeeded) = some false)
    (nb_Needed_lst : PySem.W.kitOne K (.type "list") (.ref CNeeded) = some false)
    (nb_Needed_dict : PySem.W.kitOne K (.type "dict") (.ref CNeeded) = some false)
    (ib_Needed_Needed : PySem.W.kitOne K (.ref CNeeded) (.ref CNeeded) = some true)
    (ib_Needed_Paper : PySem.W.kitOne K (.ref CPaper) (.ref CNeeded) = some false)
    {f0 : Addr} {oc0 kV0 dc0 pm0 cd0 ct0 : Value} {od0 an0 : Option Addr} {sl0 : Array (Option Value)}
    (a0 : PySem.W.nsIn K mainGlobals "is_integer" = some (some (.ref f0)))
    (l0 : K.lookup f0 = some ⟨oc0, od0, .func (PySem.W.fnOf "is_integer" "is_integer" (defArgs s_is_integer) (defBody s_is_integer) (defScope s_is_integer) .none kV0 dc0 pm0 an0 cd0 ct0), sl0⟩)
    (c0 : PySem.W.codeIn K cd0 "is_integer" = true)
    (k0 : PySem.W.keepIn K (.ref f0) = true)
    {f1 : Addr} {oc1 kV1 dc1 pm1 cd1 ct1 : Value} {od1 an1 : Option Addr} {sl1 : Array (Option Value)}
    (a1 : PySem.W.nsIn K mainGlobals "is_within" = some (some (.ref f1)))
    (l1 : K.lookup f1 = some ⟨oc1, od1, .func (PySem.W.fnOf "is_within" "is_within" (defArgs s_is_within) (defBody s_is_within) (defScope s_is_within) .none kV1 dc1 pm1 an1 cd1 ct1), sl1⟩)
    (c1 : PySem.W.codeIn K cd1 "is_within" = true)
    (k1 : PySem.W.keepIn K (.ref f1) = true)
    {f2 : Addr} {oc2 kV2 dc2 pm2 cd2 ct2 : Value} {od2 an2 : Option Addr} {sl2 : Array (Option Value)}
    (a2 : PySem.W.nsIn K mainGlobals "is_listed" = some (some (.ref f2)))
    (l2 : K.lookup f2 = some ⟨oc2, od2, .func (PySem.W.fnOf "is_listed" "is_listed" (defArgs s_is_listed) (defBody s_is_listed) (defScope s_is_listed) .none kV2 dc2 pm2 an2 cd2 ct2), sl2⟩)
    (c2 : PySem.W.codeIn K cd2 "is_listed" = true)
    (k2 : PySem.W.keepIn K (.ref f2) = true)
    {f3 : Addr} {oc3 kV3 dc3 pm3 cd3 ct3 : Value} {od3 an3 : Option Addr} {sl3 : Array (Option Value)}
    (a3 : PySem.W.nsIn K mainGlobals "is_row" = some (some (.ref f3)))
    (l3 : K.lookup f3 = some ⟨oc3, od3, .func (PySem.W.fnOf "is_row" "is_row" (defArgs s_is_row) (defBody s_is_row) (defScope s_is_row) .none kV3 dc3 pm3 an3 cd3 ct3), sl3⟩)
    (c3 : PySem.W.codeIn K cd3 "is_row" = true)
    (k3 : PySem.W.keepIn K (.ref f3) = true)
    {f4 : Addr} {oc4 kV4 dc4 pm4 cd4 ct4 : Value} {od4 an4 : Option Addr} {sl4 : Array (Option Value)}
    (a4 : PySem.W.nsIn K mainGlobals "is_ascending" = some (some (.ref f4)))
    (l4 : K.lookup f4 = some ⟨oc4, od4, .func (PySem.W.fnOf "is_ascending" "is_ascending" (defArgs s_is_ascending) (defBody s_is_ascending) (defScope s_is_ascending) .none kV4 dc4 pm4 an4 cd4 ct4), sl4⟩)
    (c4 : PySem.W.codeIn K cd4 "is_ascending" = true)
    (k4 : PySem.W.keepIn K (.ref f4) = true)
    {f5 : Addr} {oc5 kV5 dc5 pm5 cd5 ct5 : Value} {od5 an5 : Option Addr} {sl5 : Array (Option Value)}
    (a5 : PySem.W.nsIn K mainGlobals "is_name" = some (some (.ref f5)))
    (l5 : K.lookup f5 = some ⟨oc5, od5, .func (PySem.W.fnOf "is_name" "is_name" (defArgs s_is_name) (defBody s_is_name) (defScope s_is_name) .none kV5 dc5 pm5 an5 cd5 ct5), sl5⟩)
    (c5 : PySem.W.codeIn K cd5 "is_name" = true)
    (k5 : PySem.W.keepIn K (.ref f5) = true)
    {f6 : Addr} {oc6 kV6 dc6 pm6 cd6 ct6 : Value} {od6 an6 : Option Addr} {sl6 : Array (Option Value)}
    (a6 : PySem.W.nsIn K mainGlobals "is_lot_of" = some (some (.ref f6)))
    (l6 : K.lookup f6 = some ⟨oc6, od6, .func (PySem.W.fnOf "is_lot_of" "is_lot_of" (defArgs s_is_lot_of) (defBody s_is_lot_of) (defScope s_is_lot_of) .none kV6 dc6 pm6 an6 cd6 ct6), sl6⟩)
    (c6 : PySem.W.codeIn K cd6 "is_lot_of" = true)
    (k6 : PySem.W.keepIn K (.ref f6) = true)
    {f7 : Addr} {oc7 kV7 dc7 pm7 cd7 ct7 : Value} {od7 an7 : Option Addr} {sl7 : Array (Option Value)}
    (a7 : PySem.W.nsIn K mainGlobals "fixed" = some (some (.ref f7)))
    (l7 : K.lookup f7 = some ⟨oc7, od7, .func (PySem.W.fnOf "fixed" "fixed" (defArgs s_fixed) (defBody s_fixed) (defScope s_fixed) .none kV7 dc7 pm7 an7 cd7 ct7), sl7⟩)
    (c7 : PySem.W.codeIn K cd7 "fixed" = true)
    (k7 : PySem.W.keepIn K (.ref f7) = true)
    {f8 : Addr} {oc8 kV8 dc8 pm8 cd8 ct8 : Value} {od8 an8 : Option Addr} {sl8 : Array (Option Value)}
    (a8 : PySem.W.findIn K (.ref CPaper) "__init__" = some (some (.ref f8)))
    (i8 : PySem.W.isFn K (.ref f8) = true)
    (l8 : K.lookup f8 = some ⟨oc8, od8, .func (PySem.W.fnOf "__init__" "Paper.__init__" (defArgs s_Paper___init__) (defBody s_Paper___init__) (defScope s_Paper___init__) .none kV8 dc8 pm8 an8 cd8 ct8), sl8⟩)
    (c8 : PySem.W.codeIn K cd8 "Paper.__init__" = true)
    (k8 : PySem.W.keepIn K (.ref f8) = true)
    {f9 : Addr} {oc9 kV9 dc9 pm9 cd9 ct9 : Value} {od9 an9 : Option Addr} {sl9 : Array (Option Value)}
    (a9 : PySem.W.nsIn K mainGlobals "is_multiple" = some (some (.ref f9)))
    (l9 : K.lookup f9 = some ⟨oc9, od9, .func (PySem.W.fnOf "is_multiple" "is_multiple" (defArgs s_is_multiple) (defBody s_is_multiple) (defScope s_is_multiple) .none kV9 dc9 pm9 an9 cd9 ct9), sl9⟩)
    (c9 : PySem.W.codeIn K cd9 "is_multiple" = true)
    (k9 : PySem.W.keepIn K (.ref f9) = true)
    {f10 : Addr} {oc10 kV10 dc10 pm10 cd10 ct10 : Value} {od10 an10 : Option Addr} {sl10 : Array (Option Value)}
    (a10 : PySem.W.nsIn K mainGlobals "is_shape" = some (some (.ref f10)))
    (l10 : K.lookup f10 = some ⟨oc10, od10, .func (PySem.W.fnOf "is_shape" "is_shape" (defArgs s_is_shape) (defBody s_is_shape) (defScope s_is_shape) .none kV10 dc10 pm10 an10 cd10 ct10), sl10⟩)
    (c10 : PySem.W.codeIn K cd10 "is_shape" = true)
    (k10 : PySem.W.keepIn K (.ref f10) = true)
    {f11 : Addr} {oc11 kV11 dc11 pm11 cd11 ct11 : Value} {od11 an11 : Option Addr} {sl11 : Array (Option Value)}
    (a11 : PySem.W.findIn K (.ref CStepCheck) "__init__" = some (some (.ref f11)))
    (i11 : PySem.W.isFn K (.ref f11) = true)
    (l11 : K.lookup f11 = some ⟨oc11, od11, .func (PySem.W.fnOf "__init__" "StepCheck.__init__" (defArgs s_StepCheck___init__) (defBody s_StepCheck___init__) (defScope s_StepCheck___init__) .none kV11 dc11 pm11 an11 cd11 ct11), sl11⟩)
    (c11 : PySem.W.codeIn K cd11 "StepCheck.__init__" = true)
    (k11 : PySem.W.keepIn K (.ref f11) = true)
    {f12 : Addr} {oc12 kV12 dc12 pm12 cd12 ct12 : Value} {od12 an12 : Option Addr} {sl12 : Array (Option Value)}
    (a12 : PySem.W.findIn K (.ref CStepCheck) "is_fine" = some (some (.ref f12)))
    (i12 : PySem.W.isFn K (.ref f12) = true)
    (l12 : K.lookup f12 = some ⟨oc12, od12, .func (PySem.W.fnOf "is_fine" "StepCheck.is_fine" (defArgs s_StepCheck_is_fine) (defBody s_StepCheck_is_fine) (defScope s_StepCheck_is_fine) .none kV12 dc12 pm12 an12 cd12 ct12), sl12⟩)
    (c12 : PySem.W.codeIn K cd12 "StepCheck.is_fine" = true)
    (k12 : PySem.W.keepIn K (.ref f12) = true)
    {f13 : Addr} {oc13 kV13 dc13 pm13 cd13 ct13 : Value} {od13 an13 : Option Addr} {sl13 : Array (Option Value)}
    (a13 : PySem.W.findIn K (.ref CStepCheck) "is_place" = some (some (.ref f13)))
    (i13 : PySem.W.isFn K (.ref f13) = true)
    (l13 : K.lookup f13 = some ⟨oc13, od13, .func (PySem.W.fnOf "is_place" "StepCheck.is_place" (defArgs s_StepCheck_is_place) (defBody s_StepCheck_is_place) (defScope s_StepCheck_is_place) .none kV13 dc13 pm13 an13 cd13 ct13), sl13⟩)
    (c13 : PySem.W.codeIn K cd13 "StepCheck.is_place" = true)
    (k13 : PySem.W.keepIn K (.ref f13) = true)
    {f14 : Addr} {oc14 kV14 dc14 pm14 cd14 ct14 : Value} {od14 an14 : Option Addr} {sl14 : Array (Option Value)}
    (a14 : PySem.W.findIn K (.ref CStepCheck) "are_registers" = some (some (.ref f14)))
    (i14 : PySem.W.isFn K (.ref f14) = true)
    (l14 : K.lookup f14 = some ⟨oc14, od14, .func (PySem.W.fnOf "are_registers" "StepCheck.are_registers" (defArgs s_StepCheck_are_registers) (defBody s_StepCheck_are_registers) (defScope s_StepCheck_are_registers) .none kV14 dc14 pm14 an14 cd14 ct14), sl14⟩)
    (c14 : PySem.W.codeIn K cd14 "StepCheck.are_registers" = true)
    (k14 : PySem.W.keepIn K (.ref f14) = true)
    {f15 : Addr} {oc15 kV15 dc15 pm15 cd15 ct15 : Value} {od15 an15 : Option Addr} {sl15 : Array (Option Value)}
    (a15 : PySem.W.findIn K (.ref CStepCheck) "is_shown" = some (some (.ref f15)))
    (i15 : PySem.W.isFn K (.ref f15) = true)
    (l15 : K.lookup f15 = some ⟨oc15, od15, .func (PySem.W.fnOf "is_shown" "StepCheck.is_shown" (defArgs s_StepCheck_is_shown) (defBody s_StepCheck_is_shown) (defScope s_StepCheck_is_shown) .none kV15 dc15 pm15 an15 cd15 ct15), sl15⟩)
    (c15 : PySem.W.codeIn K cd15 "StepCheck.is_shown" = true)
    (k15 : PySem.W.keepIn K (.ref f15) = true)
    {f16 : Addr} {oc16 kV16 dc16 pm16 cd16 ct16 : Value} {od16 an16 : Option Addr} {sl16 : Array (Option Value)}
    (a16 : PySem.W.findIn K (.ref CStepCheck) "is_set" = some (some (.ref f16)))
    (i16 : PySem.W.isFn K (.ref f16) = true)
    (l16 : K.lookup f16 = some ⟨oc16, od16, .func (PySem.W.fnOf "is_set" "StepCheck.is_set" (defArgs s_StepCheck_is_set) (defBody s_StepCheck_is_set) (defScope s_StepCheck_is_set) .none kV16 dc16 pm16 an16 cd16 ct16), sl16⟩)
    (c16 : PySem.W.codeIn K cd16 "StepCheck.is_set" = true)
    (k16 : PySem.W.keepIn K (.ref f16) = true)
    {f17 : Addr} {oc17 kV17 dc17 pm17 cd17 ct17 : Value} {od17 an17 : Option Addr} {sl17 : Array (Option Value)}
    (a17 : PySem.W.findIn K (.ref CStepCheck) "is_call" = some (some (.ref f17)))
    (i17 : PySem.W.isFn K (.ref f17) = true)
    (l17 : K.lookup f17 = some ⟨oc17, od17, .func (PySem.W.fnOf "is_call" "StepCheck.is_call" (defArgs s_StepCheck_is_call) (defBody s_StepCheck_is_call) (defScope s_StepCheck_is_call) .none kV17 dc17 pm17 an17 cd17 ct17), sl17⟩)
    (c17 : PySem.W.codeIn K cd17 "StepCheck.is_call" = true)
    (k17 : PySem.W.keepIn K (.ref f17) = true)
    {f18 : Addr} {oc18 kV18 dc18 pm18 cd18 ct18 : Value} {od18 an18 : Option Addr} {sl18 : Array (Option Value)}
    (a18 : PySem.W.nsIn K mainGlobals "are_procedures" = some (some (.ref f18)))
    (l18 : K.lookup f18 = some ⟨oc18, od18, .func (PySem.W.fnOf "are_procedures" "are_procedures" (defArgs s_are_procedures) (defBody s_are_procedures) (defScope s_are_procedures) .none kV18 dc18 pm18 an18 cd18 ct18), sl18⟩)
    (c18 : PySem.W.codeIn K cd18 "are_procedures" = true)
    (k18 : PySem.W.keepIn K (.ref f18) = true)
    {f19 : Addr} {oc19 kV19 dc19 pm19 cd19 ct19 : Value} {od19 an19 : Option Addr} {sl19 : Array (Option Value)}
    (a19 : PySem.W.findIn K (.ref CCode) "__init__" = some (some (.ref f19)))
    (i19 : PySem.W.isFn K (.ref f19) = true)
    (l19 : K.lookup f19 = some ⟨oc19, od19, .func (PySem.W.fnOf "__init__" "Code.__init__" (defArgs s_Code___init__) (defBody s_Code___init__) (defScope s_Code___init__) .none kV19 dc19 pm19 an19 cd19 ct19), sl19⟩)
    (c19 : PySem.W.codeIn K cd19 "Code.__init__" = true)
    (k19 : PySem.W.keepIn K (.ref f19) = true)
    {f20 : Addr} {oc20 kV20 dc20 pm20 cd20 ct20 : Value} {od20 an20 : Option Addr} {sl20 : Array (Option Value)}
    (a20 : PySem.W.nsIn K mainGlobals "need_code" = some (some (.ref f20)))
    (l20 : K.lookup f20 = some ⟨oc20, od20, .func (PySem.W.fnOf "need_code" "need_code" (defArgs s_need_code) (defBody s_need_code) (defScope s_need_code) .none kV20 dc20 pm20 an20 cd20 ct20), sl20⟩)
    (c20 : PySem.W.codeIn K cd20 "need_code" = true)
    (k20 : PySem.W.keepIn K (.ref f20) = true)
    {f21 cc21 cda21 : Addr} {oc21 dc21 pm21 ct21 ccl21 cl21 : Value} {od21 cdd21 cld21 : Option Addr} {sl21 ccs21 csl21 : Array (Option Value)} {vs21 : Array Value} {tf21 : Tok} {cd21 : ClassData} {file : Str}
    (a21 : PySem.W.findIn K (.ref CNeeded) "__init__" = some (some (.ref f21)))
    (i21 : PySem.W.isFn K (.ref f21) = true)
    (l21 : K.lookup f21 = some ⟨oc21, od21, .func (PySem.W.fnX "__init__" "Needed.__init__" (defArgs s_Needed___init__) (defBody s_Needed___init__) (defScope s_Needed___init__) [("__class__", cc21)] .none .none dc21 pm21 none (.ref cda21) ct21), sl21⟩)
    (c21 : PySem.W.codeIn K (.ref cda21) "Needed.__init__" = true)
    (r21 : K.lookup cda21 = some ⟨ccl21, cdd21, .fields vs21, ccs21⟩)
    (v21 : vs21[2]? = some (.str file tf21))
    (e21 : K.lookup cc21 = some ⟨cl21, cld21, .cell (some (.ref CNeeded)), csl21⟩)
    (y21 : PySem.W.clsIn K CNeeded = some cd21)
    (k21 : PySem.W.keepIn K (.ref f21) = true)
    {f22 : Addr} {oc22 kV22 dc22 pm22 cd22 ct22 : Value} {od22 an22 : Option Addr} {sl22 : Array (Option Value)}
    (a22 : PySem.W.nsIn K mainGlobals "joined" = some (some (.ref f22)))
    (l22 : K.lookup f22 = some ⟨oc22, od22, .func (PySem.W.fnOf "joined" "joined" (defArgs s_joined) (defBody s_joined) (defScope s_joined) .none kV22 dc22 pm22 an22 cd22 ct22), sl22⟩)
    (c22 : PySem.W.codeIn K cd22 "joined" = true)
    (k22 : PySem.W.keepIn K (.ref f22) = true)
    {f23 : Addr} {oc23 kV23 dc23 pm23 cd23 ct23 : Value} {od23 an23 : Option Addr} {sl23 : Array (Option Value)}
    (a23 : PySem.W.nsIn K mainGlobals "nexts_at" = some (some (.ref f23)))
    (l23 : K.lookup f23 = some ⟨oc23, od23, .func (PySem.W.fnOf "nexts_at" "nexts_at" (defArgs s_nexts_at) (defBody s_nexts_at) (defScope s_nexts_at) .none kV23 dc23 pm23 an23 cd23 ct23), sl23⟩)
    (c23 : PySem.W.codeIn K cd23 "nexts_at" = true)
    (k23 : PySem.W.keepIn K (.ref f23) = true)
    {f24 : Addr} {oc24 kV24 dc24 pm24 cd24 ct24 : Value} {od24 an24 : Option Addr} {sl24 : Array (Option Value)}
    (a24 : PySem.W.nsIn K mainGlobals "behind" = some (some (.ref f24)))
    (l24 : K.lookup f24 = some ⟨oc24, od24, .func (PySem.W.fnOf "behind" "behind" (defArgs s_behind) (defBody s_behind) (defScope s_behind) .none kV24 dc24 pm24 an24 cd24 ct24), sl24⟩)
    (c24 : PySem.W.codeIn K cd24 "behind" = true)
    (k24 : PySem.W.keepIn K (.ref f24) = true)
    {f25 : Addr} {oc25 kV25 dc25 pm25 cd25 ct25 : Value} {od25 an25 : Option Addr} {sl25 : Array (Option Value)}
    (a25 : PySem.W.nsIn K mainGlobals "wanted" = some (some (.ref f25)))
    (l25 : K.lookup f25 = some ⟨oc25, od25, .func (PySem.W.fnOf "wanted" "wanted" (defArgs s_wanted) (defBody s_wanted) (defScope s_wanted) .none kV25 dc25 pm25 an25 cd25 ct25), sl25⟩)
    (c25 : PySem.W.codeIn K cd25 "wanted" = true)
    (k25 : PySem.W.keepIn K (.ref f25) = true)
    {f26 : Addr} {oc26 kV26 dc26 pm26 cd26 ct26 : Value} {od26 an26 : Option Addr} {sl26 : Array (Option Value)}
    (a26 : PySem.W.nsIn K mainGlobals "is_closed" = some (some (.ref f26)))
    (l26 : K.lookup f26 = some ⟨oc26, od26, .func (PySem.W.fnOf "is_closed" "is_closed" (defArgs s_is_closed) (defBody s_is_closed) (defScope s_is_closed) .none kV26 dc26 pm26 an26 cd26 ct26), sl26⟩)
    (c26 : PySem.W.codeIn K cd26 "is_closed" = true)
    (k26 : PySem.W.keepIn K (.ref f26) = true)
    {f27 : Addr} {oc27 kV27 dc27 pm27 cd27 ct27 : Value} {od27 an27 : Option Addr} {sl27 : Array (Option Value)}
    (a27 : PySem.W.nsIn K mainGlobals "is_lot" = some (some (.ref f27)))
    (l27 : K.lookup f27 = some ⟨oc27, od27, .func (PySem.W.fnOf "is_lot" "is_lot" (defArgs s_is_lot) (defBody s_is_lot) (defScope s_is_lot) .none kV27 dc27 pm27 an27 cd27 ct27), sl27⟩)
    (c27 : PySem.W.codeIn K cd27 "is_lot" = true)
    (k27 : PySem.W.keepIn K (.ref f27) = true)
    {f28 : Addr} {oc28 kV28 dc28 pm28 cd28 ct28 : Value} {od28 an28 : Option Addr} {sl28 : Array (Option Value)}
    (a28 : PySem.W.nsIn K mainGlobals "shows_needed" = some (some (.ref f28)))
    (l28 : K.lookup f28 = some ⟨oc28, od28, .func (PySem.W.fnOf "shows_needed" "shows_needed" (defArgs s_shows_needed) (defBody s_shows_needed) (defScope s_shows_needed) .none kV28 dc28 pm28 an28 cd28 ct28), sl28⟩)
    (c28 : PySem.W.codeIn K cd28 "shows_needed" = true)
    (k28 : PySem.W.keepIn K (.ref f28) = true)
    {f29 : Addr} {oc29 kV29 dc29 pm29 cd29 ct29 : Value} {od29 an29 : Option Addr} {sl29 : Array (Option Value)}
    (a29 : PySem.W.nsIn K mainGlobals "_law_pen" = some (some (.ref f29)))
    (l29 : K.lookup f29 = some ⟨oc29, od29, .func (PySem.W.fnOf "_law_pen" "_law_pen" (defArgs s__law_pen) (defBody s__law_pen) (defScope s__law_pen) .none kV29 dc29 pm29 an29 cd29 ct29), sl29⟩)
    (c29 : PySem.W.codeIn K cd29 "_law_pen" = true)
    (k29 : PySem.W.keepIn K (.ref f29) = true)
    {f30 : Addr} {oc30 kV30 dc30 pm30 cd30 ct30 : Value} {od30 an30 : Option Addr} {sl30 : Array (Option Value)}
    (a30 : PySem.W.nsIn K mainGlobals "_law_draw" = some (some (.ref f30)))
    (l30 : K.lookup f30 = some ⟨oc30, od30, .func (PySem.W.fnOf "_law_draw" "_law_draw" (defArgs s__law_draw) (defBody s__law_draw) (defScope s__law_draw) .none kV30 dc30 pm30 an30 cd30 ct30), sl30⟩)
    (c30 : PySem.W.codeIn K cd30 "_law_draw" = true)
    (k30 : PySem.W.keepIn K (.ref f30) = true)
    {f31 : Addr} {oc31 kV31 dc31 pm31 cd31 ct31 : Value} {od31 an31 : Option Addr} {sl31 : Array (Option Value)}
    (a31 : PySem.W.nsIn K mainGlobals "_law_pick" = some (some (.ref f31)))
    (l31 : K.lookup f31 = some ⟨oc31, od31, .func (PySem.W.fnOf "_law_pick" "_law_pick" (defArgs s__law_pick) (defBody s__law_pick) (defScope s__law_pick) .none kV31 dc31 pm31 an31 cd31 ct31), sl31⟩)
    (c31 : PySem.W.codeIn K cd31 "_law_pick" = true)
    (k31 : PySem.W.keepIn K (.ref f31) = true)
    {f32 : Addr} {oc32 kV32 dc32 pm32 cd32 ct32 : Value} {od32 an32 : Option Addr} {sl32 : Array (Option Value)}
    (a32 : PySem.W.nsIn K mainGlobals "_law_mixed" = some (some (.ref f32)))
    (l32 : K.lookup f32 = some ⟨oc32, od32, .func (PySem.W.fnOf "_law_mixed" "_law_mixed" (defArgs s__law_mixed) (defBody s__law_mixed) (defScope s__law_mixed) .none kV32 dc32 pm32 an32 cd32 ct32), sl32⟩)
    (c32 : PySem.W.codeIn K cd32 "_law_mixed" = true)
    (k32 : PySem.W.keepIn K (.ref f32) = true)
    {f33 : Addr} {oc33 kV33 dc33 pm33 cd33 ct33 : Value} {od33 an33 : Option Addr} {sl33 : Array (Option Value)}
    (a33 : PySem.W.nsIn K mainGlobals "_law_pairs_of" = some (some (.ref f33)))
    (l33 : K.lookup f33 = some ⟨oc33, od33, .func (PySem.W.fnOf "_law_pairs_of" "_law_pairs_of" (defArgs s__law_pairs_of) (defBody s__law_pairs_of) (defScope s__law_pairs_of) .none kV33 dc33 pm33 an33 cd33 ct33), sl33⟩)
    (c33 : PySem.W.codeIn K cd33 "_law_pairs_of" = true)
    (k33 : PySem.W.keepIn K (.ref f33) = true)
    {f34 : Addr} {oc34 kV34 dc34 pm34 cd34 ct34 : Value} {od34 an34 : Option Addr} {sl34 : Array (Option Value)}
    (a34 : PySem.W.nsIn K mainGlobals "_law_set" = some (some (.ref f34)))
    (l34 : K.lookup f34 = some ⟨oc34, od34, .func (PySem.W.fnOf "_law_set" "_law_set" (defArgs s__law_set) (defBody s__law_set) (defScope s__law_set) .none kV34 dc34 pm34 an34 cd34 ct34), sl34⟩)
    (c34 : PySem.W.codeIn K cd34 "_law_set" = true)
    (k34 : PySem.W.keepIn K (.ref f34) = true)
    {f35 : Addr} {oc35 kV35 dc35 pm35 cd35 ct35 : Value} {od35 an35 : Option Addr} {sl35 : Array (Option Value)}
    (a35 : PySem.W.nsIn K mainGlobals "_law_sets" = some (some (.ref f35)))
    (l35 : K.lookup f35 = some ⟨oc35, od35, .func (PySem.W.fnOf "_law_sets" "_law_sets" (defArgs s__law_sets) (defBody s__law_sets) (defScope s__law_sets) .none kV35 dc35 pm35 an35 cd35 ct35), sl35⟩)
    (c35 : PySem.W.codeIn K cd35 "_law_sets" = true)
    (k35 : PySem.W.keepIn K (.ref f35) = true)
    {f36 : Addr} {oc36 kV36 dc36 pm36 cd36 ct36 : Value} {od36 an36 : Option Addr} {sl36 : Array (Option Value)}
    (a36 : PySem.W.nsIn K mainGlobals "_law_shown" = some (some (.ref f36)))
    (l36 : K.lookup f36 = some ⟨oc36, od36, .func (PySem.W.fnOf "_law_shown" "_law_shown" (defArgs s__law_shown) (defBody s__law_shown) (defScope s__law_shown) .none kV36 dc36 pm36 an36 cd36 ct36), sl36⟩)
    (c36 : PySem.W.codeIn K cd36 "_law_shown" = true)
    (k36 : PySem.W.keepIn K (.ref f36) = true)
    {f37 : Addr} {oc37 kV37 dc37 pm37 cd37 ct37 : Value} {od37 an37 : Option Addr} {sl37 : Array (Option Value)}
    (a37 : PySem.W.nsIn K mainGlobals "_law_procedure" = some (some (.ref f37)))
    (l37 : K.lookup f37 = some ⟨oc37, od37, .func (PySem.W.fnOf "_law_procedure" "_law_procedure" (defArgs s__law_procedure) (defBody s__law_procedure) (defScope s__law_procedure) .none kV37 dc37 pm37 an37 cd37 ct37), sl37⟩)
    (c37 : PySem.W.codeIn K cd37 "_law_procedure" = true)
    (k37 : PySem.W.keepIn K (.ref f37) = true)
    {f38 : Addr} {oc38 kV38 dc38 pm38 cd38 ct38 : Value} {od38 an38 : Option Addr} {sl38 : Array (Option Value)}
    (a38 : PySem.W.nsIn K mainGlobals "_law_plain" = some (some (.ref f38)))
    (l38 : K.lookup f38 = some ⟨oc38, od38, .func (PySem.W.fnOf "_law_plain" "_law_plain" (defArgs s__law_plain) (defBody s__law_plain) (defScope s__law_plain) .none kV38 dc38 pm38 an38 cd38 ct38), sl38⟩)
    (c38 : PySem.W.codeIn K cd38 "_law_plain" = true)
    (k38 : PySem.W.keepIn K (.ref f38) = true)
    {f39 : Addr} {oc39 kV39 dc39 pm39 cd39 ct39 : Value} {od39 an39 : Option Addr} {sl39 : Array (Option Value)}
    (a39 : PySem.W.nsIn K mainGlobals "_law_made" = some (some (.ref f39)))
    (l39 : K.lookup f39 = some ⟨oc39, od39, .func (PySem.W.fnOf "_law_made" "_law_made" (defArgs s__law_made) (defBody s__law_made) (defScope s__law_made) .none kV39 dc39 pm39 an39 cd39 ct39), sl39⟩)
    (c39 : PySem.W.codeIn K cd39 "_law_made" = true)
    (k39 : PySem.W.keepIn K (.ref f39) = true)
    {f40 : Addr} {oc40 kV40 dc40 pm40 cd40 ct40 : Value} {od40 an40 : Option Addr} {sl40 : Array (Option Value)}
    (a40 : PySem.W.nsIn K mainGlobals "_law_nexts" = some (some (.ref f40)))
    (l40 : K.lookup f40 = some ⟨oc40, od40, .func (PySem.W.fnOf "_law_nexts" "_law_nexts" (defArgs s__law_nexts) (defBody s__law_nexts) (defScope s__law_nexts) .none kV40 dc40 pm40 an40 cd40 ct40), sl40⟩)
    (c40 : PySem.W.codeIn K cd40 "_law_nexts" = true)
    (k40 : PySem.W.keepIn K (.ref f40) = true)
    {f41 : Addr} {oc41 kV41 dc41 pm41 cd41 ct41 : Value} {od41 an41 : Option Addr} {sl41 : Array (Option Value)}
    (a41 : PySem.W.nsIn K mainGlobals "_law_lot" = some (some (.ref f41)))
    (l41 : K.lookup f41 = some ⟨oc41, od41, .func (PySem.W.fnOf "_law_lot" "_law_lot" (defArgs s__law_lot) (defBody s__law_lot) (defScope s__law_lot) .none kV41 dc41 pm41 an41 cd41 ct41), sl41⟩)
    (c41 : PySem.W.codeIn K cd41 "_law_lot" = true)
    (k41 : PySem.W.keepIn K (.ref f41) = true)
    {f42 : Addr} {oc42 kV42 dc42 pm42 cd42 ct42 : Value} {od42 an42 : Option Addr} {sl42 : Array (Option Value)}
    (a42 : PySem.W.nsIn K mainGlobals "_law_least_lots" = some (some (.ref f42)))
    (l42 : K.lookup f42 = some ⟨oc42, od42, .func (PySem.W.fnOf "_law_least_lots" "_law_least_lots" (defArgs s__law_least_lots) (defBody s__law_least_lots) (defScope s__law_least_lots) .none kV42 dc42 pm42 an42 cd42 ct42), sl42⟩)
    (c42 : PySem.W.codeIn K cd42 "_law_least_lots" = true)
    (k42 : PySem.W.keepIn K (.ref f42) = true)
    {f43 : Addr} {oc43 kV43 dc43 pm43 cd43 ct43 : Value} {od43 an43 : Option Addr} {sl43 : Array (Option Value)}
    (a43 : PySem.W.nsIn K mainGlobals "_law_is_closed" = some (some (.ref f43)))
    (l43 : K.lookup f43 = some ⟨oc43, od43, .func (PySem.W.fnOf "_law_is_closed" "_law_is_closed" (defArgs s__law_is_closed) (defBody s__law_is_closed) (defScope s__law_is_closed) .none kV43 dc43 pm43 an43 cd43 ct43), sl43⟩)
    (c43 : PySem.W.codeIn K cd43 "_law_is_closed" = true)
    (k43 : PySem.W.keepIn K (.ref f43) = true)
    {f44 : Addr} {oc44 kV44 dc44 pm44 cd44 ct44 : Value} {od44 an44 : Option Addr} {sl44 : Array (Option Value)}
    (a44 : PySem.W.nsIn K mainGlobals "law" = some (some (.ref f44)))
    (l44 : K.lookup f44 = some ⟨oc44, od44, .func (PySem.W.fnOf "law" "law" (defArgs s_law) (defBody s_law) (defScope s_law) .none kV44 dc44 pm44 an44 cd44 ct44), sl44⟩)
    (c44 : PySem.W.codeIn K cd44 "law" = true)
    (k44 : PySem.W.keepIn K (.ref f44) = true)
    (u21 : PySem.W.mroIn K CNeeded (.ref CNeeded) = some true)
    (q21 : PySem.W.ks_superIn K CNeeded CNeeded "__init__" = some (some (.ref f8)))
    (t21 : PySem.W.typeIn K (.ref f8) = some (.type "function"))
    (n21 : PySem.W.fnIn K f8 = true)
    (sfl : ((l.prog.main.file : Str) == file) = true)
    (stp : (l.prog.main.scope.names.lookup ("super" : Str)).isSome = false)
    (ssu : PySem.W.nsIn K mainGlobals "super" = some none)
    (sop : PySem.W.nsIn K cStatics "thirdparty.any" = some none)
    {t_BACK : Tok}
    (g_BACK : PySem.W.nsIn K mainGlobals "BACK" = some (some (.str "back" t_BACK)))
    {t_CALL : Tok}
    (g_CALL : PySem.W.nsIn K mainGlobals "CALL" = some (some (.str "call" t_CALL)))
    {t_DEED : Tok}
    (g_DEED : PySem.W.nsIn K mainGlobals "DEED" = some (some (.str "deed" t_DEED)))
    {t_FIGURES : Tok}
    (g_FIGURES : PySem.W.nsIn K mainGlobals "FIGURES" = some (some (.str "0123456789" t_FIGURES)))
    {t_GO : Tok}
    (g_GO : PySem.W.nsIn K mainGlobals "GO" = some (some (.str "go" t_GO)))
    {a_LAST : Addr} {dd_LAST : Option Addr} {n_LAST : Nat} {sl_LAST : Array (Option Value)} {t_LAST0 t_LAST1 t_LAST2 : Tok}
    (g_LAST : PySem.W.nsIn K mainGlobals "LAST" = some (some (.ref a_LAST)))
    (h_LAST : K.lookup a_LAST = some ⟨.type "tuple", dd_LAST, .seq #[.str "go" t_LAST0, .str "test" t_LAST1, .str "back" t_LAST2] n_LAST, sl_LAST⟩)
    {t_MOST_HANDED : Tok}
    (g_MOST_HANDED : PySem.W.nsIn K mainGlobals "MOST_HANDED" = some (some (.int 3 t_MOST_HANDED)))
    {t_MOST_MULTIPLE : Tok}
    (g_MOST_MULTIPLE : PySem.W.nsIn K mainGlobals "MOST_MULTIPLE" = some (some (.int 1000 t_MOST_MULTIPLE)))
    {t_MOST_PROCEDURES : Tok}
    (g_MOST_PROCEDURES : PySem.W.nsIn K mainGlobals "MOST_PROCEDURES" = some (some (.int 4 t_MOST_PROCEDURES)))
    {t_MOST_REGISTERS : Tok}
    (g_MOST_REGISTERS : PySem.W.nsIn K mainGlobals "MOST_REGISTERS" = some (some (.int 8 t_MOST_REGISTERS)))
    {t_MOST_SHOWN : Tok}
    (g_MOST_SHOWN : PySem.W.nsIn K mainGlobals "MOST_SHOWN" = some (some (.int 4 t_MOST_SHOWN)))
    {t_MOST_STEPS : Tok}
    (g_MOST_STEPS : PySem.W.nsIn K mainGlobals "MOST_STEPS" = some (some (.int 60 t_MOST_STEPS)))
    {t_SET : Tok}
    (g_SET : PySem.W.nsIn K mainGlobals "SET" = some (some (.str "set" t_SET)))
    {t_SMALL : Tok}
    (g_SMALL : PySem.W.nsIn K mainGlobals "SMALL" = some (some (.str "abcdefghijklmnopqrstuvwxyz" t_SMALL)))
    {t_TEST : Tok}
    (g_TEST : PySem.W.nsIn K mainGlobals "TEST" = some (some (.str "test" t_TEST)))
    (z_abs : PySem.W.nsIn K mainGlobals "abs" = some none)
    (z_all : PySem.W.nsIn K mainGlobals "all" = some none)
    (z_bool : PySem.W.nsIn K mainGlobals "bool" = some none)
    (z_enumerate : PySem.W.nsIn K mainGlobals "enumerate" = some none)
    (z_int : PySem.W.nsIn K mainGlobals "int" = some none)
    (z_isinstance : PySem.W.nsIn K mainGlobals "isinstance" = some none)
    (z_len : PySem.W.nsIn K mainGlobals "len" = some none)
    (z_list : PySem.W.nsIn K mainGlobals "list" = some none)
    (z_max : PySem.W.nsIn K mainGlobals "max" = some none)
    (z_min : PySem.W.nsIn K mainGlobals "min" = some none)
    (z_range : PySem.W.nsIn K mainGlobals "range" = some none)
    (z_repr : PySem.W.nsIn K mainGlobals "repr" = some none)
    (z_set : PySem.W.nsIn K mainGlobals "set" = some none)
    (z_sorted : PySem.W.nsIn K mainGlobals "sorted" = some none)
    (z_str : PySem.W.nsIn K mainGlobals "str" = some none)
    (z_tuple : PySem.W.nsIn K mainGlobals "tuple" = some none)
    (z_zip : PySem.W.nsIn K mainGlobals "zip" = some none)
    : ∃ fd : FuncData, (∀ (s : Shared) (v : Value), BindsTo s fd ⟨[v], []⟩ [("script", v)]) ∧ ∀ base : Heap, K.In base → base.Ns mainGlobals mg → FnG l.prog w K mg base 13 fa fd ["script"] c_law := by
  have e := hfa.symm.trans (PySem.W.mg_of X G a44)
  cases e
  have F0 := fun_mk (st := s_is_integer) l0 c0 k0
  have b0 := F0.binds (ps := ["value"]) fun _ _ _ _ _ _ us hl => match us, hl with | [_], _ => rfl
  have F1 := fun_mk (st := s_is_within) l1 c1 k1
  have b1 := F1.binds (ps := ["value", "least", "most"]) fun _ _ _ _ _ _ us hl => match us, hl with | [_, _, _], _ => rfl
  have F2 := fun_mk (st := s_is_listed) l2 c2 k2
  have b2 := F2.binds (ps := ["value"]) fun _ _ _ _ _ _ us hl => match us, hl with | [_], _ => rfl
  have F3 := fun_mk (st := s_is_row) l3 c3 k3
  have b3 := F3.binds (ps := ["value", "least", "most"]) fun _ _ _ _ _ _ us hl => match us, hl with | [_, _, _], _ => rfl
  have F4 := fun_mk (st := s_is_ascending) l4 c4 k4
  have b4 := F4.binds (ps := ["rows"]) fun _ _ _ _ _ _ us hl => match us, hl with | [_], _ => rfl
  have F5 := fun_mk (st := s_is_name) l5 c5 k5
  have b5 := F5.binds (ps := ["value"]) fun _ _ _ _ _ _ us hl => match us, hl with | [_], _ => rfl
  have F6 := fun_mk (st := s_is_lot_of) l6 c6 k6
  have b6 := F6.binds (ps := ["value", "many"]) fun _ _ _ _ _ _ us hl => match us, hl with | [_, _], _ => rfl
  have F7 := fun_mk (st := s_fixed) l7 c7 k7
  have b7 := F7.binds (ps := ["value"]) fun _ _ _ _ _ _ us hl => match us, hl with | [_], _ => rfl
  have F8 := fun_mk (st := s_Paper___init__) l8 c8 k8
  have F9 := fun_mk (st := s_is_multiple) l9 c9 k9
  have b9 := F9.binds (ps := ["value"]) fun _ _ _ _ _ _ us hl => match us, hl with | [_], _ => rfl
  have F10 := fun_mk (st := s_is_shape) l10 c10 k10
  have b10 := F10.binds (ps := ["value"]) fun _ _ _ _ _ _ us hl => match us, hl with | [_], _ => rfl
  have F11 := fun_mk (st := s_StepCheck___init__) l11 c11 k11
  have b11 := F11.binds (ps := ["self", "procedures", "number"]) fun _ _ _ _ _ _ us hl => match us, hl with | [_, _, _], _ => rfl
  have F12 := fun_mk (st := s_StepCheck_is_fine) l12 c12 k12
  have b12 := F12.binds (ps := ["self", "step"]) fun _ _ _ _ _ _ us hl => match us, hl with | [_, _], _ => rfl
  have F13 := fun_mk (st := s_StepCheck_is_place) l13 c13 k13
  have b13 := F13.binds (ps := ["self", "value"]) fun _ _ _ _ _ _ us hl => match us, hl with | [_, _], _ => rfl
  have F14 := fun_mk (st := s_StepCheck_are_registers) l14 c14 k14
  have b14 := F14.binds (ps := ["self", "value", "least", "most"]) fun _ _ _ _ _ _ us hl => match us, hl with | [_, _, _, _], _ => rfl
  have F15 := fun_mk (st := s_StepCheck_is_shown) l15 c15 k15
  have b15 := F15.binds (ps := ["self", "step"]) fun _ _ _ _ _ _ us hl => match us, hl with | [_, _], _ => rfl
  have F16 := fun_mk (st := s_StepCheck_is_set) l16 c16 k16
  have b16 := F16.binds (ps := ["self", "step"]) fun _ _ _ _ _ _ us hl => match us, hl with | [_, _], _ => rfl
  have F17 := fun_mk (st := s_StepCheck_is_call) l17 c17 k17
  have b17 := F17.binds (ps := ["self", "step"]) fun _ _ _ _ _ _ us hl => match us, hl with | [_, _], _ => rfl
  have F18 := fun_mk (st := s_are_procedures) l18 c18 k18
  have b18 := F18.binds (ps := ["value"]) fun _ _ _ _ _ _ us hl => match us, hl with | [_], _ => rfl
  have F19 := fun_mk (st := s_Code___init__) l19 c19 k19
  have b19 := F19.binds (ps := ["self", "procedures"]) fun _ _ _ _ _ _ us hl => match us, hl with | [_, _], _ => rfl
  have F20 := fun_mk (st := s_need_code) l20 c20 k20
  have b20 := F20.binds (ps := ["value", "part"]) fun _ _ _ _ _ _ us hl => match us, hl with | [_, _], _ => rfl
  have F22 := fun_mk (st := s_joined) l22 c22 k22
  have b22 := F22.binds (ps := ["some", "more"]) fun _ _ _ _ _ _ us hl => match us, hl with | [_, _], _ => rfl
  have F23 := fun_mk (st := s_nexts_at) l23 c23 k23
  have b23 := F23.binds (ps := ["steps", "place"]) fun _ _ _ _ _ _ us hl => match us, hl with | [_, _], _ => rfl
  have F24 := fun_mk (st := s_behind) l24 c24 k24
  have b24 := F24.binds (ps := ["lots", "steps", "place"]) fun _ _ _ _ _ _ us hl => match us, hl with | [_, _, _], _ => rfl
  have F25 := fun_mk (st := s_wanted) l25 c25 k25
  have b25 := F25.binds (ps := ["step", "found", "lots", "backs"]) fun _ _ _ _ _ _ us hl => match us, hl with | [_, _, _, _], _ => rfl
  have F26 := fun_mk (st := s_is_closed) l26 c26 k26
  have b26 := F26.binds (ps := ["code", "backs", "lots"]) fun _ _ _ _ _ _ us hl => match us, hl with | [_, _, _], _ => rfl
  have F27 := fun_mk (st := s_is_lot) l27 c27 k27
  have b27 := F27.binds (ps := ["value", "many"]) fun _ _ _ _ _ _ us hl => match us, hl with | [_, _], _ => rfl
  have F28 := fun_mk (st := s_shows_needed) l28 c28 k28
  have b28 := F28.binds (ps := ["code", "value"]) fun _ _ _ _ _ _ us hl => match us, hl with | [_, _], _ => rfl
  have F29 := fun_mk (st := s__law_pen) l29 c29 k29
  have b29 := F29.binds (ps := ["script"]) fun _ _ _ _ _ _ us hl => match us, hl with | [_], _ => rfl
  have F30 := fun_mk (st := s__law_draw) l30 c30 k30
  have b30 := F30.binds (ps := ["pen", "many"]) fun _ _ _ _ _ _ us hl => match us, hl with | [_, _], _ => rfl
  have F31 := fun_mk (st := s__law_pick) l31 c31 k31
  have b31 := F31.binds (ps := ["pen", "some"]) fun _ _ _ _ _ _ us hl => match us, hl with | [_, _], _ => rfl
  have F32 := fun_mk (st := s__law_mixed) l32 c32 k32
  have b32 := F32.binds (ps := ["pen", "some"]) fun _ _ _ _ _ _ us hl => match us, hl with | [_, _], _ => rfl
  have F33 := fun_mk (st := s__law_pairs_of) l33 c33 k33
  have b33 := F33.binds (ps := ["pen", "registers"]) fun _ _ _ _ _ _ us hl => match us, hl with | [_, _], _ => rfl
  have F34 := fun_mk (st := s__law_set) l34 c34 k34
  have b34 := F34.binds (ps := ["pen", "registers"]) fun _ _ _ _ _ _ us hl => match us, hl with | [_, _], _ => rfl
  have F35 := fun_mk (st := s__law_sets) l35 c35 k35
  have b35 := F35.binds (ps := ["pen", "registers", "most"]) fun _ _ _ _ _ _ us hl => match us, hl with | [_, _, _], _ => rfl
  have F36 := fun_mk (st := s__law_shown) l36 c36 k36
  have b36 := F36.binds (ps := ["pen", "registers"]) fun _ _ _ _ _ _ us hl => match us, hl with | [_, _], _ => rfl
  have F37 := fun_mk (st := s__law_procedure) l37 c37 k37
  have b37 := F37.binds (ps := ["pen", "word", "handed", "back", "registers", "callees"]) fun _ _ _ _ _ _ us hl => match us, hl with | [_, _, _, _, _, _], _ => rfl
  have F38 := fun_mk (st := s__law_plain) l38 c38 k38
  have b38 := F38.binds (ps := ["pen", "procedures"]) fun _ _ _ _ _ _ us hl => match us, hl with | [_, _], _ => rfl
  have F39 := fun_mk (st := s__law_made) l39 c39 k39
  have b39 := F39.binds (ps := ["plain"]) fun _ _ _ _ _ _ us hl => match us, hl with | [_], _ => rfl
  have F40 := fun_mk (st := s__law_nexts) l40 c40 k40
  have b40 := F40.binds (ps := ["steps", "place"]) fun _ _ _ _ _ _ us hl => match us, hl with | [_, _], _ => rfl
  have F41 := fun_mk (st := s__law_lot) l41 c41 k41
  have b41 := F41.binds (ps := ["plain", "lots", "backs", "number", "place"]) fun _ _ _ _ _ _ us hl => match us, hl with | [_, _, _, _, _], _ => rfl
  have F42 := fun_mk (st := s__law_least_lots) l42 c42 k42
  have b42 := F42.binds (ps := ["plain"]) fun _ _ _ _ _ _ us hl => match us, hl with | [_], _ => rfl
  have F43 := fun_mk (st := s__law_is_closed) l43 c43 k43
  have b43 := F43.binds (ps := ["plain", "backs", "lots"]) fun _ _ _ _ _ _ us hl => match us, hl with | [_, _, _], _ => rfl
  have F44 := fun_mk (st := s_law) l44 c44 k44
  have b44 := F44.binds (ps := ["script"]) fun _ _ _ _ _ _ us hl => match us, hl with | [_], _ => rfl
  have cl_Paper : Cls K CPaper := ⟨pg_Paper, hd_Paper, po_Paper, sa_Paper⟩
  have cl_StepCheck : Cls K CStepCheck := ⟨pg_StepCheck, hd_StepCheck, po_StepCheck, sa_StepCheck⟩
  have cl_Code : Cls K CCode := ⟨pg_Code, hd_Code, po_Code, sa_Code⟩
  have cl_Needed : Cls K CNeeded := ⟨pg_Needed, hd_Needed, po_Needed, sa_Needed⟩
  have in_Code : InsK K CCode := ⟨cl_Code, ia_Code, icg, ict, io_Code⟩
  have in_Needed : InsK K CNeeded := ⟨cl_Needed, ia_Needed, icg, ict, io_Needed⟩
  have in_Paper : InsK K CPaper := ⟨cl_Paper, ia_Paper, icg, ict, io_Paper⟩
  let T : Tx K mg := {
    G := ⟨CPaper, CStepCheck, CCode, CNeeded, fun e => by rw [e] at ib_Needed_Paper; rw [ib_Needed_Needed] at ib_Needed_Paper; cases ib_Needed_Paper⟩, file := file
    a_is_integer := _, d_is_integer := _, F_is_integer := F0, m_is_integer := PySem.W.mg_of X G a0, b_is_integer := b0
    a_is_within := _, d_is_within := _, F_is_within := F1, m_is_within := PySem.W.mg_of X G a1, b_is_within := b1
    a_is_listed := _, d_is_listed := _, F_is_listed := F2, m_is_listed := PySem.W.mg_of X G a2, b_is_listed := b2
    a_is_row := _, d_is_row := _, F_is_row := F3, m_is_row := PySem.W.mg_of X G a3, b_is_row := b3
    a_is_ascending := _, d_is_ascending := _, F_is_ascending := F4, m_is_ascending := PySem.W.mg_of X G a4, b_is_ascending := b4
    a_is_name := _, d_is_name := _, F_is_name := F5, m_is_name := PySem.W.mg_of X G a5, b_is_name := b5
    a_is_lot_of := _, d_is_lot_of := _, F_is_lot_of := F6, m_is_lot_of := PySem.W.mg_of X G a6, b_is_lot_of := b6
    a_fixed := _, d_fixed := _, F_fixed := F7, m_fixed := PySem.W.mg_of X G a7, b_fixed := b7
    a_Paper___init__ := _, d_Paper___init__ := _, F_Paper___init__ := F8
    a_is_multiple := _, d_is_multiple := _, F_is_multiple := F9, m_is_multiple := PySem.W.mg_of X G a9, b_is_multiple := b9
    a_is_shape := _, d_is_shape := _, F_is_shape := F10, m_is_shape := PySem.W.mg_of X G a10, b_is_shape := b10
    a_StepCheck___init__ := _, d_StepCheck___init__ := _, F_StepCheck___init__ := F11, b_StepCheck___init__ := b11
    a_StepCheck_is_fine := _, d_StepCheck_is_fine := _, F_StepCheck_is_fine := F12, b_StepCheck_is_fine := b12
    a_StepCheck_is_place := _, d_StepCheck_is_place := _, F_StepCheck_is_place := F13, b_StepCheck_is_place := b13
    a_StepCheck_are_registers := _, d_StepCheck_are_registers := _, F_StepCheck_are_registers := F14, b_StepCheck_are_registers := b14
    a_StepCheck_is_shown := _, d_StepCheck_is_shown := _, F_StepCheck_is_shown := F15, b_StepCheck_is_shown := b15
    a_StepCheck_is_set := _, d_StepCheck_is_set := _, F_StepCheck_is_set := F16, b_StepCheck_is_set := b16
    a_StepCheck_is_call := _, d_StepCheck_is_call := _, F_StepCheck_is_call := F17, b_StepCheck_is_call := b17
    a_are_procedures := _, d_are_procedures := _, F_are_procedures := F18, m_are_procedures := PySem.W.mg_of X G a18, b_are_procedures := b18
    a_Code___init__ := _, d_Code___init__ := _, F_Code___init__ := F19, b_Code___init__ := b19
    a_need_code := _, d_need_code := _, F_need_code := F20, m_need_code := PySem.W.mg_of X G a20, b_need_code := b20
    a_Needed___init__ := _, cc_Needed___init__ := _, cda_Needed___init__ := _, F_Needed___init__ := ⟨⟨_, _, _, _, _, _, l21⟩, ⟨rfl, rfl, rfl, rfl, rfl⟩, c21, ⟨_, _, _, _, _, r21, v21⟩, ⟨_, _, _, e21⟩, ⟨_, y21⟩, k21⟩, st_Needed___init__ := ⟨u21, q21, t21, n21⟩
    a_joined := _, d_joined := _, F_joined := F22, m_joined := PySem.W.mg_of X G a22, b_joined := b22
    a_nexts_at := _, d_nexts_at := _, F_nexts_at := F23, m_nexts_at := PySem.W.mg_of X G a23, b_nexts_at := b23
    a_behind := _, d_behind := _, F_behind := F24, m_behind := PySem.W.mg_of X G a24, b_behind := b24
    a_wanted := _, d_wanted := _, F_wanted := F25, m_wanted := PySem.W.mg_of X G a25, b_wanted := b25
    a_is_closed := _, d_is_closed := _, F_is_closed := F26, m_is_closed := PySem.W.mg_of X G a26, b_is_closed := b26
    a_is_lot := _, d_is_lot := _, F_is_lot := F27, m_is_lot := PySem.W.mg_of X G a27, b_is_lot := b27
    a_shows_needed := _, d_shows_needed := _, F_shows_needed := F28, m_shows_needed := PySem.W.mg_of X G a28, b_shows_needed := b28
    a__law_pen := _, d__law_pen := _, F__law_pen := F29, m__law_pen := PySem.W.mg_of X G a29, b__law_pen := b29
    a__law_draw := _, d__law_draw := _, F__law_draw := F30, m__law_draw := PySem.W.mg_of X G a30, b__law_draw := b30
    a__law_pick := _, d__law_pick := _, F__law_pick := F31, m__law_pick := PySem.W.mg_of X G a31, b__law_pick := b31
    a__law_mixed := _, d__law_mixed := _, F__law_mixed := F32, m__law_mixed := PySem.W.mg_of X G a32, b__law_mixed := b32
    a__law_pairs_of := _, d__law_pairs_of := _, F__law_pairs_of := F33, m__law_pairs_of := PySem.W.mg_of X G a33, b__law_pairs_of := b33
    a__law_set := _, d__law_set := _, F__law_set := F34, m__law_set := PySem.W.mg_of X G a34, b__law_set := b34
    a__law_sets := _, d__law_sets := _, F__law_sets := F35, m__law_sets := PySem.W.mg_of X G a35, b__law_sets := b35
    a__law_shown := _, d__law_shown := _, F__law_shown := F36, m__law_shown := PySem.W.mg_of X G a36, b__law_shown := b36
    a__law_procedure := _, d__law_procedure := _, F__law_procedure := F37, m__law_procedure := PySem.W.mg_of X G a37, b__law_procedure := b37
    a__law_plain := _, d__law_plain := _, F__law_plain := F38, m__law_plain := PySem.W.mg_of X G a38, b__law_plain := b38
    a__law_made := _, d__law_made := _, F__law_made := F39, m__law_made := PySem.W.mg_of X G a39, b__law_made := b39
    a__law_nexts := _, d__law_nexts := _, F__law_nexts := F40, m__law_nexts := PySem.W.mg_of X G a40, b__law_nexts := b40
    a__law_lot := _, d__law_lot := _, F__law_lot := F41, m__law_lot := PySem.W.mg_of X G a41, b__law_lot := b41
    a__law_least_lots := _, d__law_least_lots := _, F__law_least_lots := F42, m__law_least_lots := PySem.W.mg_of X G a42, b__law_least_lots := b42
    a__law_is_closed := _, d__law_is_closed := _, F__law_is_closed := F43, m__law_is_closed := PySem.W.mg_of X G a43, b__law_is_closed := b43
    a_law := _, d_law := _, F_law := F44, m_law := PySem.W.mg_of X G a44, b_law := b44
    m_Paper := PySem.W.mg_of X G c_Paper, cl_Paper := cl_Paper
    mk_Paper := ⟨mk_Paper, a8, i8, kc_Paper⟩
    m_StepCheck := PySem.W.mg_of X G c_StepCheck, cl_StepCheck := cl_StepCheck
    mk_StepCheck := ⟨mk_StepCheck, a11, i11, kc_StepCheck⟩
    mt_StepCheck_is_fine := ⟨a12, i12, k12⟩
    mt_StepCheck_is_place := ⟨a13, i13, k13⟩
    mt_StepCheck_are_registers := ⟨a14, i14, k14⟩
    mt_StepCheck_is_shown := ⟨a15, i15, k15⟩
    mt_StepCheck_is_set := ⟨a16, i16, k16⟩
    mt_StepCheck_is_call := ⟨a17, i17, k17⟩
    m_Code := PySem.W.mg_of X G c_Code, cl_Code := cl_Code
    mk_Code := ⟨mk_Code, a19, i19, kc_Code⟩
    m_Needed := PySem.W.mg_of X G c_Needed, cl_Needed := cl_Needed
    mk_Needed := ⟨mk_Needed, a21, i21, kc_Needed⟩
    na_Code_inputs := na_Code_inputs
    na_Code_procedures := na_Code_procedures
    na_Needed_backs := na_Needed_backs
    na_Needed_lots := na_Needed_lots
    na_Needed_parts := na_Needed_parts
    na_Needed_word := na_Needed_word
    na_Paper_parts := na_Paper_parts
    na_Paper_word := na_Paper_word
    na_StepCheck_back := na_StepCheck_back
    na_StepCheck_places := na_StepCheck_places
    na_StepCheck_procedures := na_StepCheck_procedures
    na_StepCheck_registers := na_StepCheck_registers
    an_Code := anC_ok ⟨nb_Code_non, nb_Code_bl, nb_Code_int, nb_Code_str, nb_Code_tup, nb_Code_lst, nb_Code_dict⟩ (isi_by [(CCode, true)] (by exact ⟨⟨ib_Code_Code, in_Code⟩, True.intro⟩))
    an_Needed := anC_ok ⟨nb_Needed_non, nb_Needed_bl, nb_Needed_int, nb_Needed_str, nb_Needed_tup, nb_Needed_lst, nb_Needed_dict⟩ (isi_by [(CNeeded, true), (CPaper, false)] (by exact ⟨⟨ib_Needed_Needed, in_Needed⟩, ⟨ib_Needed_Paper, in_Paper⟩, True.intro⟩))
    g_BACK := ⟨⟨_, PySem.W.mg_of X G g_BACK⟩⟩
    g_CALL := ⟨⟨_, PySem.W.mg_of X G g_CALL⟩⟩
    g_DEED := ⟨⟨_, PySem.W.mg_of X G g_DEED⟩⟩
    g_FIGURES := ⟨⟨_, PySem.W.mg_of X G g_FIGURES⟩⟩
    g_GO := ⟨⟨_, PySem.W.mg_of X G g_GO⟩⟩
    g_LAST := ⟨⟨_, _, _, _, [V.str "go", V.str "test", V.str "back"], PySem.W.mg_of X G g_LAST, h_LAST, rfl, rfl, by rw [sizeLine_eq]; show 3 ≤ 16777216; decide, (.cons ⟨_, rfl⟩ (.cons ⟨_, rfl⟩ (.cons ⟨_, rfl⟩ .nil))), fun _ => (.cons (.str "go") (.cons (.str "test") (.cons (.str "back") .nil)))⟩⟩
    g_MOST_HANDED := ⟨⟨_, PySem.W.mg_of X G g_MOST_HANDED⟩⟩
    g_MOST_MULTIPLE := ⟨⟨_, PySem.W.mg_of X G g_MOST_MULTIPLE⟩⟩
    g_MOST_PROCEDURES := ⟨⟨_, PySem.W.mg_of X G g_MOST_PROCEDURES⟩⟩
    g_MOST_REGISTERS := ⟨⟨_, PySem.W.mg_of X G g_MOST_REGISTERS⟩⟩
    g_MOST_SHOWN := ⟨⟨_, PySem.W.mg_of X G g_MOST_SHOWN⟩⟩
    g_MOST_STEPS := ⟨⟨_, PySem.W.mg_of X G g_MOST_STEPS⟩⟩
    g_SET := ⟨⟨_, PySem.W.mg_of X G g_SET⟩⟩
    g_SMALL := ⟨⟨_, PySem.W.mg_of X G g_SMALL⟩⟩
    g_TEST := ⟨⟨_, PySem.W.mg_of X G g_TEST⟩⟩
    z_abs := PySem.W.mg_none_of X G z_abs
    z_all := PySem.W.mg_none_of X G z_all
    z_bool := PySem.W.mg_none_of X G z_bool
    z_enumerate := PySem.W.mg_none_of X G z_enumerate
    z_int := PySem.W.mg_none_of X G z_int
    z_isinstance := PySem.W.mg_none_of X G z_isinstance
    z_len := PySem.W.mg_none_of X G z_len
    z_list := PySem.W.mg_none_of X G z_list
    z_max := PySem.W.mg_none_of X G z_max
    z_min := PySem.W.mg_none_of X G z_min
    z_range := PySem.W.mg_none_of X G z_range
    z_repr := PySem.W.mg_none_of X G z_repr
    z_set := PySem.W.mg_none_of X G z_set
    z_sorted := PySem.W.mg_none_of X G z_sorted
    z_str := PySem.W.mg_none_of X G z_str
    z_tuple := PySem.W.mg_none_of X G z_tuple
    z_zip := PySem.W.mg_none_of X G z_zip
  }
  have SM : SupM l.prog K mg T.file := ⟨sfl, stp, PySem.W.mg_none_of X G ssu, sop⟩
  exact ⟨T.d_law, fun s v => .of_eq rfl, fun base _ _ => ok_law (P := l.prog) (w := w) (base := base) T SM⟩
end K65
open PySem PySem.W PyProof.Rows
set_option maxRecDepth 100000 in
set_option maxHeartbeats 0 in
theorem PySem.Challenge.cw_allmoduli_k65_lots_bent_holds : PySem.Challenge.rw_allmoduli_k65_lots_bent.Holds := by
  w_on; o_law; k_head; (case hw => w_witness2)
  k_fill
  refine DL.walk_G (l := PySem.Challenge.rw_allmoduli_k65_lots_bent) (n := 63) (k := 13) (C := K65.c_law) (x := "script") rfl (by decide) rfl ⟨rfl, by decide, by decide⟩ (by decide +kernel) rfl (fun w h Y => PySem.W.kIn_of Y) ?F K65.law_all
  case F =>
    intro w mg fa h KX G hmg
    refine' K65.all_mk KX G hmg ?c_Paper ?pg_Paper ?hd_Paper ?po_Paper ?sa_Paper ?mk_Paper ?kc_Paper ?c_StepCheck ?pg_StepCheck ?hd_StepCheck ?po_StepCheck ?sa_StepCheck ?mk_StepCheck ?kc_StepCheck ?c_Code ?pg_Code ?hd_Code ?po_Code ?sa_Code ?mk_Code ?kc_Code ?c_Needed ?pg_Needed ?hd_Needed ?po_Needed ?sa_Needed ?mk_Needed ?kc_Needed ?na_Code_inputs ?na_Code_procedures ?na_Needed_backs ?na_Needed_lots ?na_Needed_parts ?na_Needed_word ?na_Paper_parts ?na_Paper_word ?na_StepCheck_back ?na_StepCheck_places ?na_StepCheck_procedures ?na_StepCheck_registers ?icg ?ict ?ia_Code ?io_Code ?ia_Needed ?io_Needed ?ia_Paper ?io_Paper ?nb_Code_non ?nb_Code_bl ?nb_Code_int ?nb_Code_str ?nb_Code_tup ?nb_Code_lst ?nb_Code_dict ?ib_Code_Code ?nb_Needed_non ?nb_Needed_bl ?nb_Needed_int ?nb_Needed_str ?nb_Needed_tup ?nb_Needed_lst ?nb_Needed_dict ?ib_Needed_Needed ?ib_Needed_Paper ?a0 ?l0 ?c0 ?k0 ?a1 ?l1 ?c1 ?k1 ?a2 ?l2 ?c2 ?k2 ?a3 ?l3 ?c3 ?k3 ?a4 ?l4 ?c4 ?k4 ?a5 ?l5 ?c5 ?k5 ?a6 ?l6 ?c6 ?k6 ?a7 ?l7 ?c7 ?k7 ?a8 ?i8 ?l8 ?c8 ?k8 ?a9 ?l9 ?c9 ?k9 ?a10 ?l10 ?c10 ?k10 ?a11 ?i11 ?l11 ?c11 ?k11 ?a12 ?i12 ?l12 ?c12 ?k12 ?a13 ?i13 ?l13 ?c13 ?k13 ?a14 ?i14 ?l14 ?c14 ?k14 ?a15 ?i15 ?l15 ?c15 ?k15 ?a16 ?i16 ?l16 ?c16 ?k16 ?a17 ?i17 ?l17 ?c17 ?k17 ?a18 ?l18 ?c18 ?k18 ?a19 ?i19 ?l19 ?c19 ?k19 ?a20 ?l20 ?c20 ?k20 ?a21 ?i21 ?l21 ?c21 ?r21 ?v21 ?e21 ?y21 ?k21 ?a22 ?l22 ?c22 ?k22 ?a23 ?l23 ?c23 ?k23 ?a24 ?l24 ?c24 ?k24 ?a25 ?l25 ?c25 ?k25 ?a26 ?l26 ?c26 ?k26 ?a27 ?l27 ?c27 ?k27 ?a28 ?l28 ?c28 ?k28 ?a29 ?l29 ?c29 ?k29 ?a30 ?l30 ?c30 ?k30 ?a31 ?l31 ?c31 ?k31 ?a32 ?l32 ?c32 ?k32 ?a33 ?l33 ?c33 ?k33 ?a34 ?l34 ?c34 ?k34 ?a35 ?l35 ?c35 ?k35 ?a36 ?l36 ?c36 ?k36 ?a37 ?l37 ?c37 ?k37 ?a38 ?l38 ?c38 ?k38 ?a39 ?l39 ?c39 ?k39 ?a40 ?l40 ?c40 ?k40 ?a41 ?l41 ?c41 ?k41 ?a42 ?l42 ?c42 ?k42 ?a43 ?l43 ?c43 ?k43 ?a44 ?l44 ?c44 ?k44 ?u21 ?q21 ?t21 ?n21 ?sfl ?stp ?ssu ?sop ?g_BACK ?g_CALL ?g_DEED ?g_FIGURES ?g_GO ?g_LAST ?h_LAST ?g_MOST_HANDED ?g_MOST_MULTIPLE ?g_MOST_PROCEDURES ?g_MOST_REGISTERS ?g_MOST_SHOWN ?g_MOST_STEPS ?g_SET ?g_SMALL ?g_TEST ?z_abs ?z_all ?z_bool ?z_enumerate ?z_int ?z_isinstance ?z_len ?z_list ?z_max ?z_min ?z_range ?z_repr ?z_set ?z_sorted ?z_str ?z_tuple ?z_zip
    (case c_Paper => k_is)
    (case pg_Paper => k_is)
    (case hd_Paper => k_is)
    (case po_Paper => k_is)
    (case sa_Paper => k_is)
    (case mk_Paper => k_is)
    (case kc_Paper => k_is)
    (case c_StepCheck => k_is)
    (case pg_StepCheck => k_is)
    (case hd_StepCheck => k_is)
    (case po_StepCheck => k_is)
    (case sa_StepCheck => k_is)
    (case mk_StepCheck => k_is)
    (case kc_StepCheck => k_is)
    (case c_Code => k_is)
    (case pg_Code => k_is)
    (case hd_Code => k_is)
    (case po_Code => k_is)
    (case sa_Code => k_is)
    (case mk_Code => k_is)
    (case kc_Code => k_is)
    (case c_Needed => k_is)
    (case pg_Needed => k_is)
    (case hd_Needed => k_is)
    (case po_Needed => k_is)
    (case sa_Needed => k_is)
    (case mk_Needed => k_is)
    (case kc_Needed => k_is)
    (case na_Code_inputs => k_is)
    (case na_Code_procedures => k_is)
    (case na_Needed_backs => k_is)
    (case na_Needed_lots => k_is)
    (case na_Needed_parts => k_is)
    (case na_Needed_word => k_is)
    (case na_Paper_parts => k_is)
    (case na_Paper_word => k_is)
    (case na_StepCheck_back => k_is)
    (case na_StepCheck_places => k_is)
    (case na_StepCheck_procedures => k_is)
    (case na_StepCheck_registers => k_is)
    (case icg => k_is)
    (case ict => k_is)
    (case ia_Code => k_is)
    (case io_Code => k_is)
    (case ia_Needed => k_is)
    (case io_Needed => k_is)
    (case ia_Paper => k_is)
    (case io_Paper => k_is)
    (case nb_Code_non => kit_is)
    (case nb_Code_bl => kit_is)
    (case nb_Code_int => kit_is)
    (case nb_Code_str => kit_is)
    (case nb_Code_tup => kit_is)
    (case nb_Code_lst => kit_is)
    (case nb_Code_dict => kit_is)
    (case ib_Code_Code => kit_is)
    (case nb_Needed_non => kit_is)
    (case nb_Needed_bl => kit_is)
    (case nb_Needed_int => kit_is)
    (case nb_Needed_str => kit_is)
    (case nb_Needed_tup => kit_is)
    (case nb_Needed_lst => kit_is)
    (case nb_Needed_dict => kit_is)
    (case ib_Needed_Needed => kit_is)
    (case ib_Needed_Paper => kit_is)
    (case a0 => k_is)
    (case l0 => k_is)
    (case c0 => k_is)
    (case k0 => k_is)
    (case a1 => k_is)
    (case l1 => k_is)
    (case c1 => k_is)
    (case k1 => k_is)
    (case a2 => k_is)
    (case l2 => k_is)
    (case c2 => k_is)
    (case k2 => k_is)
    (case a3 => k_is)
    (case l3 => k_is)
    (case c3 => k_is)
    (case k3 => k_is)
    (case a4 => k_is)
    (case l4 => k_is)
    (case c4 => k_is)
    (case k4 => k_is)
    (case a5 => k_is)
    (case l5 => k_is)
    (case c5 => k_is)
    (case k5 => k_is)
    (case a6 => k_is)
    (case l6 => k_is)
    (case c6 => k_is)
    (case k6 => k_is)
    (case a7 => k_is)
    (case l7 => k_is)
    (case c7 => k_is)
    (case k7 => k_is)
    (case a8 => k_is)
    (case i8 => k_is)
    (case l8 => k_is)
    (case c8 => k_is)
    (case k8 => k_is)
    (case a9 => k_is)
    (case l9 => k_is)
    (case c9 => k_is)
    (case k9 => k_is)
    (case a10 => k_is)
    (case l10 => k_is)
    (case c10 => k_is)
    (case k10 => k_is)
    (case a11 => k_is)
    (case i11 => k_is)
    (case l11 => k_is)
    (case c11 => k_is)
    (case k11 => k_is)
    (case a12 => k_is)
    (case i12 => k_is)
    (case l12 => k_is)
    (case c12 => k_is)
    (case k12 => k_is)
    (case a13 => k_is)
    (case i13 => k_is)
    (case l13 => k_is)
    (case c13 => k_is)
    (case k13 => k_is)
    (case a14 => k_is)
    (case i14 => k_is)
    (case l14 => k_is)
    (case c14 => k_is)
    (case k14 => k_is)
    (case a15 => k_is)
    (case i15 => k_is)
    (case l15 => k_is)
    (case c15 => k_is)
    (case k15 => k_is)
    (case a16 => k_is)
    (case i16 => k_is)
    (case l16 => k_is)
    (case c16 => k_is)
    (case k16 => k_is)
    (case a17 => k_is)
    (case i17 => k_is)
    (case l17 => k_is)
    (case c17 => k_is)
    (case k17 => k_is)
    (case a18 => k_is)
    (case l18 => k_is)
    (case c18 => k_is)
    (case k18 => k_is)
    (case a19 => k_is)
    (case i19 => k_is)
    (case l19 => k_is)
    (case c19 => k_is)
    (case k19 => k_is)
    (case a20 => k_is)
    (case l20 => k_is)
    (case c20 => k_is)
    (case k20 => k_is)
    (case a21 => k_is)
    (case i21 => k_is)
    (case l21 => k_is)
    (case c21 => k_is)
    (case r21 => k_is)
    (case v21 => rfl)
    (case e21 => k_is)
    (case y21 => k_is)
    (case k21 => k_is)
    (case a22 => k_is)
    (case l22 => k_is)
    (case c22 => k_is)
    (case k22 => k_is)
    (case a23 => k_is)
    (case l23 => k_is)
    (case c23 => k_is)
    (case k23 => k_is)
    (case a24 => k_is)
    (case l24 => k_is)
    (case c24 => k_is)
    (case k24 => k_is)
    (case a25 => k_is)
    (case l25 => k_is)
    (case c25 => k_is)
    (case k25 => k_is)
    (case a26 => k_is)
    (case l26 => k_is)
    (case c26 => k_is)
    (case k26 => k_is)
    (case a27 => k_is)
    (case l27 => k_is)
    (case c27 => k_is)
    (case k27 => k_is)
    (case a28 => k_is)
    (case l28 => k_is)
    (case c28 => k_is)
    (case k28 => k_is)
    (case a29 => k_is)
    (case l29 => k_is)
    (case c29 => k_is)
    (case k29 => k_is)
    (case a30 => k_is)
    (case l30 => k_is)
    (case c30 => k_is)
    (case k30 => k_is)
    (case a31 => k_is)
    (case l31 => k_is)
    (case c31 => k_is)
    (case k31 => k_is)
    (case a32 => k_is)
    (case l32 => k_is)
    (case c32 => k_is)
    (case k32 => k_is)
    (case a33 => k_is)
    (case l33 => k_is)
    (case c33 => k_is)
    (case k33 => k_is)
    (case a34 => k_is)
    (case l34 => k_is)
    (case c34 => k_is)
    (case k34 => k_is)
    (case a35 => k_is)
    (case l35 => k_is)
    (case c35 => k_is)
    (case k35 => k_is)
    (case a36 => k_is)
    (case l36 => k_is)
    (case c36 => k_is)
    (case k36 => k_is)
    (case a37 => k_is)
    (case l37 => k_is)
    (case c37 => k_is)
    (case k37 => k_is)
    (case a38 => k_is)
    (case l38 => k_is)
    (case c38 => k_is)
    (case k38 => k_is)
    (case a39 => k_is)
    (case l39 => k_is)
    (case c39 => k_is)
    (case k39 => k_is)
    (case a40 => k_is)
    (case l40 => k_is)
    (case c40 => k_is)
    (case k40 => k_is)
    (case a41 => k_is)
    (case l41 => k_is)
    (case c41 => k_is)
    (case k41 => k_is)
    (case a42 => k_is)
    (case l42 => k_is)
    (case c42 => k_is)
    (case k42 => k_is)
    (case a43 => k_is)
    (case l43 => k_is)
    (case c43 => k_is)
    (case k43 => k_is)
    (case a44 => k_is)
    (case l44 => k_is)
    (case c44 => k_is)
    (case k44 => k_is)
    (case u21 => k_is)
    (case q21 => ks_is)
    (case t21 => k_is)
    (case n21 => k_is)
    (case sfl => rfl)
    (case stp => rfl)
    (case ssu => k_is)
    (case sop => k_is)
    (case g_BACK => k_is)
    (case g_CALL => k_is)
    (case g_DEED => k_is)
    (case g_FIGURES => k_is)
    (case g_GO => k_is)
    (case g_LAST => k_is)
    (case h_LAST => k_is)
    (case g_MOST_HANDED => k_is)
    (case g_MOST_MULTIPLE => k_is)
    (case g_MOST_PROCEDURES => k_is)
    (case g_MOST_REGISTERS => k_is)
    (case g_MOST_SHOWN => k_is)
    (case g_MOST_STEPS => k_is)
    (case g_SET => k_is)
    (case g_SMALL => k_is)
    (case g_TEST => k_is)
    (case z_abs => k_is)
    (case z_all => k_is)
    (case z_bool => k_is)
    (case z_enumerate => k_is)
    (case z_int => k_is)
    (case z_isinstance => k_is)
    (case z_len => k_is)
    (case z_list => k_is)
    (case z_max => k_is)
    (case z_min => k_is)
    (case z_range => k_is)
    (case z_repr => k_is)
    (case z_set => k_is)
    (case z_sorted => k_is)
    (case z_str => k_is)
    (case z_tuple => k_is)
    (case z_zip => k_is)
