import PyProof.Rows.All
import HandS.ForMost
import HandS.Conv
import HandS.Walk
import HandS.Zip
import HandS.Wide
import HandS.Star
import HandS.TupMul
import KE.GoesMore
import KE.GoesEnum
import KE.GoesZip
import PyProof.ReprLen
import HandS.Style
import PySem.Challenge.RW_allmoduli_k26_what_is_left_of_rows
set_option Elab.async false
set_option linter.all false
set_option maxRecDepth 100000
set_option exponentiation.threshold 300
/-! DLa: a layer of data over the hand layer: values as trees, changing objects by number. -/
namespace DL
open PySem L2

/-- a value as a tree; ref k: the k-th changing object; op v: a value that is not looked into -/
inductive Vl where
  | non | bl (b : Bool) | int (i : Int) | str (x : Str) | tup (xs : List Vl) | lst (xs : List Vl) | frl (xs : List Vl) | ref (k : Nat) | op (v : V)

/-- a changing object -/
inductive Mo where
  | dead | lst (xs : List Vl) | dict (kvs : List (Key × Vl)) | ins (C : Addr) (fs : List (Str × Vl))

abbrev Mu := List Mo
abbrev Rho := List (Option Vl)
/-- where the changing objects lie, and what stands still -/
structure Cf where
  al : List Addr
  Hd : Hp
  /-- what is kept aside -/
  Fr : Hp

mutual
inductive Rep (K : PySem.W.Frag) (c : Cf) : V → Vl → Prop
  | non : Rep K c .non .non
  | bl (b : Bool) : Rep K c (.bl b) (.bl b)
  | int (i : Int) : Rep K c (.int i) (.int i)
  | str (x : Str) : Rep K c (.str x) (.str x)
  | tup {a : Addr} {vs : List V} {xs : List Vl} : SqT K c.Hd a vs → xs.length ≤ sizeLine → Reps K c vs xs → Rep K c (.ref a) (.tup xs)
  | lst {a : Addr} {vs : List V} {xs : List Vl} : c.Hd a = some (.lst vs) → xs.length ≤ sizeLine → Reps K c vs xs → Rep K c (.ref a) (.lst xs)
  | frl {a : Addr} {vs : List V} {xs : List Vl} : SqL K c.Hd a vs → xs.length ≤ sizeLine → Reps K c vs xs → Rep K c (.ref a) (.frl xs)
  | ref {a : Addr} {k : Nat} : c.al[k]? = some a → Rep K c (.ref a) (.ref k)
  | op (v : V) : Rep K c v (.op v)
inductive Reps (K : PySem.W.Frag) (c : Cf) : List V → List Vl → Prop
  | nil : Reps K c [] []
  | cons {v : V} {x : Vl} {vs : List V} {xs : List Vl} : Rep K c v x → Reps K c vs xs → Reps K c (v :: vs) (x :: xs)
end

structure Ext0 (c c' : Cf) : Prop where
  al : ∀ (k : Nat) (a : Addr), c.al[k]? = some a → c'.al[k]? = some a
  hd : Same c.Hd c'.Hd
structure Ext (c c' : Cf) : Prop extends Ext0 c c' where
  fr : c'.Fr = c.Fr
theorem Ext0.refl (c : Cf) : Ext0 c c := ⟨fun _ _ h => h, Same.refl _⟩
theorem Ext0.trans {a b c : Cf} (x : Ext0 a b) (y : Ext0 b c) : Ext0 a c := ⟨fun k p h => y.al k p (x.al k p h), x.hd.trans y.hd⟩
theorem Ext.refl (c : Cf) : Ext c c := ⟨Ext0.refl c, rfl⟩
theorem Ext.trans {a b c : Cf} (x : Ext a b) (y : Ext b c) : Ext a c := ⟨x.toExt0.trans y.toExt0, y.fr.trans x.fr⟩

theorem same_rd {H H' : Hp} {a : Addr} {u : HO} (e : Same H H') (h : Rd H a u) : Rd H' a u := by
  rcases h with h | ⟨o, h⟩
  · exact Or.inl (e a _ h)
  · exact Or.inr ⟨o, e a _ h⟩
theorem same_t {K : PySem.W.Frag} {H H' : Hp} {a : Addr} {xs : List V} (e : Same H H') (h : SqT K H a xs) : SqT K H' a xs := by
  rcases h with h | h
  · exact Or.inl (same_rd e h)
  · exact Or.inr h
theorem same_l {K : PySem.W.Frag} {H H' : Hp} {a : Addr} {xs : List V} (e : Same H H') (h : SqL K H a xs) : SqL K H' a xs := e.seq h

mutual
theorem Rep.mono {K : PySem.W.Frag} {c c' : Cf} (e : Ext0 c c') : ∀ (x : Vl) (v : V), Rep K c v x → Rep K c' v x
  | .non, _, h => by cases h; exact .non
  | .bl b, _, h => by cases h; exact .bl b
  | .int i, _, h => by cases h; exact .int i
  | .str s, _, h => by cases h; exact .str s
  | .tup xs, _, h => by
    cases h with
    | tup h1 hz h2 => exact .tup (same_t e.hd h1) hz (Reps.mono e xs _ h2)
  | .lst xs, _, h => by
    cases h with
    | lst h1 hz h2 => exact .lst (e.hd _ _ h1) hz (Reps.mono e xs _ h2)
  | .frl xs, _, h => by
    cases h with
    | frl h1 hz h2 => exact .frl (same_l e.hd h1) hz (Reps.mono e xs _ h2)
  | .ref k, _, h => by
    cases h with
    | ref h1 => exact .ref (e.al _ _ h1)
  | .op v, _, h => by
    cases h
    exact .op v
theorem Reps.mono {K : PySem.W.Frag} {c c' : Cf} (e : Ext0 c c') : ∀ (xs : List Vl) (vs : List V), Reps K c vs xs → Reps K c' vs xs
  | [], _, h => by cases h; exact .nil
  | x :: xs, _, h => by
    cases h with
    | cons h1 h2 => exact .cons (Rep.mono e x _ h1) (Reps.mono e xs _ h2)
end
theorem Rep.up {K : PySem.W.Frag} {c c' : Cf} {x : Vl} {v : V} (h : Rep K c v x) (e : Ext0 c c') : Rep K c' v x := h.mono e x v
theorem Reps.up {K : PySem.W.Frag} {c c' : Cf} {xs : List Vl} {vs : List V} (h : Reps K c vs xs) (e : Ext0 c c') : Reps K c' vs xs := h.mono e xs vs
section
variable {K : PySem.W.Frag} {c : Cf}
theorem Reps.length : ∀ {xs : List Vl} {vs : List V}, Reps K c vs xs → vs.length = xs.length
  | [], _, h => by cases h; rfl
  | x :: xs, _, h => by
    cases h with
    | cons h1 h2 => exact congrArg (· + 1) (Reps.length h2)
theorem Reps.get : ∀ {xs : List Vl} {vs : List V} {i : Nat} {x : Vl}, Reps K c vs xs → xs[i]? = some x → ∃ v, vs[i]? = some v ∧ Rep K c v x
  | [], _, _, _, h, e => by simp at e
  | y :: xs, _, 0, x, h, e => by
    cases h with
    | cons h1 h2 =>
      have e' : y = x := by simpa using e
      subst e'
      exact ⟨_, rfl, h1⟩
  | y :: xs, _, i + 1, x, h, e => by
    cases h with
    | cons h1 h2 =>
      obtain ⟨v, q, r⟩ := Reps.get (i := i) (x := x) h2 (by simpa using e)
      exact ⟨v, by simpa using q, r⟩
theorem Reps.getV : ∀ {xs : List Vl} {vs : List V} {i : Nat} {v : V}, Reps K c vs xs → vs[i]? = some v → ∃ x, xs[i]? = some x ∧ Rep K c v x
  | [], _, _, _, h, e => by cases h; simp at e
  | y :: xs, _, 0, v, h, e => by
    cases h with
    | cons h1 h2 =>
      rename_i w ws
      have e' : w = v := by simpa using e
      subst e'
      exact ⟨y, rfl, h1⟩
  | y :: xs, _, i + 1, v, h, e => by
    cases h with
    | cons h1 h2 =>
      obtain ⟨x, q, r⟩ := Reps.getV (i := i) (v := v) h2 (by simpa using e)
      exact ⟨x, by simpa using q, r⟩
theorem Reps.append : ∀ {xs ys : List Vl} {vs ws : List V}, Reps K c vs xs → Reps K c ws ys → Reps K c (vs ++ ws) (xs ++ ys)
  | [], _, _, _, h, g => by cases h; exact g
  | x :: xs, _, _, _, h, g => by
    cases h with
    | cons h1 h2 => exact .cons h1 (Reps.append h2 g)
theorem Reps.take : ∀ (n : Nat) {xs : List Vl} {vs : List V}, Reps K c vs xs → Reps K c (vs.take n) (xs.take n)
  | 0, _, _, _ => .nil
  | n + 1, [], _, h => by cases h; exact .nil
  | n + 1, x :: xs, _, h => by
    cases h with
    | cons h1 h2 => exact .cons h1 (Reps.take n h2)
theorem Reps.drop : ∀ (n : Nat) {xs : List Vl} {vs : List V}, Reps K c vs xs → Reps K c (vs.drop n) (xs.drop n)
  | 0, _, _, h => h
  | n + 1, [], _, h => by cases h; exact .nil
  | n + 1, x :: xs, _, h => by
    cases h with
    | cons h1 h2 => exact Reps.drop n h2
theorem Reps.set {v : V} {x : Vl} (r : Rep K c v x) : ∀ (n : Nat) {xs : List Vl} {vs : List V}, Reps K c vs xs → Reps K c (vs.set n v) (xs.set n x)
  | 0, [], _, h => by cases h; exact .nil
  | n + 1, [], _, h => by cases h; exact .nil
  | 0, y :: xs, _, h => by
    cases h with
    | cons h1 h2 => exact .cons r h2
  | n + 1, y :: xs, _, h => by
    cases h with
    | cons h1 h2 => exact .cons h1 (Reps.set r n h2)
theorem Reps.one {v : V} {x : Vl} (h : Rep K c v x) : Reps K c [v] [x] := .cons h .nil
theorem Reps.ints_of : ∀ {ns : List Int} {vs : List V}, Reps K c vs (ns.map Vl.int) → vs = ns.map V.int
  | [], _, h => by cases h; rfl
  | n :: ns, _, h => by
    cases h with
    | cons h1 h2 =>
      cases h1
      rw [Reps.ints_of h2]
      rfl
theorem Reps.ints : ∀ (ns : List Int), Reps K c (ns.map V.int) (ns.map Vl.int)
  | [] => .nil
  | n :: ns => .cons (.int n) (Reps.ints ns)
end

/-- the fields of an instance, the pairs of a dict -/
inductive RepF (K : PySem.W.Frag) (c : Cf) {κ : Type} : List (κ × V) → List (κ × Vl) → Prop
  | nil : RepF K c [] []
  | cons {f : κ} {v : V} {x : Vl} {vs : List (κ × V)} {xs : List (κ × Vl)} : Rep K c v x → RepF K c vs xs → RepF K c ((f, v) :: vs) ((f, x) :: xs)
theorem RepF.up {K : PySem.W.Frag} {c c' : Cf} {κ : Type} (e : Ext0 c c') : ∀ {xs : List (κ × Vl)} {vs : List (κ × V)}, RepF K c vs xs → RepF K c' vs xs
  | [], _, h => by cases h; exact .nil
  | (f, x) :: xs, _, h => by
    cases h with
    | cons h1 h2 => exact .cons (h1.up e) (RepF.up e h2)

/-- what lies at a changing object's address -/
def ObR (K : PySem.W.Frag) (c : Cf) (h : Option HO) : Mo → Prop
  | .dead => h.isSome = true
  | .lst xs => ∃ vs, h = some (.lst vs) ∧ xs.length ≤ sizeLine ∧ Reps K c vs xs
  | .dict kvs => ∃ vs, h = some (.dK vs) ∧ RepF K c vs kvs
  | .ins C fs => ∃ dx vs, h = some (.ins C dx vs) ∧ RepF K c vs fs
theorem ObR.up {K : PySem.W.Frag} {c c' : Cf} {h : Option HO} (e : Ext0 c c') : ∀ {o : Mo}, ObR K c h o → ObR K c' h o
  | .dead, x => x
  | .lst xs, x => let ⟨vs, a, z, b⟩ := x; ⟨vs, a, z, b.up e⟩
  | .dict _, x => let ⟨vs, a, b⟩ := x; ⟨vs, a, b.up e⟩
  | .ins _ _, x => let ⟨dx, vs, a, b⟩ := x; ⟨dx, vs, a, b.up e⟩
theorem ObR.some {K : PySem.W.Frag} {c : Cf} {h : Option HO} : ∀ {o : Mo}, ObR K c h o → h.isSome = true
  | .dead, x => x
  | .lst _, x => by obtain ⟨vs, a, _⟩ := x; rw [a]; rfl
  | .dict _, x => by obtain ⟨vs, a, _⟩ := x; rw [a]; rfl
  | .ins _ _, x => by obtain ⟨dx, vs, a, _⟩ := x; rw [a]; rfl

structure RM (K : PySem.W.Frag) (c : Cf) (μ : Mu) (H : Hp) : Prop where
  sub : Same c.Hd H
  len : c.al.length = μ.length
  nod : c.al.Nodup
  obj : ∀ (k : Nat) (a : Addr) (o : Mo), c.al[k]? = some a → μ[k]? = some o → c.Hd a = none ∧ ObR K c (H a) o
  fsb : Same c.Fr H
  fds : ∀ (a : Addr) (o : HO), c.Fr a = some o → c.Hd a = none ∧ a ∉ c.al

structure RS (K : PySem.W.Frag) (c : Cf) (ρ : Rho) (σ : L2.St) : Prop where
  len : ρ.length = σ.length
  get : ∀ (i : Nat) (x : Vl), ρ[i]? = some (some x) → ∃ v, σ[i]? = some (some v) ∧ Rep K c v x

section
variable {K : PySem.W.Frag} {c c' : Cf} {μ : Mu} {H H' : Hp} {ρ : Rho} {σ : L2.St}
theorem RS.up (h : RS K c ρ σ) (e : Ext0 c c') : RS K c' ρ σ := ⟨h.len, fun i x q => let ⟨v, a, b⟩ := h.get i x q; ⟨v, a, b.up e⟩⟩
theorem RS.set {v : V} {x : Vl} (h : RS K c ρ σ) (i : Nat) (r : Rep K c v x) : RS K c (ρ.set i (some x)) (σ.set i (some v)) := by
  refine ⟨by rw [List.length_set, List.length_set]; exact h.len, fun j y e => ?_⟩
  by_cases hj : i = j
  · subst hj
    by_cases hl : i < ρ.length
    · rw [List.getElem?_set_self hl] at e
      have e' : x = y := by simpa using e
      subst e'
      exact ⟨v, List.getElem?_set_self (by rw [← h.len]; exact hl), r⟩
    · rw [List.getElem?_eq_none (by rw [List.length_set]; omega)] at e
      cases e
  · rw [List.getElem?_set_ne hj] at e
    rw [List.getElem?_set_ne hj]
    exact h.get j y e
theorem RM.nin {p : Addr} (R : RM K c μ H) (hp : H p = none) : p ∉ c.al := fun hm => by
  obtain ⟨k, hk, e⟩ := List.getElem_of_mem hm
  have hk' : k < μ.length := by rw [← R.len]; exact hk
  have s := (R.obj k p μ[k] (by rw [← e]; simp [hk]) (by simp [hk'])).2.some
  rw [hp] at s; cases s
/-- a new object that will not change -/
theorem RM.still {p : Addr} {o : HO} (R : RM K c μ H) (hp : H p = none) : RM K ⟨c.al, upd c.Hd p o, c.Fr⟩ μ (upd H p o) ∧ Ext c ⟨c.al, upd c.Hd p o, c.Fr⟩ := by
  have hd : c.Hd p = none := R.sub.free hp
  have hf : c.Fr p = none := R.fsb.free hp
  have E : Ext c ⟨c.al, upd c.Hd p o, c.Fr⟩ := ⟨⟨fun _ _ h => h, fun b u e => by
    show upd c.Hd p o b = _
    rw [upd_ne (ne_of_none e hd)]; exact e⟩, rfl⟩
  refine ⟨⟨fun b u e => ?_, R.len, R.nod, fun k a m h1 h2 => ?_, fun b u e => ?_, fun a u e => ?_⟩, E⟩
  · have e : upd c.Hd p o b = some u := e
    by_cases hb : b = p
    · subst hb
      rw [upd_same] at e ⊢; exact e
    · rw [upd_ne hb] at e ⊢
      exact R.sub b u e
  · obtain ⟨q1, q2⟩ := R.obj k a m h1 h2
    have ne : a ≠ p := fun z => by
      have s := q2.some
      rw [z, hp] at s; cases s
    refine ⟨?_, ?_⟩
    · show upd c.Hd p o a = none
      rw [upd_ne ne]; exact q1
    · rw [upd_ne ne]; exact q2.up E.toExt0
  · have e : c.Fr b = some u := e
    rw [upd_ne (ne_of_none e hf)]
    exact R.fsb b u e
  · have e : c.Fr a = some u := e
    obtain ⟨q1, q2⟩ := R.fds a u e
    refine ⟨?_, q2⟩
    show upd c.Hd p o a = none
    rw [upd_ne (ne_of_none e hf)]; exact q1
/-- a new object that may change -/
theorem RM.fresh {p : Addr} {o : HO} {m : Mo} (R : RM K c μ H) (hp : H p = none) (hm : ObR K ⟨c.al ++ [p], c.Hd, c.Fr⟩ (some o) m) : RM K ⟨c.al ++ [p], c.Hd, c.Fr⟩ (μ ++ [m]) (upd H p o) ∧ Ext c ⟨c.al ++ [p], c.Hd, c.Fr⟩ := by
  have hd : c.Hd p = none := R.sub.free hp
  have hf : c.Fr p = none := R.fsb.free hp
  have E : Ext c ⟨c.al ++ [p], c.Hd, c.Fr⟩ := ⟨⟨fun k a h => by
    show (c.al ++ [p])[k]? = some a
    rw [List.getElem?_append_left (List.getElem?_eq_some_iff.mp h).1]; exact h, Same.refl _⟩, rfl⟩
  have nin : ∀ (k : Nat) (a : Addr), c.al[k]? = some a → a ≠ p := fun k a h z => by
    subst z
    exact R.nin hp (List.mem_of_getElem? h)
  refine ⟨⟨fun b u e => ?_, by simp [R.len], ?_, fun k a m' h1 h2 => ?_, fun b u e => ?_, fun a u e => ?_⟩, E⟩
  · rw [upd_ne (ne_of_none e hd)]
    exact R.sub b u e
  · show (c.al ++ [p]).Nodup
    rw [List.nodup_append]
    refine ⟨R.nod, by simp, fun a ha b hb z => ?_⟩
    have hb' : b = p := by simpa using hb
    subst hb'; subst z
    exact R.nin hp ha
  · have h1 : (c.al ++ [p])[k]? = some a := h1
    by_cases hk : k < c.al.length
    · rw [List.getElem?_append_left hk] at h1
      rw [List.getElem?_append_left (by rw [← R.len]; exact hk)] at h2
      obtain ⟨q1, q2⟩ := R.obj k a m' h1 h2
      refine ⟨q1, ?_⟩
      rw [upd_ne (nin k a h1)]
      exact q2.up E.toExt0
    · have hk2 : k = c.al.length := by
        have := (List.getElem?_eq_some_iff.mp h1).1
        simp at this; omega
      subst hk2
      have e1 : p = a := by simpa using h1
      have e2 : m = m' := by rw [R.len] at h2; simpa using h2
      subst e1; subst e2
      refine ⟨hd, ?_⟩
      rw [upd_same]; exact hm
  · have e : c.Fr b = some u := e
    rw [upd_ne (ne_of_none e hf)]
    exact R.fsb b u e
  · have e : c.Fr a = some u := e
    obtain ⟨q1, q2⟩ := R.fds a u e
    refine ⟨q1, fun hm => ?_⟩
    have hm : a ∈ c.al ++ [p] := hm
    rcases List.mem_append.mp hm with z | z
    · exact q2 z
    · have z' : a = p := by simpa using z
      subst z'
      have e9 : c.Fr a = some u := e
      rw [hf] at e9; cases e9
/-- a changing object is changed -/
theorem RM.write {k : Nat} {a : Addr} {o : HO} {m : Mo} (R : RM K c μ H) (hk : c.al[k]? = some a) (hm : ObR K c (some o) m) : RM K c (μ.set k m) (upd H a o) := by
  have hlt : k < μ.length := by rw [← R.len]; exact (List.getElem?_eq_some_iff.mp hk).1
  have hd : c.Hd a = none := (R.obj k a μ[k] hk (by simp [hlt])).1
  refine ⟨fun b u e => ?_, by simp [R.len], R.nod, fun j b m' h1 h2 => ?_, fun b u e => ?_, R.fds⟩
  · rw [upd_ne (ne_of_none e hd)]
    exact R.sub b u e
  · by_cases hj : j = k
    · subst hj
      rw [hk] at h1
      have e1 : a = b := by simpa using h1
      subst e1
      rw [List.getElem?_set_self hlt] at h2
      have e2 : m = m' := by simpa using h2
      subst e2
      refine ⟨hd, ?_⟩
      rw [upd_same]; exact hm
    · rw [List.getElem?_set_ne (Ne.symm hj)] at h2
      obtain ⟨q1, q2⟩ := R.obj j b m' h1 h2
      have ne : b ≠ a := fun z => by
        subst z
        exact hj (nd_ix R.nod h1 hk)
      refine ⟨q1, ?_⟩
      rw [upd_ne ne]; exact q2
  · have ne : b ≠ a := fun z => by
      subst z
      exact (R.fds b u e).2 (List.mem_of_getElem? hk)
    rw [upd_ne ne]; exact R.fsb b u e
/-- a new object kept aside -/
theorem RM.aside {p : Addr} {o : HO} (R : RM K c μ H) (hp : H p = none) : RM K ⟨c.al, c.Hd, upd c.Fr p o⟩ μ (upd H p o) := by
  have hd : c.Hd p = none := R.sub.free hp
  have hf : c.Fr p = none := R.fsb.free hp
  refine ⟨fun b u e => ?_, R.len, R.nod, fun k a m h1 h2 => ?_, fun b u e => ?_, fun a u e => ?_⟩
  · rw [upd_ne (ne_of_none e hd)]; exact R.sub b u e
  · obtain ⟨q1, q2⟩ := R.obj k a m h1 h2
    have ne : a ≠ p := fun z => by
      subst z
      exact R.nin hp (List.mem_of_getElem? h1)
    refine ⟨q1, ?_⟩
    rw [upd_ne ne]; exact ObR.up (c := c) (c' := ⟨c.al, c.Hd, upd c.Fr p o⟩) ⟨fun _ _ h => h, Same.refl _⟩ q2
  · have e : upd c.Fr p o b = some u := e
    by_cases hb : b = p
    · subst hb; rw [upd_same] at e ⊢; exact e
    · rw [upd_ne hb] at e ⊢; exact R.fsb b u e
  · have e : upd c.Fr p o a = some u := e
    by_cases hb : a = p
    · subst hb; exact ⟨hd, R.nin hp⟩
    · rw [upd_ne hb] at e; exact R.fds a u e
/-- what is kept aside is written -/
theorem RM.asideW {p : Addr} {o o' : HO} (R : RM K c μ H) (hp : c.Fr p = some o) : RM K ⟨c.al, c.Hd, upd c.Fr p o'⟩ μ (upd H p o') := by
  obtain ⟨hd, hn⟩ := R.fds p o hp
  refine ⟨fun b u e => ?_, R.len, R.nod, fun k a m h1 h2 => ?_, fun b u e => ?_, fun a u e => ?_⟩
  · rw [upd_ne (ne_of_none e hd)]; exact R.sub b u e
  · obtain ⟨q1, q2⟩ := R.obj k a m h1 h2
    have ne : a ≠ p := fun z => by
      subst z
      exact hn (List.mem_of_getElem? h1)
    refine ⟨q1, ?_⟩
    rw [upd_ne ne]; exact ObR.up (c := c) (c' := ⟨c.al, c.Hd, upd c.Fr p o'⟩) ⟨fun _ _ h => h, Same.refl _⟩ q2
  · have e : upd c.Fr p o' b = some u := e
    by_cases hb : b = p
    · subst hb; rw [upd_same] at e ⊢; exact e
    · rw [upd_ne hb] at e ⊢; exact R.fsb b u e
  · have e : upd c.Fr p o' a = some u := e
    by_cases hb : a = p
    · subst hb; exact ⟨hd, hn⟩
    · rw [upd_ne hb] at e; exact R.fds a u e
/-- what was kept aside will not change any more -/
theorem RM.asideStill {p : Addr} {o : HO} {F : Hp} (R : RM K c μ H) (hp : c.Fr p = some o) (hF : F p = none) (hF2 : ∀ b u, F b = some u → c.Fr b = some u) : RM K ⟨c.al, upd c.Hd p o, F⟩ μ H ∧ Ext0 c ⟨c.al, upd c.Hd p o, F⟩ := by
  obtain ⟨hd, hn⟩ := R.fds p o hp
  have E : Ext0 c ⟨c.al, upd c.Hd p o, F⟩ := ⟨fun _ _ h => h, fun b u e => by
    show upd c.Hd p o b = _
    rw [upd_ne (ne_of_none e hd)]; exact e⟩
  refine ⟨⟨fun b u e => ?_, R.len, R.nod, fun k a m h1 h2 => ?_, fun b u e => R.fsb b u (hF2 b u e), fun a u e => ?_⟩, E⟩
  · have e : upd c.Hd p o b = some u := e
    by_cases hb : b = p
    · subst hb
      rw [upd_same] at e
      rw [← e]; exact R.fsb _ _ hp
    · rw [upd_ne hb] at e; exact R.sub b u e
  · obtain ⟨q1, q2⟩ := R.obj k a m h1 h2
    have ne : a ≠ p := fun z => by
      subst z
      exact hn (List.mem_of_getElem? h1)
    refine ⟨?_, q2.up E⟩
    show upd c.Hd p o a = none
    rw [upd_ne ne]; exact q1
  · have e : F a = some u := e
    obtain ⟨q1, q2⟩ := R.fds a u (hF2 a u e)
    refine ⟨?_, q2⟩
    show upd c.Hd p o a = none
    rw [upd_ne (ne_of_none e hF)]; exact q1
/-- what was kept aside may change -/
theorem RM.asideFresh {p : Addr} {o : HO} {F : Hp} {m : Mo} (R : RM K c μ H) (hp : c.Fr p = some o) (hF : F p = none) (hF2 : ∀ b u, F b = some u → c.Fr b = some u) (hm : ObR K ⟨c.al ++ [p], c.Hd, F⟩ (some o) m) :
    RM K ⟨c.al ++ [p], c.Hd, F⟩ (μ ++ [m]) H ∧ Ext0 c ⟨c.al ++ [p], c.Hd, F⟩ := by
  obtain ⟨hd, hn⟩ := R.fds p o hp
  have E : Ext0 c ⟨c.al ++ [p], c.Hd, F⟩ := ⟨fun k a h => by
    show (c.al ++ [p])[k]? = some a
    rw [List.getElem?_append_left (List.getElem?_eq_some_iff.mp h).1]; exact h, Same.refl _⟩
  refine ⟨⟨R.sub, by simp [R.len], ?_, fun k a m' h1 h2 => ?_, fun b u e => R.fsb b u (hF2 b u e), fun a u e => ?_⟩, E⟩
  · show (c.al ++ [p]).Nodup
    rw [List.nodup_append]
    refine ⟨R.nod, by simp, fun a ha b hb z => ?_⟩
    have hb' : b = p := by simpa using hb
    subst hb'; subst z
    exact hn ha
  · have h1 : (c.al ++ [p])[k]? = some a := h1
    by_cases hk : k < c.al.length
    · rw [List.getElem?_append_left hk] at h1
      rw [List.getElem?_append_left (by rw [← R.len]; exact hk)] at h2
      obtain ⟨q1, q2⟩ := R.obj k a m' h1 h2
      exact ⟨q1, q2.up E⟩
    · have hk2 : k = c.al.length := by
        have := (List.getElem?_eq_some_iff.mp h1).1
        simp at this; omega
      subst hk2
      have e1 : p = a := by simpa using h1
      have e2 : m = m' := by rw [R.len] at h2; simpa using h2
      subst e1; subst e2
      exact ⟨hd, by rw [R.fsb _ _ hp]; exact hm⟩
  · have e : F a = some u := e
    obtain ⟨q1, q2⟩ := R.fds a u (hF2 a u e)
    refine ⟨q1, fun hm => ?_⟩
    have hm : a ∈ c.al ++ [p] := hm
    rcases List.mem_append.mp hm with z | z
    · exact q2 z
    · have z' : a = p := by simpa using z
      subst z'
      have e9 : F a = some u := e
      rw [hF] at e9; cases e9
end

/-! ### readings over data -/
abbrev DK := Vl → Mu → Prop
abbrev DE := Rho → Mu → DK → Prop
abbrev DT := Rho → Mu → (Bool → Mu → Prop) → Prop
abbrev DA := Rho → Mu → (List Vl → Mu → Prop) → Prop
abbrev DO := Rho → Mu → (Option Int → Mu → Prop) → Prop
structure DEnds where
  nx : Rho → Mu → Prop
  rt : DK
  bk : Rho → Mu → Prop := fun _ _ => False
  ct : Rho → Mu → Prop := fun _ _ => False
abbrev DS := DEnds → Rho → Mu → Prop
abbrev DG := Vl → Rho → Mu → (Rho → Mu → Prop) → Prop
abbrev DGs := List Vl → Rho → Mu → (Rho → Mu → Prop) → Prop

def SimE (K : PySem.W.Frag) (te : TE) (de : DE) : Prop := ∀ (c : Cf) (ρ : Rho) (μ : Mu) (σ : L2.St) (H : Hp) (Q : DK) (P : VK), RM K c μ H → RS K c ρ σ → de ρ μ Q →
  (∀ c' x μ' v H', Ext c c' → RM K c' μ' H' → Rep K c' v x → Q x μ' → P v H') → te σ H P
def SimT (K : PySem.W.Frag) (tt : TT) (dt : DT) : Prop := ∀ (c : Cf) (ρ : Rho) (μ : Mu) (σ : L2.St) (H : Hp) (Q : Bool → Mu → Prop) (P : Bool → Hp → Prop), RM K c μ H → RS K c ρ σ → dt ρ μ Q →
  (∀ c' b μ' H', Ext c c' → RM K c' μ' H' → Q b μ' → P b H') → tt σ H P
def SimA (K : PySem.W.Frag) (ta : TA) (da : DA) : Prop := ∀ (c : Cf) (ρ : Rho) (μ : Mu) (σ : L2.St) (H : Hp) (Q : List Vl → Mu → Prop) (P : List V → Hp → Prop), RM K c μ H → RS K c ρ σ → da ρ μ Q →
  (∀ c' xs μ' vs H', Ext c c' → RM K c' μ' H' → Reps K c' vs xs → Q xs μ' → P vs H') → ta σ H P
def SimO (K : PySem.W.Frag) (to : TO) (do_ : DO) : Prop := ∀ (c : Cf) (ρ : Rho) (μ : Mu) (σ : L2.St) (H : Hp) (Q : Option Int → Mu → Prop) (P : Option Int → Hp → Prop), RM K c μ H → RS K c ρ σ → do_ ρ μ Q →
  (∀ c' o μ' H', Ext c c' → RM K c' μ' H' → Q o μ' → P o H') → to σ H P
/-- the ends agree, from c on -/
structure SimD (K : PySem.W.Frag) (c : Cf) (D : Ends) (d : DEnds) : Prop where
  nx : ∀ c' ρ μ σ H, Ext c c' → RM K c' μ H → RS K c' ρ σ → d.nx ρ μ → D.nx σ H
  rt : ∀ c' x μ v H, Ext c c' → RM K c' μ H → Rep K c' v x → d.rt x μ → D.rt v H
  bk : ∀ c' ρ μ σ H, Ext c c' → RM K c' μ H → RS K c' ρ σ → d.bk ρ μ → D.bk σ H
  ct : ∀ c' ρ μ σ H, Ext c c' → RM K c' μ H → RS K c' ρ σ → d.ct ρ μ → D.ct σ H
theorem SimD.up {K : PySem.W.Frag} {c c' : Cf} {D : Ends} {d : DEnds} (h : SimD K c D d) (e : Ext c c') : SimD K c' D d :=
  ⟨fun c2 ρ μ σ H e2 => h.nx c2 ρ μ σ H (e.trans e2), fun c2 ρ μ σ H e2 => h.rt c2 ρ μ σ H (e.trans e2), fun c2 ρ μ σ H e2 => h.bk c2 ρ μ σ H (e.trans e2), fun c2 ρ μ σ H e2 => h.ct c2 ρ μ σ H (e.trans e2)⟩
def SimS (K : PySem.W.Frag) (ts : TS) (ds : DS) : Prop := ∀ (c : Cf) (ρ : Rho) (μ : Mu) (σ : L2.St) (H : Hp) (D : Ends) (d : DEnds), RM K c μ H → RS K c ρ σ → SimD K c D d → ds d ρ μ → ts D σ H
def SimG (K : PySem.W.Frag) (tg : TG) (dg : DG) : Prop := ∀ (c : Cf) (ρ : Rho) (μ : Mu) (σ : L2.St) (H : Hp) (v : V) (x : Vl) (Q : Rho → Mu → Prop) (P : L2.St → Hp → Prop), RM K c μ H → RS K c ρ σ → Rep K c v x → dg x ρ μ Q →
  (∀ c' ρ' μ' σ' H', Ext c c' → RM K c' μ' H' → RS K c' ρ' σ' → Q ρ' μ' → P σ' H') → tg v σ H P
def SimGs (K : PySem.W.Frag) (tg : TGs) (dg : DGs) : Prop := ∀ (c : Cf) (ρ : Rho) (μ : Mu) (σ : L2.St) (H : Hp) (vs : List V) (xs : List Vl) (Q : Rho → Mu → Prop) (P : L2.St → Hp → Prop), RM K c μ H → RS K c ρ σ → Reps K c vs xs → dg xs ρ μ Q →
  (∀ c' ρ' μ' σ' H', Ext c c' → RM K c' μ' H' → RS K c' ρ' σ' → Q ρ' μ' → P σ' H') → tg vs σ H P

structure QE (X : Cx) (e : Expr) (te : TE) (de : DE) : Prop where
  p : PE X e te
  s : SimE X.K te de
structure QT (X : Cx) (e : Expr) (tt : TT) (dt : DT) : Prop where
  p : PT X e tt
  s : SimT X.K tt dt
structure QW (X : Cx) (e : Expr) (tt : TT) (dt : DT) : Prop where
  p : PW X e tt
  s : SimT X.K tt dt
structure QTs (X : Cx) (e : List Expr) (tt : TT) (dt : DT) : Prop where
  p : PTs X e tt
  s : SimT X.K tt dt
structure QA (X : Cx) (es : List Expr) (ta : TA) (da : DA) : Prop where
  p : PA X es ta
  s : SimA X.K ta da
structure QO (X : Cx) (o : Option Expr) (to : TO) (do_ : DO) : Prop where
  p : PO X o to
  s : SimO X.K to do_
structure QS (X : Cx) (st : Stmt) (ts : TS) (ds : DS) : Prop where
  p : PS X st ts
  s : SimS X.K ts ds
structure QSs (X : Cx) (st : List Stmt) (ts : TS) (ds : DS) : Prop where
  p : PSs X st ts
  s : SimS X.K ts ds
structure QG (X : Cx) (e : Expr) (tg : TG) (dg : DG) : Prop where
  p : PG X e tg
  s : SimG X.K tg dg
structure QGs (X : Cx) (es : List Expr) (tg : TGs) (dg : DGs) : Prop where
  p : PGs X es tg
  s : SimGs X.K tg dg
end DL

/-! DLb: expressions over data. -/
namespace DL
open PySem L2 StX PyProof.Rows

section
variable {X : Cx} {e a b o : Expr} {es : List Expr} {te ta tb : TE} {de da db : DE} {pos : Pos}

/-! ### names, constants -/
def dVar (i : Nat) : DE := fun ρ μ Q => match ρ[i]? with
  | some (some x) => Q x μ
  | _ => False
def dC (x : Vl) : DE := fun _ μ Q => Q x μ
theorem sim_var {K : PySem.W.Frag} {i : Nat} : SimE K (tVar i) (dVar i) := by
  intro c ρ μ σ H Q P R S h k
  unfold dVar at h
  split at h
  · rename_i x e
    obtain ⟨v, e1, r⟩ := S.get i x e
    exact ⟨v, e1, k c x μ v H (Ext.refl c) R r h⟩
  · exact h.elim
theorem qv (i : Nat) {x : Str} {pos : Pos} (hN : X.N[i]? = some x := by rfl) (hv : Vis X.env.scope x := by first | exact Or.inl rfl | exact Or.inr (Or.inl rfl) | exact Or.inr (Or.inr rfl)) (hd : (x == ("__debug__" : Str)) = false := by decide)
    (hcd : (x == ("__classdict__" : Str)) = false := by decide) : QE X (.Name x pos) (tVar i) (dVar i) := ⟨pe_var hN hv hd hcd, sim_var⟩
theorem sim_c {K : PySem.W.Frag} {v : V} {x : Vl} (h : ∀ c, Rep K c v x) : SimE K (tC v) (dC x) := fun c _ μ _ H _ _ R _ q k => k c x μ v H (Ext.refl c) R (h c) q
theorem q_int {i j pos} : QE X (.Constant (.int i) j pos) (tC (.int i)) (dC (.int i)) := ⟨pe_int, sim_c fun _ => .int i⟩
theorem q_bl {b j pos} : QE X (.Constant (.bool b) j pos) (tC (.bl b)) (dC (.bl b)) := ⟨pe_bl, sim_c fun _ => .bl b⟩
theorem q_non {j pos} : QE X (.Constant .none j pos) (tC .non) (dC .non) := ⟨pe_non, sim_c fun _ => .non⟩
theorem q_str {x j pos} : QE X (.Constant (.str x) j pos) (tC (.str x)) (dC (.str x)) := ⟨pe_str, sim_c fun _ => .str x⟩

/-! ### two-place operations -/
abbrev D2 := Vl → Vl → Mu → DK → Prop
def Sim2 (K : PySem.W.Frag) (r : R2) (d : D2) : Prop := ∀ (c : Cf) (μ : Mu) (H : Hp) (vx vy : V) (x y : Vl) (Q : DK) (P : VK), RM K c μ H → Rep K c vx x → Rep K c vy y → d x y μ Q →
  (∀ c' z μ' v H', Ext c c' → RM K c' μ' H' → Rep K c' v z → Q z μ' → P v H') → r vx vy H P
def dOp (d : D2) (da db : DE) : DE := fun ρ μ Q => da ρ μ fun x μ1 => db ρ μ1 fun y μ2 => d x y μ2 Q
theorem sim_op {K : PySem.W.Frag} {r : R2} {d : D2} (hs : Sim2 K r d) (ha : SimE K ta da) (hb : SimE K tb db) : SimE K (tOp r ta tb) (dOp d da db) := by
  intro c ρ μ σ H Q P R S h k
  refine ha c ρ μ σ H _ _ R S h fun c1 x μ1 v H1 E1 R1 r1 q1 => ?_
  refine hb c1 ρ μ1 σ H1 _ _ R1 (S.up E1.toExt0) q1 fun c2 y μ2 u H2 E2 R2 r2 q2 => ?_
  exact hs c2 μ2 H2 v u x y Q P R2 (r1.up E2.toExt0) r2 q2 fun c3 z μ3 w H3 E3 => k c3 z μ3 w H3 ((E1.trans E2).trans E3)
theorem q_op {op : Operator} {r : R2} {d : D2} (ho : OpR X (binaryOp op) r) (hs : Sim2 X.K r d) (ha : QE X a ta da) (hb : QE X b tb db) : QE X (.BinOp a op b pos) (tOp r ta tb) (dOp d da db) := ⟨pe_op ho ha.p hb.p, sim_op hs ha.s hb.s⟩
theorem opr_or {f : Value → Value → Sem Value} {r r' : R2} (h : OpR X f r) (h' : OpR X f r') : OpR X f (fun x y H Q => r x y H Q ∨ r' x y H Q) := by
  intro pins s σ H x y v u Q I rx ry q
  rcases q with q | q
  · exact h pins s σ H x y v u Q I rx ry q
  · exact h' pins s σ H x y v u Q I rx ry q

/-! ### lists as they stand -/
def lview (μ : Mu) : Vl → Option (List Vl)
  | .lst xs => some xs
  | .frl xs => some xs
  | .ref k => match μ[k]? with
    | some (.lst xs) => some xs
    | _ => none
  | _ => none
/-- a list that may be joined with another -/
def mview (μ : Mu) : Vl → Option (List Vl)
  | .lst xs => some xs
  | .ref k => match μ[k]? with
    | some (.lst xs) => some xs
    | _ => none
  | _ => none
def sview (μ : Mu) : Vl → Option (List Vl)
  | .tup xs => some xs
  | x => lview μ x
theorem ref_at {K : PySem.W.Frag} {c : Cf} {μ : Mu} {H : Hp} {v : V} {k : Nat} {m : Mo} (R : RM K c μ H) (r : Rep K c v (.ref k)) (h : μ[k]? = some m) : ∃ a, v = .ref a ∧ c.al[k]? = some a ∧ ObR K c (H a) m := by
  cases r with
  | ref e => exact ⟨_, rfl, e, (R.obj k _ m e h).2⟩
theorem mview_ref {μ : Mu} {k : Nat} {xs : List Vl} (h : mview μ (.ref k) = some xs) : μ[k]? = some (.lst xs) := by
  have h : (match μ[k]? with
    | some (.lst xs) => some xs
    | _ => none) = some xs := h
  split at h
  · rename_i ys e
    have e' : ys = xs := by simpa using h
    rw [e, e']
  · cases h
theorem mview_at {K : PySem.W.Frag} {c : Cf} {μ : Mu} {H : Hp} {v : V} {x : Vl} {xs : List Vl} (R : RM K c μ H) (r : Rep K c v x) (h : mview μ x = some xs) : ∃ a vs, v = .ref a ∧ H a = some (.lst vs) ∧ xs.length ≤ sizeLine ∧ Reps K c vs xs := by
  cases x with
  | lst ys =>
    cases r with
    | lst h1 hz h2 =>
      have e : ys = xs := by simpa [mview] using h
      subst e
      exact ⟨_, _, rfl, R.sub _ _ h1, hz, h2⟩
  | ref k =>
    obtain ⟨a, e1, _, vs, e2, hz, e3⟩ := ref_at R r (mview_ref h)
    exact ⟨a, vs, e1, e2, hz, e3⟩
  | _ => simp [mview] at h
theorem lview_at {K : PySem.W.Frag} {c : Cf} {μ : Mu} {H : Hp} {v : V} {x : Vl} {xs : List Vl} (R : RM K c μ H) (r : Rep K c v x) (h : lview μ x = some xs) : ∃ a vs, v = .ref a ∧ SqL K H a vs ∧ xs.length ≤ sizeLine ∧ Reps K c vs xs := by
  cases x with
  | lst ys =>
    obtain ⟨a, vs, e1, e2, hz, e3⟩ := mview_at (xs := xs) R r (by simpa [mview, lview] using h)
    exact ⟨a, vs, e1, SqL.of e2, hz, e3⟩
  | ref k =>
    obtain ⟨a, vs, e1, e2, hz, e3⟩ := mview_at (xs := xs) R r (by simpa [mview, lview] using h)
    exact ⟨a, vs, e1, SqL.of e2, hz, e3⟩
  | frl ys =>
    cases r with
    | frl h1 hz h2 =>
      have e : ys = xs := by simpa [lview] using h
      subst e
      exact ⟨_, _, rfl, same_l R.sub h1, hz, h2⟩
  | _ => simp [lview] at h
theorem sview_at {K : PySem.W.Frag} {c : Cf} {μ : Mu} {H : Hp} {v : V} {x : Vl} {xs : List Vl} (R : RM K c μ H) (r : Rep K c v x) (h : sview μ x = some xs) : ∃ a vs, v = .ref a ∧ (SqL K H a vs ∨ SqT K H a vs) ∧ xs.length ≤ sizeLine ∧ Reps K c vs xs := by
  cases x with
  | tup ys =>
    cases r with
    | tup h1 hz h2 =>
      have e : ys = xs := by simpa [sview] using h
      subst e
      exact ⟨_, _, rfl, .inr (same_t R.sub h1), hz, h2⟩
  | _ =>
    obtain ⟨a, vs, e1, e2, e3⟩ := lview_at (xs := xs) R r (by simpa [sview] using h)
    exact ⟨a, vs, e1, .inl e2, e3⟩
theorem tup_at {K : PySem.W.Frag} {c : Cf} {μ : Mu} {H : Hp} {v : V} {xs : List Vl} (R : RM K c μ H) (r : Rep K c v (.tup xs)) : ∃ a vs, v = .ref a ∧ SqT K H a vs ∧ xs.length ≤ sizeLine ∧ Reps K c vs xs := by
  cases r with
  | tup h1 hz h2 => exact ⟨_, _, rfl, same_t R.sub h1, hz, h2⟩

/-! ### new lists, new tuples -/
/-- a new list: one that will not change, or one that may -/
def newL (zs : List Vl) (μ : Mu) (Q : DK) : Prop := Q (.lst zs) μ ∨ Q (.ref μ.length) (μ ++ [.lst zs])
theorem sim_newL {K : PySem.W.Frag} {c : Cf} {μ : Mu} {H : Hp} {vs : List V} {zs : List Vl} {Q : DK} {P : VK} (R : RM K c μ H) (r : Reps K c vs zs) (hz : zs.length ≤ sizeLine) (h : newL zs μ Q)
    (k : ∀ c' z μ' v H', Ext c c' → RM K c' μ' H' → Rep K c' v z → Q z μ' → P v H') : ∀ p, H p = none → P (.ref p) (upd H p (.lst vs)) := by
  intro p hp
  rcases h with h | h
  · obtain ⟨R1, E1⟩ := R.still (o := .lst vs) hp
    exact k _ _ _ _ _ E1 R1 (.lst (by show upd c.Hd p (.lst vs) p = _; exact upd_same) hz (r.up E1.toExt0)) h
  · have E0 : Ext0 c ⟨c.al ++ [p], c.Hd, c.Fr⟩ := ⟨fun k a h => by
      show (c.al ++ [p])[k]? = some a
      rw [List.getElem?_append_left (List.getElem?_eq_some_iff.mp h).1]; exact h, Same.refl _⟩
    obtain ⟨R1, E1⟩ := R.fresh (o := .lst vs) (m := .lst zs) hp ⟨vs, rfl, hz, r.up E0⟩
    refine k _ _ _ _ _ E1 R1 (.ref ?_) h
    show (c.al ++ [p])[μ.length]? = some p
    rw [← R.len]; simp
theorem sim_newT {K : PySem.W.Frag} {c : Cf} {μ : Mu} {H : Hp} {vs : List V} {zs : List Vl} {Q : DK} {P : VK} (R : RM K c μ H) (r : Reps K c vs zs) (hz : zs.length ≤ sizeLine) (h : Q (.tup zs) μ)
    (k : ∀ c' z μ' v H', Ext c c' → RM K c' μ' H' → Rep K c' v z → Q z μ' → P v H') : ∀ p, H p = none → P (.ref p) (upd H p (.tup vs)) := by
  intro p hp
  obtain ⟨R1, E1⟩ := R.still (o := .tup vs) hp
  exact k _ _ _ _ _ E1 R1 (.tup (.inl (.inl (by show upd c.Hd p (.tup vs) p = _; exact upd_same))) hz (r.up E1.toExt0)) h

/-! ### arithmetic -/
def dI (C : Int → Int → Prop) (g : Int → Int → Vl) : D2 := fun x y μ Q => match x, y with
  | .int i, .int j => C i j ∧ Q (g i j) μ
  | _, _ => False
def dI0 (g : Int → Int → Vl) : D2 := fun x y μ Q => match x, y with
  | .int i, .int j => Q (g i j) μ
  | _, _ => False
theorem sim_I {K : PySem.W.Frag} {C : Int → Int → Prop} {g : Int → Int → V} {g' : Int → Int → Vl} (hg : ∀ i j c, Rep K c (g i j) (g' i j)) : Sim2 K (rI C g) (dI C g') := by
  intro c μ H vx vy x y Q P R rx ry h k
  unfold dI at h
  split at h
  · cases rx; cases ry
    exact ⟨_, _, rfl, rfl, h.1, k c _ μ _ H (Ext.refl c) R (hg _ _ c) h.2⟩
  · exact h.elim
theorem sim_I0 {K : PySem.W.Frag} {g : Int → Int → V} {g' : Int → Int → Vl} (hg : ∀ i j c, Rep K c (g i j) (g' i j)) : Sim2 K (rI0 g) (dI0 g') := by
  intro c μ H vx vy x y Q P R rx ry h k
  unfold dI0 at h
  split at h
  · cases rx; cases ry
    exact ⟨_, _, rfl, rfl, k c _ μ _ H (Ext.refl c) R (hg _ _ c) h⟩
  · exact h.elim
def rAddD (K : PySem.W.Frag) : R2 := fun x y H Q => rI0 (fun i j => .int (i + j)) x y H Q ∨ (rCatT K x y H Q ∨ rCat x y H Q)
/-- + : ints, tuples, lists -/
def dAdd : D2 := fun x y μ Q => match x, y with
  | .int i, .int j => Q (.int (i + j)) μ
  | .tup xs, .tup ys => xs ≠ [] ∧ xs.length + ys.length ≤ sizeLine ∧ Q (.tup (xs ++ ys)) μ
  | x, y => ∃ xs ys, mview μ x = some xs ∧ mview μ y = some ys ∧ xs.length + ys.length ≤ sizeLine ∧ newL (xs ++ ys) μ Q
theorem Reps.nil_iff {K : PySem.W.Frag} {c : Cf} {vs : List V} {xs : List Vl} (r : Reps K c vs xs) : vs = [] ↔ xs = [] := by
  have := r.length
  constructor
  · intro e; rw [e] at this; exact List.eq_nil_of_length_eq_zero this.symm
  · intro e; rw [e] at this; exact List.eq_nil_of_length_eq_zero this
theorem sim_add {K : PySem.W.Frag} : Sim2 K (rAddD K) dAdd := by
  intro c μ H vx vy x y Q P R rx ry h k
  unfold dAdd at h
  split at h
  · cases rx; cases ry
    exact .inl ⟨_, _, rfl, rfl, k c _ μ _ H (Ext.refl c) R (.int _) h⟩
  · rename_i xs ys
    obtain ⟨hne, hz, q⟩ := h
    obtain ⟨a, vs, e1, t1, z1, r1⟩ := tup_at R rx
    obtain ⟨b, ws, e2, t2, z2, r2⟩ := tup_at R ry
    refine .inr (.inl ⟨a, b, vs, ws, e1, e2, t1, t2, fun z => hne (r1.nil_iff.mp z), by rw [r1.length, r2.length]; exact hz, fun z => ?_, fun z => ?_⟩)
    · have z' : ys = [] := r2.nil_iff.mp z
      subst z'
      rw [List.append_nil] at q
      rw [← e1]
      exact k c _ μ _ H (Ext.refl c) R rx q
    · exact sim_newT R (r1.append r2) (by rw [List.length_append]; exact hz) q k
  · obtain ⟨xs, ys, h1, h2, hz, q⟩ := h
    obtain ⟨a, vs, e1, t1, z1, r1⟩ := mview_at R rx h1
    obtain ⟨b, ws, e2, t2, z2, r2⟩ := mview_at R ry h2
    exact .inr (.inr ⟨a, b, vs, ws, e1, e2, t1, t2, by rw [r1.length, r2.length]; exact hz, sim_newL R (r1.append r2) (by rw [List.length_append]; exact hz) q k⟩)
theorem q_add (ha : QE X a ta da) (hb : QE X b tb db) : QE X (.BinOp a .Add b pos) (tOp (rAddD X.K) ta tb) (dOp dAdd da db) := q_op (opr_or op_add (opr_or op_catT op_cat)) sim_add ha hb
theorem q_sub (ha : QE X a ta da) (hb : QE X b tb db) : QE X (.BinOp a .Sub b pos) (tOp (rI0 fun i j => .int (i - j)) ta tb) (dOp (dI0 fun i j => .int (i - j)) da db) := q_op op_sub (sim_I0 fun _ _ _ => .int _) ha hb
/-- products: together below so many bits, or one of them short -/
def MulOk (i j : Int) : Prop := i.natAbs < 2 ^ 64 ∨ j.natAbs < 2 ^ 64 ∨ i.natAbs.log2 + j.natAbs.log2 < 134000000
theorem MulOk.ok {i j : Int} (h : MulOk i j) : IntMulOk i j := by
  rcases h with h | h | h
  · exact IntMulOk.of_left (intBits_le_64 (by omega) (by omega))
  · exact IntMulOk.of_right (intBits_le_64 (by omega) (by omega))
  · have b : ∀ x : Int, Builtin.Int.intBits x ≤ x.natAbs.log2 + 1 := fun x => by
      unfold Builtin.Int.intBits
      split <;> omega
    have h1 := b i
    have h2 := b j
    have e : bitsLine = 134217728 := by decide
    unfold IntMulOk
    intro z
    rw [Bool.and_eq_true] at z
    have z2 := z.2
    unfold Builtin.Int.intTooBig at z2
    have z3 := of_decide_eq_true z2
    rw [e] at z3
    omega
theorem op_mulD : OpR X (binaryOp .Mult) (rI MulOk fun i j => .int (i * j)) := by
  intro pins s σ H x y v u Q I rx ry h
  obtain ⟨i, j, e1, e2, hc, q⟩ := h
  subst e1; subst e2
  obtain ⟨t, rfl⟩ := rx
  obtain ⟨t', rfl⟩ := ry
  exact mul_int ⟨.int _, H, I.tok _, ⟨_, rfl⟩, q⟩ hc.ok
theorem op_fdivD : OpR X (binaryOp .FloorDiv) (rI (fun _ j => j ≠ 0 ∧ j.natAbs.log2 < 9000) fun i j => .int (i.fdiv j)) := by
  intro pins s σ H x y v u Q I rx ry h
  obtain ⟨i, j, e1, e2, hc, q⟩ := h
  subst e1; subst e2
  obtain ⟨t, rfl⟩ := rx
  obtain ⟨t', rfl⟩ := ry
  exact floordiv_int hc.1 ⟨.int _, H, I.tok _, ⟨_, rfl⟩, q⟩ (.inl (PyProof.noPylong_of_log2 hc.2))

theorem q_fdiv (ha : QE X a ta da) (hb : QE X b tb db) : QE X (.BinOp a .FloorDiv b pos) (tOp (rI (fun _ j => j ≠ 0 ∧ j.natAbs.log2 < 9000) fun i j => .int (i.fdiv j)) ta tb) (dOp (dI (fun _ j => j ≠ 0 ∧ j.natAbs.log2 < 9000) fun i j => .int (i.fdiv j)) da db) :=
  q_op op_fdivD (sim_I fun _ _ _ => .int _) ha hb
theorem q_mod (ha : QE X a ta da) (hb : QE X b tb db) : QE X (.BinOp a .Mod b pos) (tOp (rI (fun _ j => j ≠ 0) fun i j => .int (i.fmod j)) ta tb) (dOp (dI (fun _ j => j ≠ 0) fun i j => .int (i.fmod j)) da db) :=
  q_op op_modN (sim_I fun _ _ _ => .int _) ha hb
theorem q_pow (ha : QE X a ta da) (hb : QE X b tb db) : QE X (.BinOp a .Pow b pos) (tOp (rI CPow fun i j => .int (i ^ j.toNat)) ta tb) (dOp (dI CPow fun i j => .int (i ^ j.toNat)) da db) :=
  q_op op_pow (sim_I fun _ _ _ => .int _) ha hb

/-! ### products -/
theorem once_meets (l : Addr) (items : Array Value) (n : Nat) (dd : Option Addr) (sl : Array (Option Value)) (u : Tok) (he : items.isEmpty = false) :
    Meets (Builtin.«tuple.__mul__» ⟨[.ref l, .int 1 u], []⟩) (fun _ R s => s.heap.get? l = some { cls := .type "tuple", dict := dd, data := .seq items n, slots := sl } ∧ R (.ok (.ret (Value.ref l))) s) :=
  .of_wp fun prog w A R s h => by
    obtain ⟨hp, g, d, tk, os⟩ := s
    obtain ⟨hl, h⟩ := h
    have f1 := AutoSeq1.idx_int
    wp_walk using wpAny_loadPart' hl
    repeat (first
      | (refine wpAny_ite_false (by decide) ?_; wp_walk using wpAny_loadPart' hl)
      | (refine wpAny_ite_true (by simp) ?_; wp_walk using wpAny_loadPart' hl)
      | (refine wpAny_ite_true (by decide) ?_; wp_walk using wpAny_loadPart' hl))
    exact ⟨_, rfl, h⟩
def rOnce (K : PySem.W.Frag) : R2 := fun x y H Q => ∃ l xs, x = .ref l ∧ y = .int 1 ∧ SqT K H l xs ∧ xs ≠ [] ∧ Q (.ref l) H
theorem op_once : OpR X (binaryOp .Mult) (rOnce X.K) := by
  intro pins s σ H x y v u Q I rx ry h
  obtain ⟨l, xs, e1, e2, hT, hne, q⟩ := h
  subst e1; subst e2
  cases rx
  obtain ⟨t, rfl⟩ := ry
  obtain ⟨its, r, ⟨⟨cls, dd, data, sl⟩, ho, hc, n, hd⟩, hs⟩ := I.tuple hT
  simp only at hc hd
  subst hc hd
  have hi : its.toArray.isEmpty = false := by
    cases its with
    | nil => exact absurd (List.eq_nil_of_length_eq_zero r.length) hne
    | cons p q => rfl
  refine wpAny_binaryOp_repeat_ref (T := "tuple") (U := "int") (by decide) ⟨_, ho, rfl⟩ (fun s' => typeIs_int s' 1 t) noFill_tuple_mul F.fills_int_mul F.slot_int_rmul repeat_tuple F.slot_int_index.lookup ?_
  refine call_meets F.slot_int_rmul (typeIs_int s 1 t) F.entry_int_rmul (F.args_int_rmul_2 _ _) (int_rmul_tuple 1 t l its.toArray n dd sl) ⟨ho, rfl, ⟨_, ho, rfl⟩, ?_⟩
  refine call_meets F.slot_tuple_mul ⟨_, ho, rfl⟩ F.entry_tuple_mul (F.args_tuple_mul_2 _ _) (once_meets l its.toArray n dd sl t hi) ⟨ho, ?_⟩
  exact ⟨.ref l, H, I, rfl, q⟩
def rMulD (K : PySem.W.Frag) : R2 := fun x y H Q => rI MulOk (fun i j => .int (i * j)) x y H Q ∨ (rOnce K x y H Q ∨ (rRepT K x y H Q ∨ rRep x y H Q))
/-- * : ints; a tuple, a list times an int -/
def dMul : D2 := fun x y μ Q => match x, y with
  | .int i, .int j => MulOk i j ∧ Q (.int (i * j)) μ
  | .tup xs, .int k => xs ≠ [] ∧ 1 ≤ k ∧ k ≤ 1000 ∧ xs.length ≤ 1000 ∧ Q (.tup (List.replicate k.toNat xs).flatten) μ
  | x, .int k => ∃ xs, mview μ x = some xs ∧ -(2 ^ 63) ≤ k ∧ k < 2 ^ 63 ∧ xs.length * k.toNat ≤ sizeLine ∧ newL (List.replicate k.toNat xs).flatten μ Q
  | _, _ => False
theorem Reps.rep {K : PySem.W.Frag} {c : Cf} {vs : List V} {xs : List Vl} (r : Reps K c vs xs) : ∀ n : Nat, Reps K c (List.replicate n vs).flatten (List.replicate n xs).flatten
  | 0 => .nil
  | n + 1 => by
    rw [List.replicate_succ, List.replicate_succ, List.flatten_cons, List.flatten_cons]
    exact r.append (Reps.rep r n)
theorem rep_len {α : Type} (xs : List α) : ∀ n : Nat, (List.replicate n xs).flatten.length = xs.length * n
  | 0 => rfl
  | n + 1 => by
    rw [List.replicate_succ, List.flatten_cons, List.length_append, rep_len xs n, Nat.mul_succ, Nat.add_comm]
theorem sim_mul {K : PySem.W.Frag} : Sim2 K (rMulD K) dMul := by
  intro c μ H vx vy x y Q P R rx ry h k
  unfold dMul at h
  split at h
  · cases rx; cases ry
    exact .inl ⟨_, _, rfl, rfl, h.1, k c _ μ _ H (Ext.refl c) R (.int _) h.2⟩
  · rename_i xs n
    obtain ⟨hne, h1, h2, h3, q⟩ := h
    obtain ⟨a, vs, e1, t1, z1, r1⟩ := tup_at R rx
    cases ry
    by_cases hn : n = 1
    · subst hn
      refine .inr (.inl ⟨a, vs, e1, rfl, t1, fun z => hne (r1.nil_iff.mp z), ?_⟩)
      rw [← e1]
      refine k c _ μ _ H (Ext.refl c) R rx ?_
      have e : (List.replicate (1 : Int).toNat xs).flatten = xs := by
        show ([xs] : List (List Vl)).flatten = xs
        simp
      rw [e] at q; exact q
    · refine .inr (.inr (.inl ⟨a, n, vs, e1, rfl, t1, fun z => hne (r1.nil_iff.mp z), by omega, h2, by rw [r1.length]; exact h3, sim_newT R (r1.rep _) ?_ q k⟩))
      rw [rep_len, sizeLine_eq]
      have a1 : xs.length * n.toNat ≤ 1000 * 1000 := Nat.mul_le_mul h3 (by omega)
      omega
  · obtain ⟨xs, h1, h2, h3, h4, q⟩ := h
    obtain ⟨a, vs, e1, t1, z1, r1⟩ := mview_at R rx h1
    cases ry
    exact .inr (.inr (.inr ⟨a, _, vs, e1, rfl, t1, h2, h3, by rw [r1.length]; exact h4, sim_newL R (r1.rep _) (by rw [rep_len]; exact h4) q k⟩))
  · exact h.elim
theorem q_mul (ha : QE X a ta da) (hb : QE X b tb db) : QE X (.BinOp a .Mult b pos) (tOp (rMulD X.K) ta tb) (dOp dMul da db) := q_op (opr_or op_mulD (opr_or op_once (opr_or op_repT op_rep))) sim_mul ha hb

/-! ### one-place -/
def dNeg (da : DE) : DE := fun ρ μ Q => da ρ μ fun x μ1 => match x with
  | .int i => Q (.int (-i)) μ1
  | _ => False
theorem q_neg (ha : QE X a ta da) : QE X (.UnaryOp .USub a pos) (tUn (rU fun i => .int (-i)) ta) (dNeg da) := by
  refine ⟨pe_un un_neg ha.p, fun c ρ μ σ H Q P R S h k => ?_⟩
  refine ha.s c ρ μ σ H _ _ R S h fun c1 x μ1 v H1 E1 R1 r1 q1 => ?_
  split at q1
  · cases r1
    exact ⟨_, rfl, k c1 _ μ1 _ H1 E1 R1 (.int _) q1⟩
  · exact q1.elim

/-! ### comparisons -/
theorem q_cmp {op : CmpOp} {r : R2} {d : D2} (ho : OpR X (compareOp op) r) (hs : Sim2 X.K r d) (ha : QE X a ta da) (hb : QE X b tb db) (hm : behindInMarks op b = false) : QE X (.Compare a [op] [b] pos) (tOp r ta tb) (dOp d da db) := ⟨pe_cmpR ho ha.p hb.p hm, sim_op hs ha.s hb.s⟩
abbrev dLt : D2 := dI0 fun i j => .bl (decide (i < j))
abbrev dLe : D2 := dI0 fun i j => .bl (decide (i ≤ j))
abbrev dGt : D2 := dI0 fun i j => .bl (decide (j < i))
abbrev dGe : D2 := dI0 fun i j => .bl (decide (j ≤ i))
theorem sim_lt {K : PySem.W.Frag} : Sim2 K (rI0 fun i j => .bl (decide (i < j))) dLt := sim_I0 fun _ _ _ => .bl _
theorem sim_le {K : PySem.W.Frag} : Sim2 K (rI0 fun i j => .bl (decide (i ≤ j))) dLe := sim_I0 fun _ _ _ => .bl _
theorem sim_gt {K : PySem.W.Frag} : Sim2 K (rI0 fun i j => .bl (decide (j < i))) dGt := sim_I0 fun _ _ _ => .bl _
theorem sim_ge {K : PySem.W.Frag} : Sim2 K (rI0 fun i j => .bl (decide (j ≤ i))) dGe := sim_I0 fun _ _ _ => .bl _
theorem q_lt (ha : QE X a ta da) (hb : QE X b tb db) : QE X (.Compare a [.Lt] [b] pos) (tOp (rI0 fun i j => .bl (decide (i < j))) ta tb) (dOp dLt da db) := q_cmp op_lt sim_lt ha hb (nomark _)
theorem q_le (ha : QE X a ta da) (hb : QE X b tb db) : QE X (.Compare a [.LtE] [b] pos) (tOp (rI0 fun i j => .bl (decide (i ≤ j))) ta tb) (dOp dLe da db) := q_cmp op_le sim_le ha hb (nomark _)
theorem q_gt (ha : QE X a ta da) (hb : QE X b tb db) : QE X (.Compare a [.Gt] [b] pos) (tOp (rI0 fun i j => .bl (decide (j < i))) ta tb) (dOp dGt da db) := q_cmp op_gt sim_gt ha hb (nomark _)
theorem q_ge (ha : QE X a ta da) (hb : QE X b tb db) : QE X (.Compare a [.GtE] [b] pos) (tOp (rI0 fun i j => .bl (decide (j ≤ i))) ta tb) (dOp dGe da db) := q_cmp op_ge sim_ge ha hb (nomark _)

/-! ### data: what == and repr look at -/
mutual
def dat : Vl → Option PyData
  | .non => some .none
  | .bl b => some (.bool b)
  | .int i => some (.int i)
  | .str x => some (.str x)
  | .tup xs => (dats xs).map .tuple
  | .lst xs => (dats xs).map .list
  | .frl _ => none
  | .ref _ => none
  | .op _ => none
def dats : List Vl → Option (List PyData)
  | [] => some []
  | x :: xs => match dat x, dats xs with
    | some d, some ds => some (d :: ds)
    | _, _ => none
end
def datM (μ : Mu) : Vl → Option PyData
  | .ref k => match μ[k]? with
    | some (.lst xs) => (dats xs).map .list
    | _ => none
  | x => dat x
mutual
theorem dp_of {K : PySem.W.Frag} {c : Cf} {H : Hp} (hs : Same c.Hd H) : ∀ (x : Vl) (d : PyData) (v : V), dat x = some d → Rep K c v x → Dp K H v d
  | .non, d, v, e, r => by
    cases r
    rw [dat] at e
    cases e; exact .non
  | .bl b, d, v, e, r => by
    cases r
    rw [dat] at e
    cases e; exact .bl b
  | .int i, d, v, e, r => by
    cases r
    rw [dat] at e
    cases e; exact .int i
  | .str x, d, v, e, r => by
    cases r
    rw [dat] at e
    cases e; exact .str x
  | .tup xs, d, v, e, r => by
    rw [dat] at e
    cases hx : dats xs with
    | none => rw [hx] at e; cases e
    | some ds =>
      rw [hx] at e
      cases e
      cases r with
      | tup h1 hz h2 => exact .tup (same_t hs h1) (dpAll_of hs xs ds _ hx h2)
  | .lst xs, d, v, e, r => by
    rw [dat] at e
    cases hx : dats xs with
    | none => rw [hx] at e; cases e
    | some ds =>
      rw [hx] at e
      cases e
      cases r with
      | lst h1 hz h2 => exact .lst (SqL.of (hs _ _ h1)) (dpAll_of hs xs ds _ hx h2)
  | .frl _, d, v, e, r => by rw [dat] at e; cases e
  | .ref _, d, v, e, r => by rw [dat] at e; cases e
  | .op _, d, v, e, r => by rw [dat] at e; cases e
theorem dpAll_of {K : PySem.W.Frag} {c : Cf} {H : Hp} (hs : Same c.Hd H) : ∀ (xs : List Vl) (ds : List PyData) (vs : List V), dats xs = some ds → Reps K c vs xs → DpAll K H vs ds
  | [], ds, vs, e, r => by
    cases r
    rw [dats] at e
    cases e; exact .nil
  | x :: xs, ds, vs, e, r => by
    rw [dats] at e
    cases hx : dat x with
    | none => rw [hx] at e; cases e
    | some d =>
      cases hy : dats xs with
      | none => rw [hx, hy] at e; cases e
      | some es =>
        rw [hx, hy] at e
        cases e
        cases r with
        | cons h1 h2 => exact .cons (dp_of hs x d _ hx h1) (dpAll_of hs xs es _ hy h2)
end
theorem dpM_of {K : PySem.W.Frag} {c : Cf} {μ : Mu} {H : Hp} (R : RM K c μ H) {x : Vl} {d : PyData} {v : V} (e : datM μ x = some d) (r : Rep K c v x) : Dp K H v d := by
  cases x with
  | ref k =>
    have e : (match μ[k]? with
      | some (.lst xs) => (dats xs).map PyData.list
      | _ => none) = some d := e
    split at e
    · rename_i ys ek
      cases hx : dats ys with
      | none => rw [hx] at e; cases e
      | some ds =>
        rw [hx] at e
        cases e
        obtain ⟨a, e1, _, vs, e2, hz, e3⟩ := ref_at R r ek
        subst e1
        exact .lst (SqL.of e2) (dpAll_of R.sub ys ds _ hx e3)
    · cases e
  | _ => exact dp_of R.sub _ d v (by simpa [datM] using e) r
def datEq (neg : Bool) (x y : Vl) (μ : Mu) (Q : DK) : Prop := ∃ d e, datM μ x = some d ∧ datM μ y = some e ∧ SeqAt.shaped d = true ∧ SeqAt.shaped e = true ∧ Q (.bl (PyData.eqv d e != neg)) μ
def dEqN (neg : Bool) : D2 := fun x y μ Q => match x, y with
  | .int i, .int j => Q (.bl (decide (i = j) != neg)) μ
  | .bl i, .bl j => Q (.bl (decide (i = j) != neg)) μ
  | .str i, .str j => Q (.bl (decide (i = j) != neg)) μ
  | .non, .non => Q (.bl (true != neg)) μ
  | x, y => datEq neg x y μ Q
abbrev dEq : D2 := dEqN false
abbrev dNe : D2 := dEqN true
def rEqU (K : PySem.W.Frag) : R2 := fun x y H Q => rEq x y H Q ∨ rEqD K x y H Q
def rNeU (K : PySem.W.Frag) : R2 := fun x y H Q => rNe x y H Q ∨ rNeD K x y H Q
theorem sim_eq {K : PySem.W.Frag} : Sim2 K (rEqU K) dEq := by
  intro c μ H vx vy x y Q P R rx ry h k
  have go : ∀ (b : Bool), Q (.bl (b != false)) μ → P (.bl b) H := fun b q => by
    rw [Bool.bne_false] at q
    exact k c _ μ _ H (Ext.refl c) R (.bl _) q
  unfold dEq dEqN at h
  split at h
  · cases rx; cases ry
    rename_i i j
    refine .inl ⟨rfl, ?_⟩
    have e : decide (V.int i = V.int j) = decide (i = j) := by simp
    rw [e]; exact go _ h
  · cases rx; cases ry
    rename_i i j
    refine .inl ⟨rfl, ?_⟩
    have e : decide (V.bl i = V.bl j) = decide (i = j) := by simp
    rw [e]; exact go _ h
  · cases rx; cases ry
    rename_i i j
    refine .inl ⟨rfl, ?_⟩
    have e : decide (V.str i = V.str j) = decide (i = j) := by simp
    rw [e]; exact go _ h
  · cases rx; cases ry
    exact .inl ⟨rfl, go true h⟩
  · obtain ⟨d, e, h1, h2, s1, s2, q⟩ := h
    exact .inr ⟨d, e, dpM_of R h1 rx, dpM_of R h2 ry, s1, s2, go _ q⟩
theorem sim_ne {K : PySem.W.Frag} : Sim2 K (rNeU K) dNe := by
  intro c μ H vx vy x y Q P R rx ry h k
  have go : ∀ (b : Bool), Q (.bl (b != true)) μ → P (.bl (!b)) H := fun b q => by
    rw [Bool.bne_true] at q
    exact k c _ μ _ H (Ext.refl c) R (.bl _) q
  unfold dNe dEqN at h
  split at h
  · cases rx; cases ry
    rename_i i j
    refine .inl ⟨rfl, ?_⟩
    have e : decide (V.int i = V.int j) = decide (i = j) := by simp
    rw [e]; exact go _ h
  · cases rx; cases ry
    rename_i i j
    refine .inl ⟨rfl, ?_⟩
    have e : decide (V.bl i = V.bl j) = decide (i = j) := by simp
    rw [e]; exact go _ h
  · cases rx; cases ry
    rename_i i j
    refine .inl ⟨rfl, ?_⟩
    have e : decide (V.str i = V.str j) = decide (i = j) := by simp
    rw [e]; exact go _ h
  · cases rx; cases ry
    exact .inl ⟨rfl, go true h⟩
  · obtain ⟨d, e, h1, h2, s1, s2, q⟩ := h
    exact .inr ⟨d, e, dpM_of R h1 rx, dpM_of R h2 ry, s1, s2, go _ q⟩
theorem q_eq {k : Nat} (hr : Room k X.A) (ha : QE X a ta da) (hb : QE X b tb db) : QE X (.Compare a [.Eq] [b] pos) (tOp (rEqU X.K) ta tb) (dOp dEq da db) := q_cmp (opr_or op_eq (op_eqD hr.units)) sim_eq ha hb (nomark _)
theorem q_ne {k : Nat} (hr : Room k X.A) (ha : QE X a ta da) (hb : QE X b tb db) : QE X (.Compare a [.NotEq] [b] pos) (tOp (rNeU X.K) ta tb) (dOp dNe da db) := q_cmp (opr_or op_ne (op_neD hr.units)) sim_ne ha hb (nomark _)
/-- is None, is not None; is of bools by written True -/
def dIsN (neg : Bool) : D2 := fun x y μ Q => match y with
  | .non => match x with
    | .non => Q (.bl (!neg)) μ
    | .op _ => False
    | _ => Q (.bl neg) μ
  | _ => False
theorem nonIs {K : PySem.W.Frag} {c : Cf} {v : V} {x : Vl} (r : Rep K c v x) (h : ∀ u, x ≠ .op u) : v = .non ↔ x = .non := by
  cases r with
  | op u => exact absurd rfl (h _)
  | _ => simp
theorem sim_isN {K : PySem.W.Frag} : Sim2 K (fun x y H Q => y = .non ∧ Q (.bl (decide (x = .non))) H) (dIsN false) := by
  intro c μ H vx vy x y Q P R rx ry h k
  unfold dIsN at h
  split at h
  · cases ry
    refine ⟨rfl, ?_⟩
    split at h
    · cases rx
      exact k c _ μ _ H (Ext.refl c) R (.bl _) h
    · exact h.elim
    · rename_i h1 h2
      have e : ¬ vx = .non := fun z => h1 ((nonIs rx h2).mp z)
      rw [decide_eq_false e]
      exact k c _ μ _ H (Ext.refl c) R (.bl _) h
  · exact h.elim
theorem sim_notN {K : PySem.W.Frag} : Sim2 K (fun x y H Q => y = .non ∧ Q (.bl (!decide (x = .non))) H) (dIsN true) := by
  intro c μ H vx vy x y Q P R rx ry h k
  unfold dIsN at h
  split at h
  · cases ry
    refine ⟨rfl, ?_⟩
    split at h
    · cases rx
      exact k c _ μ _ H (Ext.refl c) R (.bl _) h
    · exact h.elim
    · rename_i h1 h2
      have e : ¬ vx = .non := fun z => h1 ((nonIs rx h2).mp z)
      rw [decide_eq_false e]
      exact k c _ μ _ H (Ext.refl c) R (.bl _) h
  · exact h.elim
theorem q_isN (ha : QE X a ta da) (hb : QE X b tb db) : QE X (.Compare a [.Is] [b] pos) (tOp (fun x y H Q => y = .non ∧ Q (.bl (decide (x = .non))) H) ta tb) (dOp (dIsN false) da db) := q_cmp op_isN sim_isN ha hb (nomark _)
theorem q_notN (ha : QE X a ta da) (hb : QE X b tb db) : QE X (.Compare a [.IsNot] [b] pos) (tOp (fun x y H Q => y = .non ∧ Q (.bl (!decide (x = .non))) H) ta tb) (dOp (dIsN true) da db) := q_cmp op_notN sim_notN ha hb (nomark _)
/-- a < b < c -/
def dChain (d d' : D2) (da db dc : DE) : DE := fun ρ μ Q => da ρ μ fun x μ1 => db ρ μ1 fun y μ2 => d x y μ2 fun z μ3 => match z with
  | .bl true => dc ρ μ3 fun w μ4 => d' y w μ4 Q
  | .bl false => Q (.bl false) μ3
  | _ => False
theorem q_chain {cc : Expr} {tc : TE} {dc : DE} {op op' : CmpOp} {r r' : R2} {d d' : D2} (ho : OpR X (compareOp op) r) (hs : Sim2 X.K r d) (ho' : OpR X (compareOp op') r') (hs' : Sim2 X.K r' d') (ha : QE X a ta da) (hb : QE X b tb db) (hc : QE X cc tc dc)
    (hm : lastMarks [op, op'] [b, cc] = false := by with_unfolding_all rfl) : QE X (.Compare a [op, op'] [b, cc] pos) (tChain r r' ta tb tc) (dChain d d' da db dc) := by
  refine ⟨pe_chain ho ho' ha.p hb.p hc.p hm, fun c ρ μ σ H Q P R S h k => ?_⟩
  refine ha.s c ρ μ σ H _ _ R S h fun c1 x μ1 v H1 E1 R1 r1 q1 => ?_
  refine hb.s c1 ρ μ1 σ H1 _ _ R1 (S.up E1.toExt0) q1 fun c2 y μ2 u H2 E2 R2 r2 q2 => ?_
  refine hs c2 μ2 H2 v u x y _ _ R2 (r1.up E2.toExt0) r2 q2 fun c3 z μ3 w H3 E3 R3 r3 q3 => ?_
  have E13 := (E1.trans E2).trans E3
  split at q3
  · cases r3
    refine ⟨true, rfl, ?_⟩
    rw [if_pos rfl]
    refine hc.s c3 ρ μ3 σ H3 _ _ R3 (S.up E13.toExt0) q3 fun c4 w4 μ4 v4 H4 E4 R4 r4 q4 => ?_
    exact hs' c4 μ4 H4 u v4 y w4 Q P R4 (r2.up (E3.trans E4).toExt0) r4 q4 fun c5 z5 μ5 v5 H5 E5 => k c5 z5 μ5 v5 H5 ((E13.trans E4).trans E5)
  · cases r3
    refine ⟨false, rfl, ?_⟩
    rw [if_neg Bool.false_ne_true]
    exact k c3 _ μ3 _ H3 E13 R3 (.bl _) q3
  · exact q3.elim

/-! ### tests -/
def dTest (da : DE) : DT := fun ρ μ Q => da ρ μ fun x μ1 => match x with
  | .bl b => Q b μ1
  | _ => False
theorem sim_test {K : PySem.W.Frag} (ha : SimE K ta da) : SimT K (tTest ta) (dTest da) := by
  intro c ρ μ σ H Q P R S h k
  refine ha c ρ μ σ H _ _ R S h fun c1 x μ1 v H1 E1 R1 r1 q1 => ?_
  split at q1
  · cases r1
    exact ⟨_, rfl, k c1 _ μ1 H1 E1 R1 q1⟩
  · exact q1.elim
theorem sim_testB {K : PySem.W.Frag} (ha : SimE K ta da) : SimT K (tB ta) (dTest da) := by
  intro c ρ μ σ H Q P R S h k
  refine ha c ρ μ σ H _ _ R S h fun c1 x μ1 v H1 E1 R1 r1 q1 => ?_
  split at q1
  · cases r1
    exact ⟨_, rfl, k c1 _ μ1 H1 E1 R1 q1⟩
  · exact q1.elim
theorem qt_cmp {op : CmpOp} {r : R2} {d : D2} (ho : OpR X (compareOp op) r) (hs : Sim2 X.K r d) (ha : QE X a ta da) (hb : QE X b tb db) (hm : behindInMarks op b = false) : QT X (.Compare a [op] [b] pos) (tTest (tOp r ta tb)) (dTest (dOp d da db)) := ⟨pt_cmpR ho ha.p hb.p hm, sim_test (sim_op hs ha.s hb.s)⟩
theorem qt_lt (ha : QE X a ta da) (hb : QE X b tb db) : QT X (.Compare a [.Lt] [b] pos) (tTest (tOp (rI0 fun i j => .bl (decide (i < j))) ta tb)) (dTest (dOp dLt da db)) := qt_cmp op_lt sim_lt ha hb (nomark _)
theorem qt_le (ha : QE X a ta da) (hb : QE X b tb db) : QT X (.Compare a [.LtE] [b] pos) (tTest (tOp (rI0 fun i j => .bl (decide (i ≤ j))) ta tb)) (dTest (dOp dLe da db)) := qt_cmp op_le sim_le ha hb (nomark _)
theorem qt_gt (ha : QE X a ta da) (hb : QE X b tb db) : QT X (.Compare a [.Gt] [b] pos) (tTest (tOp (rI0 fun i j => .bl (decide (j < i))) ta tb)) (dTest (dOp dGt da db)) := qt_cmp op_gt sim_gt ha hb (nomark _)
theorem qt_ge (ha : QE X a ta da) (hb : QE X b tb db) : QT X (.Compare a [.GtE] [b] pos) (tTest (tOp (rI0 fun i j => .bl (decide (j ≤ i))) ta tb)) (dTest (dOp dGe da db)) := qt_cmp op_ge sim_ge ha hb (nomark _)
theorem qt_eq {k : Nat} (hr : Room k X.A) (ha : QE X a ta da) (hb : QE X b tb db) : QT X (.Compare a [.Eq] [b] pos) (tTest (tOp (rEqU X.K) ta tb)) (dTest (dOp dEq da db)) := qt_cmp (opr_or op_eq (op_eqD hr.units)) sim_eq ha hb (nomark _)
theorem qt_ne {k : Nat} (hr : Room k X.A) (ha : QE X a ta da) (hb : QE X b tb db) : QT X (.Compare a [.NotEq] [b] pos) (tTest (tOp (rNeU X.K) ta tb)) (dTest (dOp dNe da db)) := qt_cmp (opr_or op_ne (op_neD hr.units)) sim_ne ha hb (nomark _)
theorem qt_isN (ha : QE X a ta da) (hb : QE X b tb db) : QT X (.Compare a [.Is] [b] pos) (tTest (tOp (fun x y H Q => y = .non ∧ Q (.bl (decide (x = .non))) H) ta tb)) (dTest (dOp (dIsN false) da db)) := qt_cmp op_isN sim_isN ha hb (nomark _)
theorem qt_notN (ha : QE X a ta da) (hb : QE X b tb db) : QT X (.Compare a [.IsNot] [b] pos) (tTest (tOp (fun x y H Q => y = .non ∧ Q (.bl (!decide (x = .non))) H) ta tb)) (dTest (dOp (dIsN true) da db)) := qt_cmp op_notN sim_notN ha hb (nomark _)
theorem qt_chain {cc : Expr} {tc : TE} {dc : DE} {op op' : CmpOp} {r r' : R2} {d d' : D2} (ho : OpR X (compareOp op) r) (hs : Sim2 X.K r d) (ho' : OpR X (compareOp op') r') (hs' : Sim2 X.K r' d') (ha : QE X a ta da) (hb : QE X b tb db) (hc : QE X cc tc dc)
    (hm : lastMarks [op, op'] [b, cc] = false := by with_unfolding_all rfl) : QT X (.Compare a [op, op'] [b, cc] pos) (tTest (tChain r r' ta tb tc)) (dTest (dChain d d' da db dc)) :=
  ⟨pt_chain ho ho' ha.p hb.p hc.p hm, sim_test (q_chain (pos := pos) ho hs ho' hs' ha hb hc hm).s⟩
/-- a value True or False as a test -/
theorem qt_val (ha : QE X a ta da) (he : ∀ whole, isTrue a X.env whole = (do let v ← whole; standAt a.pos; holding [v] (truthy v)) := by intro _; rfl) : QT X a (tB ta) (dTest da) := ⟨pt_val ha.p he, sim_testB ha.s⟩
variable {tt uu : TT} {dt du : DT} {rest : List Expr}
def dNotT (dt : DT) : DT := fun ρ μ Q => dt ρ μ fun b μ1 => Q (!b) μ1
theorem qt_not (ha : QT X a tt dt) : QT X (.UnaryOp .Not a pos) (tNot tt) (dNotT dt) := by
  refine ⟨pt_not ha.p, fun c ρ μ σ H Q P R S h k => ?_⟩
  exact ha.s c ρ μ σ H _ _ R S h fun c1 b μ1 H1 E1 R1 q1 => k c1 _ μ1 H1 E1 R1 q1
def dAndT (dt du : DT) : DT := fun ρ μ Q => dt ρ μ fun b μ1 => match b with
  | true => du ρ μ1 Q
  | false => Q false μ1
def dOrT (dt du : DT) : DT := fun ρ μ Q => dt ρ μ fun b μ1 => match b with
  | true => Q true μ1
  | false => du ρ μ1 Q
theorem sim_and {K : PySem.W.Frag} (h1 : SimT K tt dt) (h2 : SimT K uu du) : SimT K (tAnd tt uu) (dAndT dt du) := by
  intro c ρ μ σ H Q P R S h k
  refine h1 c ρ μ σ H _ _ R S h fun c1 b μ1 H1 E1 R1 q1 => ?_
  cases b with
  | true =>
    rw [if_pos rfl]
    exact h2 c1 ρ μ1 σ H1 Q P R1 (S.up E1.toExt0) q1 fun c2 b2 μ2 H2 E2 => k c2 b2 μ2 H2 (E1.trans E2)
  | false =>
    rw [if_neg Bool.false_ne_true]
    exact k c1 false μ1 H1 E1 R1 q1
theorem sim_or {K : PySem.W.Frag} (h1 : SimT K tt dt) (h2 : SimT K uu du) : SimT K (tOr tt uu) (dOrT dt du) := by
  intro c ρ μ σ H Q P R S h k
  refine h1 c ρ μ σ H _ _ R S h fun c1 b μ1 H1 E1 R1 q1 => ?_
  cases b with
  | true =>
    rw [if_pos rfl]
    exact k c1 true μ1 H1 E1 R1 q1
  | false =>
    rw [if_neg Bool.false_ne_true]
    exact h2 c1 ρ μ1 σ H1 Q P R1 (S.up E1.toExt0) q1 fun c2 b2 μ2 H2 E2 => k c2 b2 μ2 H2 (E1.trans E2)
theorem qw_and (ha : QT X a tt dt) (hb : QW X (.BoolOp .And (b :: rest) pos) uu du) : QW X (.BoolOp .And (a :: b :: rest) pos) (tAnd tt uu) (dAndT dt du) := ⟨pw_and ha.p hb.p, sim_and ha.s hb.s⟩
theorem qw_and1 (ha : QT X a tt dt) : QW X (.BoolOp .And [a] pos) tt dt := ⟨pw_and1 ha.p, ha.s⟩
theorem qw_or (ha : QT X a tt dt) (hb : QW X (.BoolOp .Or (b :: rest) pos) uu du) : QW X (.BoolOp .Or (a :: b :: rest) pos) (tOr tt uu) (dOrT dt du) := ⟨pw_or ha.p hb.p, sim_or ha.s hb.s⟩
theorem qw_or1 (ha : QT X a tt dt) : QW X (.BoolOp .Or [a] pos) tt dt := ⟨pw_or1 ha.p, ha.s⟩
theorem QW.t {e : Expr} (h : QW X e tt dt) : QT X e tt dt := ⟨h.p.pt, h.s⟩
/-- as values: all but the last True or False -/
def dAndV (da db : DE) : DE := fun ρ μ Q => da ρ μ fun x μ1 => match x with
  | .bl true => db ρ μ1 Q
  | .bl false => Q (.bl false) μ1
  | _ => False
def dOrV (da db : DE) : DE := fun ρ μ Q => da ρ μ fun x μ1 => match x with
  | .bl true => Q (.bl true) μ1
  | .bl false => db ρ μ1 Q
  | _ => False
theorem q_and (ha : QE X a ta da) (hb : QE X (.BoolOp .And (b :: rest) pos) tb db) : QE X (.BoolOp .And (a :: b :: rest) pos) (tAndV ta tb) (dAndV da db) := by
  refine ⟨pe_and ha.p hb.p, fun c ρ μ σ H Q P R S h k => ?_⟩
  refine ha.s c ρ μ σ H _ _ R S h fun c1 x μ1 v H1 E1 R1 r1 q1 => ?_
  split at q1
  · cases r1
    refine ⟨true, rfl, ?_⟩
    rw [if_pos rfl]
    exact hb.s c1 ρ μ1 σ H1 Q P R1 (S.up E1.toExt0) q1 fun c2 z μ2 v2 H2 E2 => k c2 z μ2 v2 H2 (E1.trans E2)
  · cases r1
    refine ⟨false, rfl, ?_⟩
    rw [if_neg Bool.false_ne_true]
    exact k c1 _ μ1 _ H1 E1 R1 (.bl _) q1
  · exact q1.elim
theorem q_or (ha : QE X a ta da) (hb : QE X (.BoolOp .Or (b :: rest) pos) tb db) : QE X (.BoolOp .Or (a :: b :: rest) pos) (tOrV ta tb) (dOrV da db) := by
  refine ⟨pe_or ha.p hb.p, fun c ρ μ σ H Q P R S h k => ?_⟩
  refine ha.s c ρ μ σ H _ _ R S h fun c1 x μ1 v H1 E1 R1 r1 q1 => ?_
  split at q1
  · cases r1
    refine ⟨true, rfl, ?_⟩
    rw [if_pos rfl]
    exact k c1 _ μ1 _ H1 E1 R1 (.bl _) q1
  · cases r1
    refine ⟨false, rfl, ?_⟩
    rw [if_neg Bool.false_ne_true]
    exact hb.s c1 ρ μ1 σ H1 Q P R1 (S.up E1.toExt0) q1 fun c2 z μ2 v2 H2 E2 => k c2 z μ2 v2 H2 (E1.trans E2)
  · exact q1.elim
theorem q_one {op} (h : QE X a ta da) : QE X (.BoolOp op [a] pos) ta da := ⟨pe_one h.p, h.s⟩
def dIfE (dt : DT) (da db : DE) : DE := fun ρ μ Q => dt ρ μ fun b μ1 => match b with
  | true => da ρ μ1 Q
  | false => db ρ μ1 Q
theorem q_ifE {cc : Expr} (hc : QT X cc tt dt) (ha : QE X a ta da) (hb : QE X b tb db) : QE X (.IfExp cc a b pos) (tIf tt ta tb) (dIfE dt da db) := by
  refine ⟨pe_ifExp hc.p ha.p hb.p, fun c ρ μ σ H Q P R S h k => ?_⟩
  refine hc.s c ρ μ σ H _ _ R S h fun c1 z μ1 H1 E1 R1 q1 => ?_
  cases z with
  | true =>
    rw [if_pos rfl]
    exact ha.s c1 ρ μ1 σ H1 Q P R1 (S.up E1.toExt0) q1 fun c2 z μ2 v2 H2 E2 => k c2 z μ2 v2 H2 (E1.trans E2)
  | false =>
    rw [if_neg Bool.false_ne_true]
    exact hb.s c1 ρ μ1 σ H1 Q P R1 (S.up E1.toExt0) q1 fun c2 z μ2 v2 H2 E2 => k c2 z μ2 v2 H2 (E1.trans E2)

/-! ### displays -/
variable {t : TA} {d : DA}
def dNil : DA := fun _ μ Q => Q [] μ
def dCons (de : DE) (d : DA) : DA := fun ρ μ Q => de ρ μ fun x μ1 => d ρ μ1 fun xs μ2 => Q (x :: xs) μ2
def dStar (de : DE) (d : DA) : DA := fun ρ μ Q => de ρ μ fun x μ1 => ∃ xs, sview μ1 x = some xs ∧ d ρ μ1 fun ys μ2 => Q (xs ++ ys) μ2
theorem qa_nil : QA X [] tNil dNil := ⟨pa_nil, fun c ρ μ σ H Q P R S h k => k c [] μ [] H (Ext.refl c) R .nil h⟩
theorem qa_cons (ha : QE X e te de) (hr : QA X es t d) (hs : starEach (e :: es) X.env = (false, eval e X.env) :: starEach es X.env := by rfl) : QA X (e :: es) (tCons te t) (dCons de d) := by
  refine ⟨pa_cons ha.p hr.p hs, fun c ρ μ σ H Q P R S h k => ?_⟩
  refine ha.s c ρ μ σ H _ _ R S h fun c1 x μ1 v H1 E1 R1 r1 q1 => ?_
  exact hr.s c1 ρ μ1 σ H1 _ _ R1 (S.up E1.toExt0) q1 fun c2 xs μ2 vs H2 E2 R2 r2 q2 => k c2 (x :: xs) μ2 (v :: vs) H2 (E1.trans E2) R2 (.cons (r1.up E2.toExt0) r2) q2
theorem qa_star {p : Pos} (he : QE X e te de) (hr : QA X es t d) (hs : starEach (.Starred e p :: es) X.env = (true, eval e X.env) :: starEach es X.env := by rfl) : QA X (.Starred e p :: es) (tStar X.K te t) (dStar de d) := by
  refine ⟨pa_star he.p hr.p hs, fun c ρ μ σ H Q P R S h k => ?_⟩
  refine he.s c ρ μ σ H _ _ R S h fun c1 x μ1 v H1 E1 R1 r1 q1 => ?_
  obtain ⟨xs, hx, q1⟩ := q1
  obtain ⟨a, vs, e1, hq, hz, r⟩ := sview_at R1 r1 hx
  refine ⟨a, vs, e1, hq.symm, ?_⟩
  exact hr.s c1 ρ μ1 σ H1 _ _ R1 (S.up E1.toExt0) q1 fun c2 ys μ2 ws H2 E2 R2 r2 q2 => k c2 (xs ++ ys) μ2 (vs ++ ws) H2 (E1.trans E2) R2 ((r.up E2.toExt0).append r2) q2
def dTup (d : DA) : DE := fun ρ μ Q => d ρ μ fun xs μ1 => xs.length ≤ sizeLine ∧ Q (.tup xs) μ1
def dLst (d : DA) : DE := fun ρ μ Q => d ρ μ fun xs μ1 => xs.length ≤ sizeLine ∧ newL xs μ1 Q
theorem q_tup {x1} (h : QA X es t d) : QE X (.Tuple es x1 pos) (tTup t) (dTup d) := by
  refine ⟨pe_tup h.p, fun c ρ μ σ H Q P R S hw k => ?_⟩
  refine h.s c ρ μ σ H _ _ R S hw fun c1 xs μ1 vs H1 E1 R1 r1 q1 => ?_
  exact ⟨by rw [r1.length]; exact q1.1, sim_newT R1 r1 q1.1 q1.2 fun c2 z μ2 v2 H2 E2 => k c2 z μ2 v2 H2 (E1.trans E2)⟩
theorem q_lst (h : QA X es t d) : QE X (.List es pos) (tLst t) (dLst d) := by
  refine ⟨pe_lst h.p, fun c ρ μ σ H Q P R S hw k => ?_⟩
  refine h.s c ρ μ σ H _ _ R S hw fun c1 xs μ1 vs H1 E1 R1 r1 q1 => ?_
  exact ⟨by rw [r1.length]; exact q1.1, sim_newL R1 r1 q1.1 q1.2 fun c2 z μ2 v2 H2 E2 => k c2 z μ2 v2 H2 (E1.trans E2)⟩

/-! ### subscripts, slices -/
theorem Reps.atI {K : PySem.W.Frag} {c : Cf} {vs : List V} {xs : List Vl} {i : Int} {x : Vl} (r : Reps K c vs xs) (h : atI xs i = some x) : ∃ v, L2.atI vs i = some v ∧ Rep K c v x := by
  unfold L2.atI at h ⊢
  rw [r.length]
  cases hx : ixN xs.length i with
  | none => rw [hx] at h; cases h
  | some j =>
    rw [hx] at h
    obtain ⟨v, e1, e2⟩ := r.get (i := j) (x := x) h
    exact ⟨v, e1, e2⟩
def dIx : D2 := fun x y μ Q => match y with
  | .int i => ∃ xs z, sview μ x = some xs ∧ atI xs i = some z ∧ Q z μ
  | _ => False
theorem sim_ix {K : PySem.W.Frag} : Sim2 K (rIx K) dIx := by
  intro c μ H vx vy x y Q P R rx ry h k
  unfold dIx at h
  split at h
  · obtain ⟨xs, z, h1, h2, q⟩ := h
    cases ry
    obtain ⟨a, vs, e1, hq, hz, r⟩ := sview_at R rx h1
    obtain ⟨v, e2, rv⟩ := r.atI h2
    rcases hq with hq | hq
    · exact .inl ⟨a, vs, _, v, e1, rfl, hq, e2, k c z μ v H (Ext.refl c) R rv q⟩
    · exact .inr (.inl ⟨a, vs, _, v, e1, rfl, hq, e2, k c z μ v H (Ext.refl c) R rv q⟩)
  · exact h.elim
theorem q_ix (ha : QE X a ta da) (hb : QE X b tb db) (hs : PlainIx b := by intro _ _; rfl) : QE X (.Subscript a b pos) (tOp (rIx X.K) ta tb) (dOp dIx da db) := ⟨pe_ix ix_seq ha.p hb.p hs, sim_op sim_ix ha.s hb.s⟩
def cutD (xs : List Vl) (lo hi : Option Int) : List Vl := (xs.drop (HT.sIx xs.length 0 lo)).take (HT.sIx xs.length xs.length hi - HT.sIx xs.length 0 lo)
theorem Reps.cut {K : PySem.W.Frag} {c : Cf} {vs : List V} {xs : List Vl} (r : Reps K c vs xs) (lo hi : Option Int) : Reps K c (cutV vs lo hi) (cutD xs lo hi) := by
  unfold cutV cutD
  rw [r.length]
  exact (r.drop _).take _
theorem cutD_length (xs : List Vl) (lo hi : Option Int) : (cutD xs lo hi).length ≤ xs.length := by
  unfold cutD
  rw [List.length_take, List.length_drop]
  omega
def dNoPart : DO := fun _ μ Q => Q none μ
def dPart (de : DE) : DO := fun ρ μ Q => de ρ μ fun x μ1 => match x with
  | .int i => Q (some i) μ1
  | _ => False
theorem qo_none : QO X none tNoPart dNoPart := ⟨po_none, fun c ρ μ σ H Q P R S h k => k c none μ H (Ext.refl c) R h⟩
theorem qo_some (he : QE X e te de) : QO X (some e) (tPart te) (dPart de) := by
  refine ⟨po_some he.p, fun c ρ μ σ H Q P R S h k => ?_⟩
  refine he.s c ρ μ σ H _ _ R S h fun c1 x μ1 v H1 E1 R1 r1 q1 => ?_
  split at q1
  · cases r1
    exact ⟨_, rfl, k c1 _ μ1 H1 E1 R1 q1⟩
  · exact q1.elim
def dCut (x : Vl) (lo hi : Option Int) (μ : Mu) (Q : DK) : Prop := match x with
  | .tup xs => ¬ (HT.sIx xs.length 0 lo = 0 ∧ HT.sIx xs.length xs.length hi = xs.length) ∧ Q (.tup (cutD xs lo hi)) μ
  | x => ∃ xs, lview μ x = some xs ∧ newL (cutD xs lo hi) μ Q
def dSl (de : DE) (dl dh : DO) : DE := fun ρ μ Q => de ρ μ fun x μ1 => dl ρ μ1 fun l μ2 => dh ρ μ2 fun u μ3 => dCut x l u μ3 Q
def rSlD (K : PySem.W.Frag) : V → Option Int → Option Int → Hp → VK → Prop := fun x lo hi H Q => rSlL K x lo hi H Q ∨ rSlT K x lo hi H Q
theorem q_sl {lo hi : Option Expr} {tl th : TO} {dl dh : DO} {p2 : Pos} (he : QE X e te de) (hl : QO X lo tl dl) (hh : QO X hi th dh) : QE X (.Subscript e (.Slice lo hi none p2) pos) (tSl (rSlD X.K) te tl th) (dSl de dl dh) := by
  refine ⟨pe_slice (sl_list.or sl_tup) he.p hl.p hh.p, fun c ρ μ σ H Q P R S h k => ?_⟩
  refine he.s c ρ μ σ H _ _ R S h fun c1 x μ1 v H1 E1 R1 r1 q1 => ?_
  refine hl.s c1 ρ μ1 σ H1 _ _ R1 (S.up E1.toExt0) q1 fun c2 l μ2 H2 E2 R2 q2 => ?_
  refine hh.s c2 ρ μ2 σ H2 _ _ R2 (S.up (E1.trans E2).toExt0) q2 fun c3 u μ3 H3 E3 R3 q3 => ?_
  have r3 := r1.up (E2.trans E3).toExt0
  have k3 := fun c4 z μ4 v4 H4 (E4 : Ext c3 c4) => k c4 z μ4 v4 H4 (((E1.trans E2).trans E3).trans E4)
  unfold dCut at q3
  split at q3
  · rename_i xs
    obtain ⟨a, vs, e1, t1, z1, r⟩ := tup_at R3 r3
    refine .inr ⟨a, vs, e1, t1, ?_, sim_newT R3 (r.cut l u) (Nat.le_trans (cutD_length _ _ _) z1) q3.2 k3⟩
    rw [r.length]; exact q3.1
  · obtain ⟨xs, hx, q⟩ := q3
    obtain ⟨a, vs, e1, t1, z1, r⟩ := lview_at R3 r3 hx
    exact .inl ⟨a, vs, e1, t1, sim_newL R3 (r.cut l u) (Nat.le_trans (cutD_length _ _ _) z1) q k3⟩

/-! ### calls of what is built in -/
abbrev DC := List Vl → Mu → DK → Prop
def SimC (K : PySem.W.Frag) (r : List V → Hp → VK → Prop) (d : DC) : Prop := ∀ (c : Cf) (μ : Mu) (H : Hp) (vs : List V) (xs : List Vl) (Q : DK) (P : VK), RM K c μ H → Reps K c vs xs → d xs μ Q →
  (∀ c' z μ' v H', Ext c c' → RM K c' μ' H' → Rep K c' v z → Q z μ' → P v H') → r vs H P
def dCB (f : DC) (d : DA) : DE := fun ρ μ Q => d ρ μ fun xs μ1 => f xs μ1 Q
variable {x : Str} {id T : String} {p : Pos} {r : List V → Hp → VK → Prop} {f : DC}
theorem sim_cb {K : PySem.W.Frag} (hs : SimC K r f) (ha : SimA K t d) : SimE K (tCB r t) (dCB f d) := by
  intro c ρ μ σ H Q P R S h k
  refine ha c ρ μ σ H _ _ R S h fun c1 xs μ1 vs H1 E1 R1 r1 q1 => ?_
  exact hs c1 μ1 H1 vs xs Q P R1 r1 q1 fun c2 z μ2 v2 H2 E2 => k c2 z μ2 v2 H2 (E1.trans E2)
theorem q_callB (hc : CallR X (.builtin id) r) (hs : SimC X.K r f) (hm : X.mg x = none) (hv : bootBuiltins x = some (.builtin id)) (ha : QA X (e :: es) t d) (hg : Gl X x := by rfl) (hn : x ≠ "__name__" := by decide) (hdb : (x == ("__debug__" : Str)) = false := by decide)
    (he : starEach (e :: es) X.env = (false, eval e X.env) :: starEach es X.env := by rfl) (hpl : (backTo pos (starEach es X.env)).any (·.1) = false := by rfl) : QE X (.Call (.Name x p) (e :: es) [] pos) (tCB r t) (dCB f d) :=
  ⟨pe_callB hc hg hm hv ha.p hn hdb he hpl, sim_cb hs ha.s⟩
theorem q_callTy (hc : CallR X (.type T) r) (hs : SimC X.K r f) (hm : X.mg x = none) (hv : bootBuiltins x = some (.type T)) (ha : QA X (e :: es) t d) (hg : Gl X x := by rfl) (hn : x ≠ "__name__" := by decide) (hdb : (x == ("__debug__" : Str)) = false := by decide)
    (he : starEach (e :: es) X.env = (false, eval e X.env) :: starEach es X.env := by rfl) (hpl : (backTo pos (starEach es X.env)).any (·.1) = false := by rfl) : QE X (.Call (.Name x p) (e :: es) [] pos) (tCB r t) (dCB f d) :=
  ⟨pe_callTy hc hg hm hv ha.p hn hdb he hpl, sim_cb hs ha.s⟩
theorem reps1 {K : PySem.W.Frag} {c : Cf} {vs : List V} {x : Vl} (h : Reps K c vs [x]) : ∃ v, vs = [v] ∧ Rep K c v x := by
  cases h with
  | cons h1 h2 => cases h2; exact ⟨_, rfl, h1⟩
/-- len of a list, a tuple -/
def fLen : DC := fun xs μ Q => ∃ x ys, xs = [x] ∧ sview μ x = some ys ∧ Q (.int (ys.length : Int)) μ
theorem sim_len {K : PySem.W.Frag} : SimC K (fun xs H Q => ∃ p ys, xs = [.ref p] ∧ (SqL K H p ys ∨ SqT K H p ys) ∧ Q (.int ys.length) H) fLen := by
  intro c μ H vs xs Q P R r h k
  obtain ⟨x, ys, e, hx, q⟩ := h
  subst e
  obtain ⟨v, e, r1⟩ := reps1 r
  subst e
  obtain ⟨a, ws, e1, hq, hz, r2⟩ := sview_at R r1 hx
  subst e1
  exact ⟨a, ws, rfl, hq, k c _ μ _ H (Ext.refl c) R (by rw [r2.length]; exact .int _) q⟩
/-- tuple(..), list(..) -/
def fTuple : DC := fun xs μ Q => ∃ x ys, xs = [x] ∧ sview μ x = some ys ∧ Q (.tup ys) μ
def fList : DC := fun xs μ Q => ∃ x ys, xs = [x] ∧ sview μ x = some ys ∧ newL ys μ Q
theorem sim_tuple {K : PySem.W.Frag} : SimC K (fun xs H Q => ∃ p ys, xs = [.ref p] ∧ ((SqL K H p ys ∧ ∀ l, H l = none → Q (.ref l) (upd H l (.tup ys))) ∨ (SqT K H p ys ∧ Q (.ref p) H))) fTuple := by
  intro c μ H vs xs Q P R r h k
  obtain ⟨x, ys, e, hx, q⟩ := h
  subst e
  obtain ⟨v, e, r1⟩ := reps1 r
  subst e
  cases x with
  | tup zs =>
    have e : zs = ys := by simpa [sview] using hx
    subst e
    obtain ⟨a, ws, e1, hq, hz, r2⟩ := tup_at R r1
    subst e1
    exact ⟨a, ws, rfl, .inr ⟨hq, k c _ μ _ H (Ext.refl c) R r1 q⟩⟩
  | _ =>
    obtain ⟨a, ws, e1, hq, hz, r2⟩ := lview_at (xs := ys) R r1 (by simpa [sview] using hx)
    subst e1
    exact ⟨a, ws, rfl, .inl ⟨hq, sim_newT R r2 hz q k⟩⟩
theorem sim_list {K : PySem.W.Frag} : SimC K (fun xs H Q => ∃ p ys, xs = [.ref p] ∧ (SqL K H p ys ∨ SqT K H p ys) ∧ ∀ l, H l = none → Q (.ref l) (upd H l (.lst ys))) fList := by
  intro c μ H vs xs Q P R r h k
  obtain ⟨x, ys, e, hx, q⟩ := h
  subst e
  obtain ⟨v, e, r1⟩ := reps1 r
  subst e
  obtain ⟨a, ws, e1, hq, hz, r2⟩ := sview_at R r1 hx
  subst e1
  exact ⟨a, ws, rfl, hq, sim_newL R r2 hz q k⟩
def fAbs : DC := fun xs μ Q => match xs with
  | [.int i] => Q (.int (if i < 0 then -i else i)) μ
  | _ => False
theorem sim_abs {K : PySem.W.Frag} : SimC K (fun xs H Q => ∃ i, xs = [.int i] ∧ Q (.int (if i < 0 then -i else i)) H) fAbs := by
  intro c μ H vs xs Q P R r h k
  unfold fAbs at h
  split at h
  · obtain ⟨v, e, r1⟩ := reps1 r
    subst e
    cases r1
    exact ⟨_, rfl, k c _ μ _ H (Ext.refl c) R (.int _) h⟩
  · exact h.elim
def fInt : DC := fun xs μ Q => match xs with
  | [.int i] => Q (.int i) μ
  | [.bl b] => Q (.int (if b then 1 else 0)) μ
  | _ => False
theorem sim_int {K : PySem.W.Frag} : SimC K (fun xs H Q => (∃ i, xs = [.int i] ∧ Q (.int i) H) ∨ ∃ k, xs = [.bl k] ∧ Q (.int (if k then 1 else 0)) H) fInt := by
  intro c μ H vs xs Q P R r h k
  unfold fInt at h
  split at h
  · obtain ⟨v, e, r1⟩ := reps1 r
    subst e
    cases r1
    exact .inl ⟨_, rfl, k c _ μ _ H (Ext.refl c) R (.int _) h⟩
  · obtain ⟨v, e, r1⟩ := reps1 r
    subst e
    cases r1
    exact .inr ⟨_, rfl, k c _ μ _ H (Ext.refl c) R (.int _) h⟩
  · exact h.elim
/-- sum, min, max of a list of ints -/
def fSum : DC := fun xs μ Q => ∃ (x : Vl) (ns : List Int), xs = [x] ∧ lview μ x = some (ns.map Vl.int) ∧ Q (.int ns.sum) μ
def fMin : DC := fun xs μ Q => ∃ (x : Vl) (ns : List Int), xs = [x] ∧ lview μ x = some (ns.map Vl.int) ∧ 0 < ns.length ∧ ∀ m, m ∈ ns → (∀ y, y ∈ ns → m ≤ y) → Q (.int m) μ
def fMax : DC := fun xs μ Q => ∃ (x : Vl) (ns : List Int), xs = [x] ∧ lview μ x = some (ns.map Vl.int) ∧ 0 < ns.length ∧ ∀ m, m ∈ ns → (∀ y, y ∈ ns → y ≤ m) → Q (.int m) μ
theorem sim_sum {K : PySem.W.Frag} : SimC K (rSum K) fSum := by
  intro c μ H vs xs Q P R r h k
  obtain ⟨x, ns, e, hx, q⟩ := h
  subst e
  obtain ⟨v, e, r1⟩ := reps1 r
  subst e
  obtain ⟨a, ws, e1, hq, hz, r2⟩ := lview_at R r1 hx
  subst e1
  rw [r2.ints_of] at hq
  exact ⟨a, ns, rfl, hq, k c _ μ _ H (Ext.refl c) R (.int _) q⟩
theorem sim_min {K : PySem.W.Frag} : SimC K (rMin K) fMin := by
  intro c μ H vs xs Q P R r h k
  obtain ⟨x, ns, e, hx, hn, q⟩ := h
  subst e
  obtain ⟨v, e, r1⟩ := reps1 r
  subst e
  obtain ⟨a, ws, e1, hq, hz, r2⟩ := lview_at R r1 hx
  subst e1
  rw [r2.ints_of] at hq
  exact ⟨a, ns, rfl, hq, hn, fun m h1 h2 => k c _ μ _ H (Ext.refl c) R (.int _) (q m h1 h2)⟩
theorem sim_max {K : PySem.W.Frag} : SimC K (rMax K) fMax := by
  intro c μ H vs xs Q P R r h k
  obtain ⟨x, ns, e, hx, hn, q⟩ := h
  subst e
  obtain ⟨v, e, r1⟩ := reps1 r
  subst e
  obtain ⟨a, ws, e1, hq, hz, r2⟩ := lview_at R r1 hx
  subst e1
  rw [r2.ints_of] at hq
  exact ⟨a, ns, rfl, hq, hn, fun m h1 h2 => k c _ μ _ H (Ext.refl c) R (.int _) (q m h1 h2)⟩
theorem q_len (hm : X.mg "len" = none) (ha : QA X [e] t d) (hg : Gl X "len" := by rfl) (he : starEach [e] X.env = (false, eval e X.env) :: starEach [] X.env := by rfl) : QE X (.Call (.Name "len" p) [e] [] pos) (tCB (fun xs H Q => ∃ p ys, xs = [.ref p] ∧ (SqL X.K H p ys ∨ SqT X.K H p ys) ∧ Q (.int ys.length) H) t) (dCB fLen d) :=
  q_callB call_len_seq sim_len hm PySem.boot_len ha hg (by decide) (by decide) he rfl
theorem q_tuple (hm : X.mg "tuple" = none) (ha : QA X [e] t d) (hg : Gl X "tuple" := by rfl) (he : starEach [e] X.env = (false, eval e X.env) :: starEach [] X.env := by rfl) : QE X (.Call (.Name "tuple" p) [e] [] pos) (tCB (fun xs H Q => ∃ p ys, xs = [.ref p] ∧ ((SqL X.K H p ys ∧ ∀ l, H l = none → Q (.ref l) (upd H l (.tup ys))) ∨ (SqT X.K H p ys ∧ Q (.ref p) H))) t) (dCB fTuple d) :=
  q_callTy call_tuple_of sim_tuple hm (by decide +kernel) ha hg (by decide) (by decide) he rfl
theorem q_list (hm : X.mg "list" = none) (ha : QA X [e] t d) (hg : Gl X "list" := by rfl) (he : starEach [e] X.env = (false, eval e X.env) :: starEach [] X.env := by rfl) : QE X (.Call (.Name "list" p) [e] [] pos) (tCB (fun xs H Q => ∃ p ys, xs = [.ref p] ∧ (SqL X.K H p ys ∨ SqT X.K H p ys) ∧ ∀ l, H l = none → Q (.ref l) (upd H l (.lst ys))) t) (dCB fList d) :=
  q_callTy call_list_of sim_list hm (by decide +kernel) ha hg (by decide) (by decide) he rfl
theorem q_abs (hm : X.mg "abs" = none) (ha : QA X [e] t d) (hg : Gl X "abs" := by rfl) (he : starEach [e] X.env = (false, eval e X.env) :: starEach [] X.env := by rfl) : QE X (.Call (.Name "abs" p) [e] [] pos) (tCB (fun xs H Q => ∃ i, xs = [.int i] ∧ Q (.int (if i < 0 then -i else i)) H) t) (dCB fAbs d) :=
  q_callB call_abs sim_abs hm (by decide +kernel) ha hg (by decide) (by decide) he rfl
theorem q_intC (hm : X.mg "int" = none) (ha : QA X [e] t d) (hg : Gl X "int" := by rfl) (he : starEach [e] X.env = (false, eval e X.env) :: starEach [] X.env := by rfl) : QE X (.Call (.Name "int" p) [e] [] pos) (tCB (fun xs H Q => (∃ i, xs = [.int i] ∧ Q (.int i) H) ∨ ∃ k, xs = [.bl k] ∧ Q (.int (if k then 1 else 0)) H) t) (dCB fInt d) :=
  q_callTy call_int1 sim_int hm (by decide +kernel) ha hg (by decide) (by decide) he rfl
theorem q_sum (hcm : X.calm = true) (hm : X.mg "sum" = none) (ha : QA X [e] t d) (hg : Gl X "sum" := by rfl) (he : starEach [e] X.env = (false, eval e X.env) :: starEach [] X.env := by rfl) : QE X (.Call (.Name "sum" p) [e] [] pos) (tCB (rSum X.K) t) (dCB fSum d) :=
  q_callB (cr_sum hcm) sim_sum hm (by decide +kernel) ha hg (by decide) (by decide) he rfl
theorem q_min (hcm : X.calm = true) (hm : X.mg "min" = none) (ha : QA X [e] t d) (hg : Gl X "min" := by rfl) (he : starEach [e] X.env = (false, eval e X.env) :: starEach [] X.env := by rfl) : QE X (.Call (.Name "min" p) [e] [] pos) (tCB (rMin X.K) t) (dCB fMin d) :=
  q_callB (cr_min hcm) sim_min hm (by decide +kernel) ha hg (by decide) (by decide) he rfl
theorem q_max (hcm : X.calm = true) (hm : X.mg "max" = none) (ha : QA X [e] t d) (hg : Gl X "max" := by rfl) (he : starEach [e] X.env = (false, eval e X.env) :: starEach [] X.env := by rfl) : QE X (.Call (.Name "max" p) [e] [] pos) (tCB (rMax X.K) t) (dCB fMax d) :=
  q_callB (cr_max hcm) sim_max hm (by decide +kernel) ha hg (by decide) (by decide) he rfl
end
end DL

/-! DLc: repr, methods of lists, what is walked, comprehensions. -/
namespace DL
open PySem L2 StX PyProof.Rows

section
variable {X : Cx} {e a b o : Expr} {es : List Expr} {te ta tb to : TE} {de da db do_ : DE} {pos : Pos} {t : TA} {d : DA} {p : Pos}

/-! ### repr -/
def rRepr (K : PySem.W.Frag) : List V → Hp → VK → Prop := fun xs H Q => ∃ x dd, xs = [x] ∧ Dp K H x dd ∧ SeqAt.shaped dd = true ∧ dd.showable = true ∧ dd.shown.length ≤ sizeLine ∧ Q (.str dd.shown) H
theorem call_reprD {k : Nat} (hg : X.A.guards = some []) (hr : Room k X.A) : CallR X (.builtin "repr") (rRepr X.K) := by
  intro pins s σ H xs us Q I r h
  obtain ⟨x, dd, e1, hd, hs, hw, hz, q⟩ := h
  subst e1
  obtain ⟨u, e2, r1⟩ : ∃ u, us = [u] ∧ RelV x u := by
    cases r with
    | cons r1 r2 =>
      cases r2
      exact ⟨_, rfl, r1⟩
  subst e2
  obtain ⟨as, rd⟩ := Dp.reads I dd x u hd r1
  have hu := hr.un
  have hdep := SeqAt.depth_of_shaped hs
  have hnd : dd.hasDict = false := PyData.hasDict_of_canLay dd (SeqAt.canLay_of_shaped hs)
  have big : ∀ (ad : Addr), u = .ref ad → wpAny (model X.prog X.w) X.A (call (.builtin "repr") [u]) (EP X pins σ Q) X.xe s := fun ad eu => by
    subst eu
    exact repr_of_reads' rd hw (PyData.noDict_hsm hnd) hg (by omega) (fun _ _ z => z) (fun h' t tk hk => ⟨.str dd.shown, H, I.kept hk, ⟨_, rfl⟩, q⟩) hz
  cases hd with
  | non =>
    cases r1
    exact PySem.P.repr_of_none ⟨.str _, H, I.tok _, ⟨_, rfl⟩, q⟩
  | bl b =>
    cases r1
    exact PySem.P.repr_of_bool ⟨.str _, H, I.tok _, ⟨_, rfl⟩, q⟩
  | int i =>
    obtain ⟨t, e3⟩ := r1
    subst e3
    exact PySem.P.repr_of_int (by simpa [PyData.showable] using hw) ⟨.str _, H, I.tok _, ⟨_, rfl⟩, q⟩
  | str x =>
    obtain ⟨t, e3⟩ := r1
    subst e3
    exact PySem.P.repr_of_str ⟨.str _, H, I.tok _, ⟨_, rfl⟩, q⟩ hz
  | lst h1 h2 => cases r1; exact big _ rfl
  | tup h1 h2 => cases r1; exact big _ rfl
def fRepr : DC := fun xs μ Q => ∃ (x : Vl) (dd : PyData), xs = [x] ∧ datM μ x = some dd ∧ SeqAt.shaped dd = true ∧ dd.showable = true ∧ dd.shown.length ≤ sizeLine ∧ Q (.str dd.shown) μ
theorem sim_repr {K : PySem.W.Frag} : SimC K (rRepr K) fRepr := by
  intro c μ H vs xs Q P R r h k
  obtain ⟨x, dd, e1, hx, h1, h2, h3, q⟩ := h
  subst e1
  obtain ⟨v, e2, r1⟩ := reps1 r
  subst e2
  exact ⟨v, dd, rfl, dpM_of R hx r1, h1, h2, h3, k c _ μ _ H (Ext.refl c) R (.str _) q⟩
theorem q_repr {k : Nat} (hgd : X.A.guards = some []) (hr : Room k X.A) (hm : X.mg "repr" = none) (ha : QA X [e] t d) (hg : Gl X "repr" := by rfl) (he : starEach [e] X.env = (false, eval e X.env) :: starEach [] X.env := by rfl) : QE X (.Call (.Name "repr" p) [e] [] pos) (tCB (rRepr X.K) t) (dCB fRepr d) :=
  q_callB (call_reprD hgd hr) sim_repr hm (by decide +kernel) ha hg (by decide) (by decide) he rfl

/-! ### methods of lists -/
abbrev DM := Vl → List Vl → Mu → DK → Prop
def SimM (K : PySem.W.Frag) (r : V → List V → Hp → VK → Prop) (f : DM) : Prop := ∀ (c : Cf) (μ : Mu) (H : Hp) (v : V) (x : Vl) (vs : List V) (xs : List Vl) (Q : DK) (P : VK), RM K c μ H → Rep K c v x → Reps K c vs xs → f x xs μ Q →
  (∀ c' z μ' v H', Ext c c' → RM K c' μ' H' → Rep K c' v z → Q z μ' → P v H') → r v vs H P
def dBM (f : DM) (do_ : DE) (d : DA) : DE := fun ρ μ Q => do_ ρ μ fun x μ1 => (lview μ1 x).isSome = true ∧ d ρ μ1 fun xs μ2 => f x xs μ2 Q
theorem sim_bm {K : PySem.W.Frag} {r : V → List V → Hp → VK → Prop} {f : DM} (hs : SimM K r f) (ho : SimE K to do_) (ha : SimA K t d) : SimE K (tBM K "list" r to t) (dBM f do_ d) := by
  intro c ρ μ σ H Q P R S h k
  refine ho c ρ μ σ H _ _ R S h fun c1 x μ1 v H1 E1 R1 r1 q1 => ?_
  obtain ⟨hl, q1⟩ := q1
  obtain ⟨ys, hy⟩ := Option.isSome_iff_exists.mp hl
  obtain ⟨a, ws, e1, hq, hz, r2⟩ := lview_at R1 r1 hy
  refine ⟨?_, ?_⟩
  · rw [e1]; exact .inl ⟨rfl, _, hq⟩
  refine ha c1 ρ μ1 σ H1 _ _ R1 (S.up E1.toExt0) q1 fun c2 xs μ2 vs H2 E2 R2 r2 q2 => ?_
  exact hs c2 μ2 H2 v x vs xs Q P R2 (r1.up E2.toExt0) r2 q2 fun c3 z μ3 v3 H3 E3 => k c3 z μ3 v3 H3 ((E1.trans E2).trans E3)
def mAppend : DM := fun x xs μ Q => ∃ (k : Nat) (ys : List Vl) (y : Vl), x = .ref k ∧ xs = [y] ∧ μ[k]? = some (.lst ys) ∧ ys.length < sizeLine ∧ Q .non (μ.set k (.lst (ys ++ [y])))
theorem sim_append {K : PySem.W.Frag} : SimM K rAppend mAppend := by
  intro c μ H v x vs xs Q P R rx rs h k
  obtain ⟨j, ys, y, e1, e2, hm, hz, q⟩ := h
  subst e1; subst e2
  obtain ⟨a, e3, hk, ws, e4, hz4, r4⟩ := ref_at R rx hm
  obtain ⟨u, e5, ry⟩ := reps1 rs
  subst e3; subst e5
  refine ⟨a, ws, u, rfl, rfl, e4, by rw [r4.length]; exact hz, ?_⟩
  refine k c _ _ _ _ (Ext.refl c) (R.write (m := .lst (ys ++ [y])) hk ⟨_, rfl, ?_, r4.append (.one ry)⟩) .non q
  rw [List.length_append]
  show ys.length + 1 ≤ sizeLine
  omega
theorem q_append {apos cpos : Pos} (ho : QE X o to do_) (ha : QA X [e] t d) (hbase : attributeBase o "append" X.env (eval o X.env) = eval o X.env := by rfl)
    (hfew : ((backTo cpos (starEach [e] X.env)).all (fun x => !x.1) && (backToKw cpos (keywordEach [] X.env)).all (fun x => x.1.isSome) && decide ([e].length + ([] : List Keyword).length + (if ([] : List Keyword).isEmpty then 0 else 1) < 30)) = true := by rfl)
    (hline : (apos.endLine == cpos.line) = true := by rfl) (hs : starEach [e] X.env = (false, eval e X.env) :: starEach [] X.env := by rfl) (hpl : (backTo cpos (starEach [] X.env)).any (·.1) = false := by rfl) : QE X (.Call (.Attribute o "append" apos) [e] [] cpos) (tBM X.K "list" rAppend to t) (dBM mAppend do_ d) :=
  ⟨pe_bm PySem.F.plainAttrs_list PySem.F.slot_list_append PySem.F.type_list_append mt_append ho.p ha.p hbase hfew hline hs hpl, sim_bm sim_append ho.s ha.s⟩
/-- xs.index(n) of ints -/
def mIndex : DM := fun x xs μ Q => ∃ (ns : List Int) (n : Int) (j : Nat), lview μ x = some (ns.map Vl.int) ∧ xs = [.int n] ∧ ns[j]? = some n ∧ (∀ m, m < j → ns[m]? ≠ some n) ∧ Q (.int (j : Int)) μ
theorem flat_ints : ∀ ns : List Int, (ns.map V.int).all flatV = true
  | [] => rfl
  | _ :: r => flat_ints r
theorem sim_index {K : PySem.W.Frag} : SimM K (rIndex K) mIndex := by
  intro c μ H v x vs xs Q P R rx rs h k
  obtain ⟨ns, n, j, hx, e2, hj, hno, q⟩ := h
  subst e2
  obtain ⟨u, e5, ry⟩ := reps1 rs
  subst e5
  cases ry
  obtain ⟨a, ws, e1, hq, hz, r2⟩ := lview_at R rx hx
  rw [r2.ints_of] at hq
  refine ⟨a, _, .int n, j, .int n, e1, rfl, hq, rfl, flat_ints ns, by rw [List.getElem?_map, hj]; rfl, by simp [eqV], fun m z' hm hz' => ?_, k c _ μ _ H (Ext.refl c) R (.int _) q⟩
  rw [List.getElem?_map] at hz'
  cases hn : ns[m]? with
  | none => rw [hn] at hz'; cases hz'
  | some i =>
    rw [hn] at hz'
    have e : V.int i = z' := by simpa using hz'
    subst e
    have ne : i ≠ n := fun z => hno m hm (by rw [hn, z])
    show (i == n) = false
    exact beq_eq_false_iff_ne.mpr ne
theorem q_index {apos cpos : Pos} (ho : QE X o to do_) (ha : QA X [e] t d) (hbase : attributeBase o "index" X.env (eval o X.env) = eval o X.env := by rfl)
    (hfew : ((backTo cpos (starEach [e] X.env)).all (fun x => !x.1) && (backToKw cpos (keywordEach [] X.env)).all (fun x => x.1.isSome) && decide ([e].length + ([] : List Keyword).length + (if ([] : List Keyword).isEmpty then 0 else 1) < 30)) = true := by rfl)
    (hline : (apos.endLine == cpos.line) = true := by rfl) (hs : starEach [e] X.env = (false, eval e X.env) :: starEach [] X.env := by rfl) (hpl : (backTo cpos (starEach [] X.env)).any (·.1) = false := by rfl) : QE X (.Call (.Attribute o "index" apos) [e] [] cpos) (tBM X.K "list" (rIndex X.K) to t) (dBM mIndex do_ d) :=
  ⟨pe_bm PySem.F.plainAttrs_list PySem.F.slot_list_index PySem.F.type_list_index mt_index ho.p ha.p hbase hfew hline hs hpl, sim_bm sim_index ho.s ha.s⟩
end

/-! ### what is walked -/
/-- from c on, as long as G holds: the walk gives xs, one after another -/
def WalkD (K : PySem.W.Frag) (c : Cf) (J : It) (xs : List Vl) (G : Mu → Prop) : Prop := ∃ (Gh : Hp → Prop) (Y : Nat → Hp → V → Hp → Prop), Walk J xs.length Gh Y ∧
  (∀ c2 μ2 H2, Ext0 c c2 → RM K c2 μ2 H2 → G μ2 → Gh H2) ∧
  ∀ i H2 v H3 c2 μ2, i < xs.length → Ext0 c c2 → RM K c2 μ2 H2 → G μ2 → Y i H2 v H3 → ∃ c3 x, Ext c2 c3 ∧ RM K c3 μ2 H3 ∧ xs[i]? = some x ∧ Rep K c3 v x
abbrev DI := Rho → Mu → (List Vl → (Mu → Prop) → Mu → Prop) → Prop
def SimI (K : PySem.W.Frag) (wi : TI) (di : DI) : Prop := ∀ (c : Cf) (ρ : Rho) (μ : Mu) (σ : L2.St) (H : Hp) (Q : List Vl → (Mu → Prop) → Mu → Prop) (P : It → Hp → Prop), RM K c μ H → RS K c ρ σ → di ρ μ Q →
  (∀ c' xs G μ' J H', Ext c c' → RM K c' μ' H' → xs.length ≤ sizeLine → WalkD K c' J xs G → Q xs G μ' → P J H') → wi σ H P
structure QI (X : Cx) (tg iter : Expr) (wi : TI) (di : DI) : Prop where
  p : PI X tg iter wi
  s : SimI X.K wi di
/-- as long as the thing is the same -/
def asLong (xs : List Vl) : Vl → Mu → Prop
  | .ref k, μ => μ[k]? = some (.lst xs)
  | _, _ => True
def dIter (de : DE) : DI := fun ρ μ Q => de ρ μ fun x μ1 => ∃ xs, sview μ1 x = some xs ∧ Q xs (asLong xs x) μ1
/-- list or tuple -/
inductive Kd where
  | L | T
def Sq (K : PySem.W.Frag) : Kd → Hp → Addr → List V → Prop
  | .L => SqL K
  | .T => SqT K
theorem stays_at {K : PySem.W.Frag} {c : Cf} {μ : Mu} {H : Hp} {v : V} {x : Vl} {xs : List Vl} (R : RM K c μ H) (r : Rep K c v x) (h : sview μ x = some xs) : ∃ a vs kd, v = .ref a ∧ xs.length ≤ sizeLine ∧ vs.length = xs.length ∧
    (∀ c2 μ2 H2, Ext0 c c2 → RM K c2 μ2 H2 → asLong xs x μ2 → ∃ vs2, Sq K kd H2 a vs2 ∧ Reps K c2 vs2 xs) ∧ Sq K kd H a vs := by
  cases x with
  | tup ys =>
    have e : ys = xs := by simpa [sview] using h
    subst e
    cases r with
    | tup h1 hz h2 => exact ⟨_, _, .T, rfl, hz, h2.length, fun c2 μ2 H2 E R2 _ => ⟨_, same_t R2.sub (same_t E.hd h1), h2.up E⟩, same_t R.sub h1⟩
  | lst ys =>
    have e : ys = xs := by simpa [sview, lview] using h
    subst e
    cases r with
    | lst h1 hz h2 => exact ⟨_, _, .L, rfl, hz, h2.length, fun c2 μ2 H2 E R2 _ => ⟨_, SqL.of (R2.sub _ _ (E.hd _ _ h1)), h2.up E⟩, SqL.of (R.sub _ _ h1)⟩
  | frl ys =>
    have e : ys = xs := by simpa [sview, lview] using h
    subst e
    cases r with
    | frl h1 hz h2 => exact ⟨_, _, .L, rfl, hz, h2.length, fun c2 μ2 H2 E R2 _ => ⟨_, same_l R2.sub (same_l E.hd h1), h2.up E⟩, same_l R.sub h1⟩
  | ref k =>
    have h' : μ[k]? = some (.lst xs) := mview_ref (by simpa [sview, lview, mview] using h)
    obtain ⟨a, e1, ha, vs, e2, hz, r2⟩ := ref_at R r h'
    refine ⟨a, vs, .L, e1, hz, r2.length, fun c2 μ2 H2 E R2 g => ?_, SqL.of e2⟩
    obtain ⟨_, ws, e3, _, r3⟩ := R2.obj k a _ (E.al _ _ ha) g
    exact ⟨ws, SqL.of e3, r3⟩
  | _ => simp [sview, lview] at h
/-- over a list or a tuple -/
def ItS (K : PySem.W.Frag) : Kd → Addr → It
  | .L, a => Itl K a
  | .T, a => Itt K a
theorem walk_S {K : PySem.W.Frag} {kd : Kd} {a : Addr} {n : Nat} : Walk (ItS K kd a) n (fun H => ∃ xs, Sq K kd H a xs ∧ xs.length = n) (fun i H x H' => H' = H ∧ ∀ xs, Sq K kd H a xs → xs[i]? = some x) := by
  cases kd with
  | L =>
    refine ⟨fun i H hi g => ?_, fun H g => ?_, fun i H x H' hi g y => y⟩
    · obtain ⟨xs, q, hn⟩ := g
      exact ⟨xs, xs[i]'(by omega), q, by simp [show i < xs.length by omega]⟩
    · obtain ⟨xs, q, hn⟩ := g
      exact ⟨xs, q, by omega⟩
  | T =>
    refine ⟨fun i H hi g => ?_, fun H g => ?_, fun i H x H' hi g y => y⟩
    · obtain ⟨xs, q, hn⟩ := g
      exact ⟨xs, xs[i]'(by omega), q, by simp [show i < xs.length by omega]⟩
    · obtain ⟨xs, q, hn⟩ := g
      exact ⟨xs, q, by omega⟩
theorem walkD_S {K : PySem.W.Frag} {c : Cf} {μ : Mu} {H : Hp} {v : V} {x : Vl} {xs : List Vl} (R : RM K c μ H) (r : Rep K c v x) (h : sview μ x = some xs) : ∃ a kd, v = .ref a ∧ xs.length ≤ sizeLine ∧ (∃ vs, Sq K kd H a vs) ∧ WalkD K c (ItS K kd a) xs (asLong xs x) := by
  obtain ⟨a, vs, kd, e1, hz, hl, st, hq⟩ := stays_at R r h
  refine ⟨a, kd, e1, hz, ⟨vs, hq⟩, _, _, walk_S, fun c2 μ2 H2 E R2 g => ?_, fun i H2 v H3 c2 μ2 hi E R2 g y => ?_⟩
  · obtain ⟨vs2, q, r2⟩ := st c2 μ2 H2 E R2 g
    exact ⟨vs2, q, r2.length⟩
  · obtain ⟨e, y⟩ := y
    subst e
    obtain ⟨vs2, q, r2⟩ := st c2 μ2 H3 E R2 g
    obtain ⟨x, e2, rx⟩ := r2.getV (y vs2 q)
    exact ⟨c2, x, Ext.refl c2, R2, e2, rx⟩
theorem pi_S {X : Cx} {tg l : Expr} {tl : TE} (hl : PE X l tl) : PI X tg l (fun σ H R => tl σ H fun x H1 => ∃ (a : Addr) (kd : Kd), x = .ref a ∧ (∃ xs, Sq X.K kd H1 a xs) ∧ R (ItS X.K kd a) H1) := by
  refine ⟨fun pins s σ H R I h => ?_⟩
  refine thn (hl.run pins s σ H _ I h) fun v s1 ⟨x, H1, I1, r1, q1⟩ => ?_
  obtain ⟨a, kd, e, hq, q⟩ := q1
  subst e
  -- the rules for lists and tuples, at the value that is there
  have fr : ∀ b ∈ [s1.heap.objs.size], FpOk X pins H1 b := fun b hb => by
    rw [List.mem_singleton.mp hb]
    exact I1.fpOk (Nat.le_refl _) (I1.hok.fresh (Nat.le_refl _))
  cases r1
  cases kd with
  | L =>
    obtain ⟨xs, hq⟩ := hq
    obtain ⟨its, rv, pl, hz⟩ := I1.list hq
    exact wpAny_pyIter_list pl.isList ⟨s1.heap.objs.size, [s1.heap.objs.size], _, _, H1, rfl, I1.kept (t' := s1.toks) fun b o z => Heap.get?_push_of_some _ z, turn_list a _, ⟨_, Heap.get?_push_size _ rfl, rfl, rfl⟩, fr, q⟩
  | T =>
    obtain ⟨xs, hq⟩ := hq
    obtain ⟨its, rv, pl, hz⟩ := I1.tuple hq
    exact wpAny_pyIter_tuple (show s1.heap.IsTuple a its.toArray from pl) ⟨s1.heap.objs.size, [s1.heap.objs.size], _, _, H1, rfl, I1.kept (t' := s1.toks) fun b o z => Heap.get?_push_of_some _ z, turn_tuple a _, ⟨_, Heap.get?_push_size _ rfl, rfl, rfl⟩, fr, q⟩
def iS (K : PySem.W.Frag) (tl : TE) : TI := fun σ H R => tl σ H fun x H1 => ∃ (a : Addr) (kd : Kd), x = .ref a ∧ (∃ xs, Sq K kd H1 a xs) ∧ R (ItS K kd a) H1
theorem qi_seq {X : Cx} {tg l : Expr} {tl : TE} {dl : DE} (hl : QE X l tl dl) : QI X tg l (iS X.K tl) (dIter dl) := by
  refine ⟨pi_S hl.p, fun c ρ μ σ H Q P R S h k => ?_⟩
  refine hl.s c ρ μ σ H _ _ R S h fun c1 x μ1 v H1 E1 R1 r1 q1 => ?_
  obtain ⟨xs, hx, q⟩ := q1
  obtain ⟨a, kd, e1, hz, hq, wd⟩ := walkD_S R1 r1 hx
  exact ⟨a, kd, e1, hq, k c1 xs _ μ1 _ H1 E1 R1 hz wd q⟩

/-! ### range -/
def rngD (lo : Int) (n : Nat) : List Vl := (List.range n).map fun (i : Nat) => Vl.int (lo + (i : Int))
theorem rngD_len {lo : Int} {n : Nat} : (rngD lo n).length = n := by simp [rngD]
theorem rngD_get {lo : Int} {n i : Nat} (h : i < n) : (rngD lo n)[i]? = some (.int (lo + (i : Int))) := by simp [rngD, h]
theorem walkD_range {K : PySem.W.Frag} {c : Cf} {lo : Int} {n : Nat} : WalkD K c (Itr lo n) (rngD lo n) fun _ => True := by
  refine ⟨fun _ => True, YFn fun i => .int (lo + i), ?_, fun _ _ _ _ _ _ => trivial, fun i H2 v H3 c2 μ2 hi E R2 _ y => ?_⟩
  · rw [rngD_len]; exact walk_range
  · rw [rngD_len] at hi
    obtain ⟨e, y⟩ := y
    subst e; subst y
    exact ⟨c2, _, Ext.refl c2, R2, rngD_get hi, .int _⟩
def dRange1 (d : DA) : DI := fun ρ μ Q => d ρ μ fun xs μ1 => ∃ j : Int, xs = [.int j] ∧ j ≤ 16777216 ∧ -(2 ^ 62) ≤ j ∧ Q (rngD 0 j.toNat) (fun _ => True) μ1
def dRange2 (d : DA) : DI := fun ρ μ Q => d ρ μ fun xs μ1 => ∃ i j : Int, xs = [.int i, .int j] ∧ (-(2 ^ 62) ≤ i ∧ i < 2 ^ 62 ∧ -(2 ^ 62) ≤ j ∧ j < 2 ^ 62) ∧ j - i ≤ 16777216 ∧ Q (rngD i (j - i).toNat) (fun _ => True) μ1
section
variable {X : Cx} {tg a b e : Expr} {ta : TA} {da : DA} {p pos : Pos}
theorem qi_range1 (hm : X.mg "range" = none) (ha : QA X [a] ta da) (hg : Gl X "range" := by rfl) (hs : starEach [a] X.env = [(false, eval a X.env)] := by rfl) : QI X tg (.Call (.Name "range" p) [a] [] pos) (iRng1 ta) (dRange1 da) := by
  refine ⟨pi_range1 hg hm ha.p hs, fun c ρ μ σ H Q P R S h k => ?_⟩
  refine ha.s c ρ μ σ H _ _ R S h fun c1 xs μ1 vs H1 E1 R1 r1 q1 => ?_
  obtain ⟨j, e, h1, h2, q⟩ := q1
  subst e
  obtain ⟨v, e, rv⟩ := reps1 r1
  subst e
  cases rv
  exact ⟨j, rfl, h2, by omega, k c1 _ _ μ1 _ H1 E1 R1 (by rw [rngD_len, sizeLine_eq]; omega) walkD_range q⟩
theorem qi_range2 (hm : X.mg "range" = none) (ha : QA X [a, b] ta da) (hg : Gl X "range" := by rfl) (hs : starEach [a, b] X.env = [(false, eval a X.env), (false, eval b X.env)] := by rfl) (hs2 : starEach [b] X.env = [(false, eval b X.env)] := by rfl) :
    QI X tg (.Call (.Name "range" p) [a, b] [] pos) (iRng2 ta) (dRange2 da) := by
  refine ⟨pi_range2 hg hm ha.p hs hs2, fun c ρ μ σ H Q P R S h k => ?_⟩
  refine ha.s c ρ μ σ H _ _ R S h fun c1 xs μ1 vs H1 E1 R1 r1 q1 => ?_
  obtain ⟨i, j, e, hb, h2, q⟩ := q1
  subst e
  cases r1 with
  | cons r1 r2 =>
    obtain ⟨v, e, rv⟩ := reps1 r2
    subst e
    cases rv
    cases r1
    exact ⟨i, j, rfl, hb, k c1 _ _ μ1 _ H1 E1 R1 (by rw [rngD_len, sizeLine_eq]; omega) walkD_range q⟩
end

/-! ### enumerate, zip -/
def itS (kd : Kd) (h : Heap) (it a : Addr) (i : Nat) : Prop := match kd with
  | .L => h.IsListIter it a i
  | .T => h.IsTupleIter it a i
def hpS (kd : Kd) (h : Heap) (a : Addr) (items : Array Value) : Prop := match kd with
  | .L => h.IsList a items
  | .T => h.IsTuple a items
def obS (kd : Kd) (a : Addr) : Obj := match kd with
  | .L => { cls := .type "list_iterator", data := .fields #[.ref a, .int 0 0] }
  | .T => { cls := .type "tuple_iterator", data := .fields #[.ref a, .int 0 0] }
theorem obS_it {kd : Kd} {h : Heap} {it a : Addr} (e : h.get? it = some (obS kd a)) : itS kd h it a 0 := by
  cases kd with
  | L => exact ⟨_, e, rfl, rfl⟩
  | T => exact ⟨_, e, rfl, rfl⟩
theorem itS.look {kd : Kd} {h : Heap} {it a : Addr} {i : Nat} (x : itS kd h it a i) : ∃ o, h.get? it = some o ∧ ∀ v, o.data ≠ .cell v := by
  cases kd with
  | L =>
    obtain ⟨o, e, _, d⟩ := x
    exact ⟨o, e, fun v z => by rw [d] at z; cases z⟩
  | T =>
    obtain ⟨o, e, _, d⟩ := x
    exact ⟨o, e, fun v z => by rw [d] at z; cases z⟩
theorem itS.keep {kd : Kd} {h h' : Heap} {it a : Addr} {i : Nat} (x : itS kd h it a i) (k : ∀ o, h.get? it = some o → h'.get? it = some o) : itS kd h' it a i := by
  cases kd with
  | L => exact Heap.IsListIter.at x k
  | T => exact Heap.IsTupleIter.at x k
theorem draws_S {prog : Program} {w : World} {A : Around} (hh : A.handled = none) (kd : Kd) (it l : Addr) (hne : l ≠ it) (items : Array Value) :
    Draws prog w A it [it, l] items.size (fun i v => items[i]? = some v) (fun i h => itS kd h it l i ∧ hpS kd h l items) := by
  cases kd with
  | L => exact Draws.list hh it l hne items
  | T => exact Draws.tuple hh it l hne items
theorem begins_S (kd : Kd) (a : Addr) (items : Array Value) : Begins (.ref a) (obS kd a) (fun h => hpS kd h a items) := by
  cases kd with
  | L => exact begins_list a items
  | T => exact begins_tuple a items
theorem inv_S {X : Cx} {pins : List (Addr × Obj)} {σ : L2.St} {H : Hp} {s : Shared} {kd : Kd} {a : Addr} {xs : List V} (I : L2.Inv X pins σ H s) (h : Sq X.K kd H a xs) : ∃ its : List Value, Vals xs its ∧ hpS kd s.heap a its.toArray ∧ xs.length ≤ sizeLine := by
  cases kd with
  | L =>
    obtain ⟨its, r, p, z⟩ := I.list h
    exact ⟨its, r, p.isList, z⟩
  | T =>
    obtain ⟨its, r, p, z⟩ := I.tuple h
    exact ⟨its, r, p, z⟩
theorem inj_S {X : Cx} {pins : List (Addr × Obj)} {σ : L2.St} {H : Hp} {s : Shared} {kd : Kd} {a : Addr} {xs ys : List V} (I : L2.Inv X pins σ H s) (h : Sq X.K kd H a xs) (h' : Sq X.K kd H a ys) : xs = ys := by
  cases kd with
  | L => exact I.list_inj h h'
  | T => exact I.tuple_inj h h'
theorem hpS.lt {kd : Kd} {h : Heap} {a : Addr} {its : Array Value} (x : hpS kd h a its) : a < h.objs.size := by
  cases kd with
  | L =>
    obtain ⟨o, e, _⟩ := x
    exact Heap.lt_size e
  | T =>
    obtain ⟨o, e, _⟩ := x
    exact Heap.lt_size e

namespace DL2
theorem enum_new {v : Value} {o : Obj} {G : Heap → Prop} (B : Begins v o G) :
    Meets (Builtin.«enumerate.__new__» ⟨[.type "enumerate", v], []⟩) (fun _ R s => G s.heap ∧
      R (.ok (.ret (.ref (s.heap.push o).objs.size))) { s with heap := (s.heap.push o).push { cls := .type "enumerate", data := .fields #[.none, .bool false, .ref s.heap.objs.size, rawInt 0, .none, .none] } }) :=
  .of_wp fun prog w A R s h => by
    obtain ⟨hp, g, d, tk, os⟩ := s
    obtain ⟨h1, h⟩ := h
    have hsub := sub_enumerate
    have it : ∀ {A' : Around} {E : Value → Shared → Prop} {Q : Value → Shared → Prop}, Q (.ref hp.objs.size) ⟨hp.push o, g, d, tk, os⟩ → wpAny (model prog w) A' (pyIter v) Q E ⟨hp, g, d, tk, os⟩ :=
      fun q => B.iter prog w _ _ ⟨hp, g, d, tk, os⟩ _ h1 q
    wp_walk using it
    refine wpAny_stack_any fun st => wpAny_pure ?_
    split
    · rename_i c _ _ _ _ _
      cases (c == Value.type "enumerate")
      · wp_walk using it
        exact ⟨_, rfl, h⟩
      · wp_walk using it
        exact ⟨_, rfl, h⟩
    · wp_walk using it
      exact ⟨_, rfl, h⟩
theorem call_enum {prog : Program} {w : World} {A : Around} {E : Value → Shared → Prop} {s : Shared} {v : Value} {o : Obj} {G : Heap → Prop} {Q : Value → Shared → Prop} (B : Begins v o G) (h1 : G s.heap)
    (h : ∀ h', IsEnum h' (s.heap.objs.size + 1) s.heap.objs.size 0 .none → h'.get? s.heap.objs.size = some o → (∀ b o, s.heap.get? b = some o → h'.get? b = some o) → Q (.ref (s.heap.objs.size + 1)) { s with heap := h' }) :
    wpAny (model prog w) A (call (.type "enumerate") [v]) Q E s := by
  have hz : (s.heap.push o).objs.size = s.heap.objs.size + 1 := Heap.size_push ..
  refine callType_new F.called_enumerate (by decide) (F.typeCall_enumerate_1 _) (F.newCall_enumerate_1 _) (fun obj => F.args_object_init_2 obj _) F.entry_enumerate_new (enum_new B) ⟨h1, ?_⟩
  show _ ∧ _
  rw [hz]
  have he : IsEnum ((s.heap.push o).push { cls := .type "enumerate", data := .fields #[.none, .bool false, .ref s.heap.objs.size, rawInt 0, .none, .none] }) (s.heap.objs.size + 1) s.heap.objs.size 0 .none := by
    have z := Heap.get?_push_size (s.heap.push o) (o := { cls := .type "enumerate", data := .fields #[.none, .bool false, .ref s.heap.objs.size, rawInt 0, .none, .none] }) rfl
    rw [hz] at z; exact z
  exact ⟨⟨_, he, rfl⟩, h _ he (Heap.get?_push_of_some _ (Heap.get?_push_size _ B.free)) fun b o x => Heap.get?_push_of_some _ (Heap.get?_push_of_some _ x)⟩
end DL2

/-- each item with its number, in a new pair -/
def ItE (K : PySem.W.Frag) (kd : Kd) (a : Addr) : It :=
  ⟨fun i H => ∃ xs x, Sq K kd H a xs ∧ xs[i]? = some x, fun i H v H' => ∃ T x, v = .ref T ∧ H T = none ∧ H' = upd H T (.tup [.int (i : Nat), x]) ∧ ∀ xs, Sq K kd H a xs → xs[i]? = some x, fun i H => ∃ xs, Sq K kd H a xs ∧ xs.length = i⟩
theorem turn_E {P : Program} {w : World} {K : PySem.W.Frag} {elts : List Expr} {kk : Nat} {tpos : Pos} (kd : Kd) (a e it : Addr) (hai : a ≠ it) (hae : e ≠ a) :
    Turn P w K (.Tuple elts kk tpos) (ItE K kd a) [e, it] e (fun i h => (∃ old, IsEnum h e it ((i : Nat) : Int) old) ∧ itS kd h it a i ∧ e ≠ it) where
  mem := by simp
  obj := fun i h st b hb => by
    obtain ⟨⟨old, he⟩, hi, _⟩ := st
    have e' : b = e ∨ b = it := by simpa using hb
    rcases e' with z | z
    · rw [z]; exact ⟨_, he, fun v q => nomatch q⟩
    · rw [z]; exact hi.look
  keep := fun i h h' st k => by
    obtain ⟨⟨old, he⟩, hi, hne⟩ := st
    exact ⟨⟨old, k e (by simp) _ he⟩, hi.keep fun o q => k it (by simp) o q, hne⟩
  item := by
    intro X hP hw hK hc i pins s σ H E I hf st hg
    subst hP hw hK
    obtain ⟨⟨old, he⟩, hit, hne⟩ := st
    obtain ⟨xs, x, hq, hx⟩ := hg
    obtain ⟨its, rv, pl, hz⟩ := inv_S I hq
    obtain ⟨u, hu, ru⟩ := rv.get hx
    have hel : e < s.heap.objs.size := Heap.lt_size he
    have hil : it < s.heap.objs.size := by obtain ⟨o, q, _⟩ := hit.look; exact Heap.lt_size q
    have hin : i < its.toArray.size := by
      rw [List.size_toArray]
      exact (List.getElem?_eq_some_iff.mp hu).1
    have D := draws_S (prog := X.prog) (w := X.w) (A := X.A.in1) (I.ok.hd hc) kd it a hai its.toArray
    refine wpAny_pyNext_enum_itemC D he ⟨hit, pl⟩ hin hne (by simp [hne, hae]) fun y h' tk hy ho st' hT hsz hk => ?_
    have ey : y = u := by
      have hy' : its.toArray[i]? = some y := hy
      rw [List.getElem?_toArray, hu] at hy'
      exact (Option.some.inj hy').symm
    subst ey
    refine ⟨_, rfl, wpAny_letOwnedTupleGo_enum (s := { s with heap := h', toks := tk + 1 }) ho fun h'' he' sb => ?_⟩
    have hT2 : h''.get? s.heap.objs.size = some { cls := .type "tuple", data := .seq #[.int i tk, y] } := (sb.2 _ (Nat.ne_of_gt hel)).trans hT
    have new : ObjOk X.prog X.w (upd H s.heap.objs.size (.tup [.int (i : Nat), x])) h'' s.heap.objs.size (.tup [.int (i : Nat), x]) :=
      ⟨by show 2 ≤ sizeLine; decide, [.int i tk, y], .cons ⟨_, rfl⟩ (.cons ru .nil), ⟨_, hT2, rfl, _, rfl⟩⟩
    have I1 : L2.Inv X pins σ (upd H s.heap.objs.size (.tup [.int (i : Nat), x])) { s with heap := h'', toks := tk + 1 } :=
      I.turnedNew (ch := [e, it]) (fun b ob hb q => (sb.2 b (fun z => hb (by simp [z]))).trans (hk b ob (fun z => hb (by simp [z])) (fun z => hb (by simp [z])) q)) hf (Nat.le_refl _) new
    refine ⟨.ref s.heap.objs.size, _, I1, rfl, ⟨_, x, rfl, I.hok.fresh (Nat.le_refl _), rfl, fun ys hy => by rw [inj_S I hy hq]; exact hx⟩, ⟨⟨y, ?_⟩, st'.1.keep fun o q => (sb.2 it (Ne.symm hne)).trans q, hne⟩, fun b hb => ?_⟩
    · have e1 : ((i + 1 : Nat) : Int) = (i : Int) + 1 := by omega
      rw [e1]; exact he'
    · have hb' : b < s.heap.objs.size := by
        have e' : b = e ∨ b = it := by simpa using hb
        rcases e' with z | z
        · rw [z]; exact hel
        · rw [z]; exact hil
      rw [upd_ne (Nat.ne_of_lt hb')]
      exact (hf b hb).1
  done := by
    intro X hP hw hK hc i pins s σ H E I hf st hg
    subst hP hw hK
    obtain ⟨⟨old, he⟩, hit, hne⟩ := st
    obtain ⟨xs, hq, hx⟩ := hg
    obtain ⟨its, rv, pl, hz⟩ := inv_S I hq
    obtain ⟨f0, f1, f2, f3, f4, f5⟩ := hf it (by simp)
    have hn : its.toArray.size = i := by rw [List.size_toArray, ← rv.length]; exact hx
    have D := draws_S (prog := X.prog) (w := X.w) (A := X.A.in1) (I.ok.hd hc) kd it a hai its.toArray
    exact wpAny_pyNext_enum_endD D he (by rw [hn]; exact ⟨hit, pl⟩) fun h' eb => ⟨rfl, I.turned (t' := s.toks) (fun b o hb q => eb b o hb q) f0 f1 f3 f4 f5⟩
  self := fun A i s Q E st h => let ⟨⟨_, he⟩, _⟩ := st; wpAny_pyIter_enum he h
def iEnumS (K : PySem.W.Frag) (ta : TA) : TI := fun σ H R => ta σ H fun vs H1 => ∃ (a : Addr) (kd : Kd), vs = [.ref a] ∧ (∃ xs, Sq K kd H1 a xs) ∧ R (ItE K kd a) H1
theorem pi_enumS {X : Cx} {e : Expr} {ta : TA} {p pos tpos : Pos} {elts : List Expr} {kk : Nat} (hg : Gl X "enumerate") (hm : X.mg "enumerate" = none) (ha : PA X [e] ta) (hs : starEach [e] X.env = [(false, eval e X.env)] := by rfl) :
    PI X (.Tuple elts kk tpos) (.Call (.Name "enumerate" p) [e] [] pos) (iEnumS X.K ta) := by
  refine ⟨fun pins s σ H R I h => ?_⟩
  refine Call_ (ld_blt I hg hm boot_enumerate (PyProof.Rows.callWith_type1 (thn (ha.run pos pins s σ H _ I h) fun us s1 ⟨vs, H1, I1, r1, q1⟩ => ?_) hs rfl))
  obtain ⟨a, kd, ex, ⟨xs, hq⟩, q⟩ := q1
  subst ex
  cases r1 with
  | cons r rr =>
    cases rr
    cases r
    obtain ⟨its, rv, pl, hz⟩ := inv_S I1 hq
    have ha := pl.lt
    refine DL2.call_enum (begins_S kd a its.toArray) pl fun h' he hit hk => wpAny_pyIter_enum he ?_
    have I2 : L2.Inv X pins σ H1 { s1 with heap := h' } := I1.kept (t' := s1.toks) hk
    refine ⟨s1.heap.objs.size + 1, [s1.heap.objs.size + 1, s1.heap.objs.size], _, _, H1, rfl, I2, turn_E kd a (s1.heap.objs.size + 1) s1.heap.objs.size (Nat.ne_of_lt ha) (Nat.ne_of_gt (Nat.lt_succ_of_lt ha)), ⟨⟨.none, he⟩, obS_it hit, Nat.succ_ne_self _⟩, fun b hb => ?_, q⟩
    have e' : b = s1.heap.objs.size + 1 ∨ b = s1.heap.objs.size := by simpa using hb
    have hle : s1.heap.objs.size ≤ b := by
      rcases e' with z | z
      · rw [z]; exact Nat.le_add_right _ _
      · rw [z]; exact Nat.le_refl _
    exact I1.fpOk hle (I1.hok.fresh hle)
/-- pairs of the number and the item -/
def numbered (xs : List Vl) : List Vl := xs.mapIdx fun i x => Vl.tup [.int (i : Int), x]
theorem numbered_len {xs : List Vl} : (numbered xs).length = xs.length := by simp [numbered]
theorem numbered_get {xs : List Vl} {i : Nat} {x : Vl} (h : xs[i]? = some x) : (numbered xs)[i]? = some (.tup [.int (i : Int), x]) := by simp [numbered, h]
theorem pair_still {K : PySem.W.Frag} {c : Cf} {μ : Mu} {H : Hp} {T : Addr} {v u : V} {x y : Vl} (R : RM K c μ H) (hT : H T = none) (r1 : Rep K c v x) (r2 : Rep K c u y) : ∃ c3, Ext c c3 ∧ RM K c3 μ (upd H T (.tup [v, u])) ∧ Rep K c3 (.ref T) (.tup [x, y]) := by
  obtain ⟨R1, E1⟩ := R.still (o := .tup [v, u]) hT
  refine ⟨_, E1, R1, .tup (vs := [v, u]) (.inl (.inl ?_)) (by show 2 ≤ sizeLine; decide) (.cons (r1.up E1.toExt0) (.cons (r2.up E1.toExt0) .nil))⟩
  show upd c.Hd T _ T = _
  exact upd_same
theorem walkD_E {K : PySem.W.Frag} {c : Cf} {μ : Mu} {H : Hp} {v : V} {x : Vl} {xs : List Vl} (R : RM K c μ H) (r : Rep K c v x) (h : sview μ x = some xs) : ∃ a kd, v = .ref a ∧ xs.length ≤ sizeLine ∧ (∃ vs, Sq K kd H a vs) ∧ WalkD K c (ItE K kd a) (numbered xs) (asLong xs x) := by
  obtain ⟨a, vs, kd, e1, hz, hl, st, hq⟩ := stays_at R r h
  have wk : Walk (ItE K kd a) xs.length (fun H => ∃ vs, Sq K kd H a vs ∧ vs.length = xs.length) (fun i H v H' => ∃ T x, v = .ref T ∧ H T = none ∧ H' = upd H T (.tup [.int (i : Nat), x]) ∧ ∀ xs, Sq K kd H a xs → xs[i]? = some x) := by
    refine ⟨fun i H hi g => ?_, fun H g => ?_, fun i H x H' hi g y => y⟩
    · obtain ⟨xs, q, hn⟩ := g
      exact ⟨xs, xs[i]'(by omega), q, by simp [show i < xs.length by omega]⟩
    · obtain ⟨xs, q, hn⟩ := g
      exact ⟨xs, q, hn⟩
  refine ⟨a, kd, e1, hz, ⟨vs, hq⟩, _, _, by rw [numbered_len]; exact wk, fun c2 μ2 H2 E R2 g => ?_, fun i H2 v H3 c2 μ2 hi E R2 g y => ?_⟩
  · obtain ⟨vs2, q, r2⟩ := st c2 μ2 H2 E R2 g
    exact ⟨vs2, q, r2.length⟩
  · obtain ⟨T, u, e2, hT, e3, y⟩ := y
    subst e2; subst e3
    obtain ⟨vs2, q, r2⟩ := st c2 μ2 H2 E R2 g
    obtain ⟨z, e4, rz⟩ := r2.getV (y vs2 q)
    obtain ⟨c3, E3, R3, r3⟩ := pair_still R2 hT (.int (i : Nat)) rz
    exact ⟨c3, _, E3, R3, numbered_get e4, r3⟩
def dEnum (d : DA) : DI := fun ρ μ Q => d ρ μ fun xs μ1 => ∃ x ys, xs = [x] ∧ sview μ1 x = some ys ∧ Q (numbered ys) (asLong ys x) μ1
theorem qi_enum {X : Cx} {e : Expr} {ta : TA} {da : DA} {p pos tpos : Pos} {elts : List Expr} {kk : Nat} (hm : X.mg "enumerate" = none) (ha : QA X [e] ta da) (hg : Gl X "enumerate" := by rfl) (hs : starEach [e] X.env = [(false, eval e X.env)] := by rfl) :
    QI X (.Tuple elts kk tpos) (.Call (.Name "enumerate" p) [e] [] pos) (iEnumS X.K ta) (dEnum da) := by
  refine ⟨pi_enumS hg hm ha.p hs, fun c ρ μ σ H Q P R S h k => ?_⟩
  refine ha.s c ρ μ σ H _ _ R S h fun c1 xs μ1 vs H1 E1 R1 r1 q1 => ?_
  obtain ⟨x, ys, e, hx, q⟩ := q1
  subst e
  obtain ⟨v, e, rv⟩ := reps1 r1
  subst e
  obtain ⟨a, kd, e1, hz, hq, wd⟩ := walkD_E R1 rv hx
  subst e1
  exact ⟨a, kd, rfl, hq, k c1 _ _ μ1 _ H1 E1 R1 (by rw [numbered_len]; exact hz) wd q⟩

/-! ### zip of two -/
def ItZ (K : PySem.W.Frag) (k1 k2 : Kd) (a b : Addr) : It :=
  ⟨fun i H => ∃ xs ys x y, Sq K k1 H a xs ∧ Sq K k2 H b ys ∧ xs[i]? = some x ∧ ys[i]? = some y,
    fun i H v H' => ∃ T x y, v = .ref T ∧ H T = none ∧ H' = upd H T (.tup [x, y]) ∧ (∀ xs, Sq K k1 H a xs → xs[i]? = some x) ∧ ∀ ys, Sq K k2 H b ys → ys[i]? = some y,
    fun i H => ∃ xs ys, Sq K k1 H a xs ∧ Sq K k2 H b ys ∧ i ≤ xs.length ∧ i ≤ ys.length ∧ (i = xs.length ∨ i = ys.length)⟩
theorem turn_Z {P : Program} {w : World} {K : PySem.W.Frag} {elts : List Expr} {kk : Nat} {tpos : Pos} {k1 k2 : Kd} {a b z TI TO i1 i2 : Addr} (S : ZipSep2 z TI TO i1 i2 [i1, a] [i2, b]) (ha : a ≠ i1) (hb : b ≠ i2) :
    Turn P w K (.Tuple elts kk tpos) (ItZ K k1 k2 a b) [z, TI, TO, i1, i2] z (fun i h => IsZip h z TI TO .none ∧ IsTupOf2 h TI (.ref i1) (.ref i2) ∧ (∃ x y, IsTupOf2 h TO x y) ∧ itS k1 h i1 a i ∧ itS k2 h i2 b i) where
  mem := by simp
  obj := fun i h st c hc => by
    obtain ⟨hz, hTI, ⟨x, y, hTO⟩, h1, h2⟩ := st
    have e' : c = z ∨ c = TI ∨ c = TO ∨ c = i1 ∨ c = i2 := by simpa using hc
    rcases e' with q | q | q | q | q
    · rw [q]; exact ⟨_, hz, fun v q => nomatch q⟩
    · rw [q]; exact ⟨_, hTI, fun v q => nomatch q⟩
    · rw [q]; exact ⟨_, hTO, fun v q => nomatch q⟩
    · rw [q]; exact h1.look
    · rw [q]; exact h2.look
  keep := fun i h h' st k => by
    obtain ⟨hz, hTI, ⟨x, y, hTO⟩, h1, h2⟩ := st
    exact ⟨k z (by simp) _ hz, k TI (by simp) _ hTI, ⟨x, y, k TO (by simp) _ hTO⟩, h1.keep fun o q => k i1 (by simp) o q, h2.keep fun o q => k i2 (by simp) o q⟩
  item := by
    intro X hP hw hK hc i pins s σ H E I hf st hg
    subst hP hw hK
    obtain ⟨hz, hTI, ⟨x0, y0, hTO⟩, h1, h2⟩ := st
    obtain ⟨xs, ys, x, y, hqx, hqy, hx, hy⟩ := hg
    obtain ⟨its, rv, pl, _⟩ := inv_S I hqx
    obtain ⟨its2, rv2, pl2, _⟩ := inv_S I hqy
    obtain ⟨u, hu, ru⟩ := rv.get hx
    obtain ⟨u2, hu2, ru2⟩ := rv2.get hy
    have hzl : z < s.heap.objs.size := Heap.lt_size hz
    have n1 : i < its.toArray.size := by rw [List.size_toArray]; exact (List.getElem?_eq_some_iff.mp hu).1
    have n2 : i < its2.toArray.size := by rw [List.size_toArray]; exact (List.getElem?_eq_some_iff.mp hu2).1
    have hh : X.A.in1.handled = none := I.ok.hd hc
    refine wpAny_pyNext_zipD2_item S (draws_S (prog := X.prog) (w := X.w) hh k1 i1 a ha its.toArray) (draws_S (prog := X.prog) (w := X.w) hh k2 i2 b hb its2.toArray) hz hTI hTO ⟨h1, pl⟩ ⟨h2, pl2⟩ n1 n2 fun p1 p2 h' tk e1 e2 z' TO' s1' s2' hT hsz hk => ?_
    have q1 : its.toArray[i]? = some p1 := e1
    have q2 : its2.toArray[i]? = some p2 := e2
    rw [List.getElem?_toArray, hu] at q1
    rw [List.getElem?_toArray, hu2] at q2
    have q1 := Option.some.inj q1
    have q2 := Option.some.inj q2
    subst q1; subst q2
    refine ⟨_, rfl, wpAny_letOwnedTupleGo_zip (s := { s with heap := h', toks := tk }) z' fun h'' z'' sb => ?_⟩
    have hT2 : h''.get? s.heap.objs.size = some { cls := .type "tuple", data := .seq #[u, u2] } := (sb.2 _ (Nat.ne_of_gt hzl)).trans hT
    have new : ObjOk X.prog X.w (upd H s.heap.objs.size (.tup [x, y])) h'' s.heap.objs.size (.tup [x, y]) :=
      ⟨by show 2 ≤ sizeLine; decide, [u, u2], .cons ru (.cons ru2 .nil), ⟨_, hT2, rfl, _, rfl⟩⟩
    have I1 : L2.Inv X pins σ (upd H s.heap.objs.size (.tup [x, y])) { s with heap := h'', toks := tk } :=
      I.turnedNew (ch := [z, TI, TO, i1, i2]) (fun c o hb q => (sb.2 c (fun q' => hb (by simp [q']))).trans (hk c o (fun q' => hb (by simp [q'])) (fun q' => hb (by simp [q'])) (fun q' => hb (by simp [q'])) (fun q' => hb (by simp [q'])) q)) hf (Nat.le_refl _) new
    refine ⟨.ref s.heap.objs.size, _, I1, rfl, ⟨_, x, y, rfl, I.hok.fresh (Nat.le_refl _), rfl, fun l hl => by rw [inj_S I hl hqx]; exact hx, fun l hl => by rw [inj_S I hl hqy]; exact hy⟩, ⟨z'', ?_, ⟨u, u2, ?_⟩, ?_, ?_⟩, fun c hcm => ?_⟩
    · exact (sb.2 _ S.TIz).trans (hk _ _ S.TIz S.TITO S.TIi1 S.TIi2 hTI)
    · exact (sb.2 _ S.TOz).trans TO'
    · exact s1'.1.keep fun o q => (sb.2 _ fun e => S.zf1 (by simp [← e])).trans q
    · exact s2'.1.keep fun o q => (sb.2 _ fun e => S.zf2 (by simp [← e])).trans q
    · have hlt : c < s.heap.objs.size := by
        have e' : c = z ∨ c = TI ∨ c = TO ∨ c = i1 ∨ c = i2 := by simpa using hcm
        rcases e' with q | q | q | q | q
        · rw [q]; exact hzl
        · rw [q]; exact Heap.lt_size hTI
        · rw [q]; exact Heap.lt_size hTO
        · rw [q]; obtain ⟨_, e1, _⟩ := h1.look; exact Heap.lt_size e1
        · rw [q]; obtain ⟨_, e2, _⟩ := h2.look; exact Heap.lt_size e2
      rw [upd_ne (Nat.ne_of_lt hlt)]
      exact (hf c hcm).1
  done := by
    intro X hP hw hK hc i pins s σ H E I hf st hg
    subst hP hw hK
    obtain ⟨hz, hTI, ⟨x0, y0, hTO⟩, h1, h2⟩ := st
    obtain ⟨xs, ys, hqx, hqy, l1, l2, hend⟩ := hg
    obtain ⟨its, rv, pl, _⟩ := inv_S I hqx
    obtain ⟨its2, rv2, pl2, _⟩ := inv_S I hqy
    have hh : X.A.in1.handled = none := I.ok.hd hc
    have m1 := rv.length
    have m2 := rv2.length
    refine wpAny_pyNext_zipD2_end S (draws_S (prog := X.prog) (w := X.w) hh k1 i1 a ha its.toArray) (draws_S (prog := X.prog) (w := X.w) hh k2 i2 b hb its2.toArray) hz hTI hTO ⟨h1, pl⟩ ⟨h2, pl2⟩ (by rw [List.size_toArray]; omega) (by rw [List.size_toArray]; omega) (by rw [List.size_toArray, List.size_toArray]; omega) fun h' tk hk => ?_
    exact ⟨rfl, I.turnedL (t' := tk) (ch := [z, TI, TO, i1, i2]) (fun c o hb q => hk c o (fun q' => hb (by simp [q'])) (fun q' => hb (by simp [q'])) (fun q' => hb (by simp [q'])) (fun q' => hb (by simp [q'])) q) hf⟩
  self := fun A i s Q E st h => wpAny_pyIter_zip st.1 h
def iZipS (K : PySem.W.Frag) (ta : TA) : TI := fun σ H R => ta σ H fun vs H1 => ∃ (a b : Addr) (k1 k2 : Kd), vs = [.ref a, .ref b] ∧ (∃ xs, Sq K k1 H1 a xs) ∧ (∃ ys, Sq K k2 H1 b ys) ∧ R (ItZ K k1 k2 a b) H1
theorem pi_zipS {X : Cx} {e e2 : Expr} {ta : TA} {p pos tpos : Pos} {elts : List Expr} {kk : Nat} (hg : Gl X "zip") (hm : X.mg "zip" = none) (ha : PA X [e, e2] ta)
    (hs : starEach [e, e2] X.env = (false, eval e X.env) :: starEach [e2] X.env := by rfl) (hpl : (backTo pos (starEach [e2] X.env)).any (·.1) = false := by rfl) :
    PI X (.Tuple elts kk tpos) (.Call (.Name "zip" p) [e, e2] [] pos) (iZipS X.K ta) := by
  refine ⟨fun pins s σ H R I h => ?_⟩
  refine Call_ (ld_blt I hg hm PyProof.Rows.boot_zip (PyProof.Rows.callWith_type1 (thn (ha.run pos pins s σ H _ I h) fun us s1 ⟨vs, H1, I1, r1, q1⟩ => ?_) hs hpl))
  obtain ⟨a, b, k1, k2, ex, ⟨xs, hqx⟩, ⟨ys, hqy⟩, q⟩ := q1
  subst ex
  cases r1 with
  | cons r rr =>
    cases rr with
    | cons r' rr =>
      cases rr
      cases r
      cases r'
      obtain ⟨its, rv, pl, _⟩ := inv_S I1 hqx
      obtain ⟨its2, rv2, pl2, _⟩ := inv_S I1 hqy
      have la := pl.lt
      have lb := pl2.lt
      refine zip_begins2 (begins_S k1 a its.toArray) (begins_S k2 b its2.toArray) pl pl2 fun h' hz hTI hTO h1 h2 hsz hk => wpAny_pyIter_zip hz ?_
      have I2 : L2.Inv X pins σ H1 { s1 with heap := h' } := I1.kept (t' := s1.toks) hk
      have S := zip_sep2 (N := s1.heap.objs.size) (fp1 := [a]) (fp2 := [b]) (fun c hc => by rw [List.mem_singleton.mp hc]; exact la) (fun c hc => by rw [List.mem_singleton.mp hc]; exact lb)
      refine ⟨s1.heap.objs.size + 4, [s1.heap.objs.size + 4, s1.heap.objs.size + 2, s1.heap.objs.size + 3, s1.heap.objs.size, s1.heap.objs.size + 1], _, _, H1, rfl, I2, turn_Z S (Nat.ne_of_lt la) (Nat.ne_of_lt (Nat.lt_succ_of_lt lb)), ⟨hz, hTI, ⟨_, _, hTO⟩, obS_it h1, obS_it h2⟩, fun c hcm => ?_, q⟩
      have e' : c = s1.heap.objs.size + 4 ∨ c = s1.heap.objs.size + 2 ∨ c = s1.heap.objs.size + 3 ∨ c = s1.heap.objs.size ∨ c = s1.heap.objs.size + 1 := by simpa using hcm
      have hle : s1.heap.objs.size ≤ c := by
        rcases e' with z | z | z | z | z
        · rw [z]; exact Nat.le_add_right _ _
        · rw [z]; exact Nat.le_add_right _ _
        · rw [z]; exact Nat.le_add_right _ _
        · rw [z]; exact Nat.le_refl _
        · rw [z]; exact Nat.le_add_right _ _
      exact I1.fpOk hle (I1.hok.fresh hle)
def pairD (p : Vl × Vl) : Vl := .tup [p.1, p.2]
def zipD (xs ys : List Vl) : List Vl := (xs.zip ys).map pairD
theorem zipD_len {xs ys : List Vl} : (zipD xs ys).length = min xs.length ys.length := by simp [zipD]
theorem zipD_get {xs ys : List Vl} {i : Nat} {x y : Vl} (h1 : xs[i]? = some x) (h2 : ys[i]? = some y) : (zipD xs ys)[i]? = some (.tup [x, y]) := by
  unfold zipD
  have e : (xs.zip ys)[i]? = some (x, y) := List.getElem?_zip_eq_some.mpr ⟨h1, h2⟩
  rw [List.getElem?_map, e]
  rfl
theorem walkD_Z {K : PySem.W.Frag} {c : Cf} {μ : Mu} {H : Hp} {v v' : V} {x x' : Vl} {xs ys : List Vl} (R : RM K c μ H) (r : Rep K c v x) (h : sview μ x = some xs) (r' : Rep K c v' x') (h' : sview μ x' = some ys) :
    ∃ a b k1 k2, v = .ref a ∧ v' = .ref b ∧ xs.length ≤ sizeLine ∧ (∃ vs, Sq K k1 H a vs) ∧ (∃ vs, Sq K k2 H b vs) ∧ WalkD K c (ItZ K k1 k2 a b) (zipD xs ys) (fun μ => asLong xs x μ ∧ asLong ys x' μ) := by
  obtain ⟨a, vs, k1, e1, hz, hl, st, hq⟩ := stays_at R r h
  obtain ⟨b, ws, k2, e2, hz', hl', st', hq'⟩ := stays_at R r' h'
  have wk : Walk (ItZ K k1 k2 a b) (min xs.length ys.length) (fun H => ∃ vs ws, Sq K k1 H a vs ∧ Sq K k2 H b ws ∧ vs.length = xs.length ∧ ws.length = ys.length)
      (fun i H v H' => ∃ T x y, v = .ref T ∧ H T = none ∧ H' = upd H T (.tup [x, y]) ∧ (∀ xs, Sq K k1 H a xs → xs[i]? = some x) ∧ ∀ ys, Sq K k2 H b ys → ys[i]? = some y) := by
    refine ⟨fun i H hi g => ?_, fun H g => ?_, fun i H x H' hi g y => y⟩
    · obtain ⟨vs, ws, q1, q2, n1, n2⟩ := g
      exact ⟨vs, ws, vs[i]'(by omega), ws[i]'(by omega), q1, q2, by simp [show i < vs.length by omega], by simp [show i < ws.length by omega]⟩
    · obtain ⟨vs, ws, q1, q2, n1, n2⟩ := g
      exact ⟨vs, ws, q1, q2, by omega, by omega, by omega⟩
  refine ⟨a, b, k1, k2, e1, e2, hz, ⟨vs, hq⟩, ⟨ws, hq'⟩, _, _, by rw [zipD_len]; exact wk, fun c2 μ2 H2 E R2 g => ?_, fun i H2 v H3 c2 μ2 hi E R2 g y => ?_⟩
  · obtain ⟨vs2, q, r2⟩ := st c2 μ2 H2 E R2 g.1
    obtain ⟨ws2, q', r2'⟩ := st' c2 μ2 H2 E R2 g.2
    exact ⟨vs2, ws2, q, q', r2.length, r2'.length⟩
  · obtain ⟨T, u, u', e2, hT, e3, y, y'⟩ := y
    subst e2; subst e3
    obtain ⟨vs2, q, r2⟩ := st c2 μ2 H2 E R2 g.1
    obtain ⟨ws2, q', r2'⟩ := st' c2 μ2 H2 E R2 g.2
    obtain ⟨z, e4, rz⟩ := r2.getV (y vs2 q)
    obtain ⟨z', e4', rz'⟩ := r2'.getV (y' ws2 q')
    obtain ⟨c3, E3, R3, r3⟩ := pair_still R2 hT rz rz'
    exact ⟨c3, _, E3, R3, zipD_get e4 e4', r3⟩
def dZip (d : DA) : DI := fun ρ μ Q => d ρ μ fun xs μ1 => ∃ x x' ys zs, xs = [x, x'] ∧ sview μ1 x = some ys ∧ sview μ1 x' = some zs ∧ Q (zipD ys zs) (fun μ => asLong ys x μ ∧ asLong zs x' μ) μ1
theorem qi_zip {X : Cx} {e e2 : Expr} {ta : TA} {da : DA} {p pos tpos : Pos} {elts : List Expr} {kk : Nat} (hm : X.mg "zip" = none) (ha : QA X [e, e2] ta da) (hg : Gl X "zip" := by rfl)
    (hs : starEach [e, e2] X.env = (false, eval e X.env) :: starEach [e2] X.env := by rfl) (hpl : (backTo pos (starEach [e2] X.env)).any (·.1) = false := by rfl) :
    QI X (.Tuple elts kk tpos) (.Call (.Name "zip" p) [e, e2] [] pos) (iZipS X.K ta) (dZip da) := by
  refine ⟨pi_zipS hg hm ha.p hs hpl, fun c ρ μ σ H Q P R S h k => ?_⟩
  refine ha.s c ρ μ σ H _ _ R S h fun c1 xs μ1 vs H1 E1 R1 r1 q1 => ?_
  obtain ⟨x, x', ys, zs, e, hx, hx', q⟩ := q1
  subst e
  cases r1 with
  | cons r1 r2 =>
    obtain ⟨v, e, rv⟩ := reps1 r2
    subst e
    obtain ⟨a, b, k1, k2, e1, e2, hz, hq, hq', wd⟩ := walkD_Z R1 r1 hx rv hx'
    subst e1; subst e2
    exact ⟨a, b, k1, k2, rfl, hq, hq', k c1 _ _ μ1 _ H1 E1 R1 (by rw [zipD_len]; omega) wd q⟩
end DL

/-! DLd: comprehensions, statements, loops, defs. -/
namespace DL
open PySem L2 StX PyProof.Rows

section
variable {X : Cx} {e a b o : Expr} {es : List Expr} {te ta tb to : TE} {de da db do_ : DE} {pos : Pos} {t : TA} {d : DA} {p : Pos} {tt : TT} {dt : DT}

/-! ### targets -/
def dgName (i : Nat) : DG := fun x ρ μ Q => Q (ρ.set i (some x)) μ
def dgNil : DGs := fun xs ρ μ Q => xs = [] ∧ Q ρ μ
def dgCons (g : DG) (u : DGs) : DGs := fun xs ρ μ Q => match xs with
  | x :: r => g x ρ μ fun ρ' μ' => u r ρ' μ' Q
  | [] => False
def dgTup (n : Nat) (u : DGs) : DG := fun x ρ μ Q => match x with
  | .tup xs => xs.length = n ∧ u xs ρ μ Q
  | _ => False
theorem qg_name {i : Nat} {x : Str} (hN : X.N.Nodup) (hi : X.N[i]? = some x := by rfl) (hx : Loc X.env.scope x := by first | exact Or.inl rfl | exact Or.inr rfl) (hf : X.fn x = true ∨ X.env.scope.names.lookup x = some .local := by first | exact .inl rfl | exact .inr rfl) : QG X (.Name x pos) (gName i) (dgName i) :=
  ⟨pg_name hN hi hx hf, fun c ρ μ σ H v x Q P R S r h k => k c _ μ _ H (Ext.refl c) R (S.set i r) h⟩
theorem qgs_nil : QGs X [] gNil dgNil := by
  refine ⟨pgs_nil, fun c ρ μ σ H vs xs Q P R S r h k => ?_⟩
  obtain ⟨e, h⟩ := h
  subst e
  cases r
  exact ⟨rfl, k c ρ μ σ H (Ext.refl c) R S h⟩
theorem qgs_cons {tg : TG} {tgs : TGs} {dg : DG} {dgs : DGs} (h1 : QG X e tg dg) (h2 : QGs X es tgs dgs) (hs : (assignEach (e :: es) X.env).map (·.2) = assign e X.env :: (assignEach es X.env).map (·.2) := by rfl) : QGs X (e :: es) (gCons tg tgs) (dgCons dg dgs) := by
  refine ⟨pgs_cons h1.p h2.p hs, fun c ρ μ σ H vs xs Q P R S r h k => ?_⟩
  unfold dgCons at h
  split at h
  · cases r with
    | cons r1 r2 =>
      refine ⟨_, _, rfl, h1.s c ρ μ σ H _ _ _ _ R S r1 h fun c1 ρ1 μ1 σ1 H1 E1 R1 S1 q1 => ?_⟩
      exact h2.s c1 ρ1 μ1 σ1 H1 _ _ Q P R1 S1 (r2.up E1.toExt0) q1 fun c2 ρ2 μ2 σ2 H2 E2 => k c2 ρ2 μ2 σ2 H2 (E1.trans E2)
  · exact h.elim
theorem qg_tup {kk n : Nat} {tgs : TGs} {dgs : DGs} (hc : X.calm = true) (h : QGs X es tgs dgs) (hn : (assignEach es X.env).length = n := by rfl) (hst : (assignEach es X.env).findIdx? (·.1) = none := by rfl) : QG X (.Tuple es kk pos) (gTup X.K n tgs) (dgTup n dgs) := by
  refine ⟨pg_tup hc h.p hn hst, fun c ρ μ σ H v x Q P R S r hw k => ?_⟩
  unfold dgTup at hw
  split at hw
  · obtain ⟨a, vs, e1, t1, z1, r1⟩ := tup_at R r
    exact ⟨a, vs, e1, t1, by rw [r1.length]; exact hw.1, h.s c ρ μ σ H _ _ Q P R S r1 hw.2 k⟩
  · exact hw.elim
/-- o[i] = .. of a list that may change -/
def dgIx (do_ di : DE) : DG := fun x ρ μ Q => do_ ρ μ fun y μ1 => di ρ μ1 fun i μ2 => ∃ (k : Nat) (n : Int) (xs : List Vl) (j : Nat), y = .ref k ∧ i = .int n ∧ μ2[k]? = some (.lst xs) ∧ ixN xs.length n = some j ∧ Q ρ (μ2.set k (.lst (xs.set j x)))
theorem qg_ix {i : Expr} {ti : TE} {di : DE} (ho : QE X o to do_) (hi : QE X i ti di) (ha : ∀ v, assign (.Subscript o i pos) X.env v = (do
      let ov ← holding [v] (eval o X.env)
      let iv ← holding [v, ov] (eval i X.env)
      standAt pos
      holding [v, ov, iv] (setItem ov iv v)
      release [v, ov, iv] []) := by intro _; rfl) : QG X (.Subscript o i pos) (gSub to ti rSetL) (dgIx do_ di) := by
  refine ⟨pg_sub ho.p hi.p set_list ha, fun c ρ μ σ H v x Q P R S r h k => ?_⟩
  refine ho.s c ρ μ σ H _ _ R S h fun c1 y μ1 v1 H1 E1 R1 r1 q1 => ?_
  refine hi.s c1 ρ μ1 σ H1 _ _ R1 (S.up E1.toExt0) q1 fun c2 z μ2 v2 H2 E2 R2 r2 q2 => ?_
  obtain ⟨j, n, xs, m, e1, e2, hm, hj, q⟩ := q2
  subst e1; subst e2
  cases r2
  obtain ⟨ad, e3, hk, ws, e4, hz4, r4⟩ := ref_at R2 (r1.up E2.toExt0) hm
  subst e3
  have rx := r.up (E1.trans E2).toExt0
  refine ⟨ad, ws, n, m, rfl, rfl, e4, by rw [r4.length]; exact hj, ?_⟩
  exact k c2 ρ _ σ _ (E1.trans E2) (R2.write (m := .lst (xs.set m x)) hk ⟨_, rfl, by rw [List.length_set]; exact hz4, r4.set rx m⟩) (S.up (E1.trans E2).toExt0) q

/-! ### statements -/
variable {st : Stmt} {rest sts : List Stmt} {ts us : TS} {ds du : DS}
def dNext : DS := fun d ρ μ => d.nx ρ μ
def dSeq (x y : DS) : DS := fun d ρ μ => x { d with nx := fun ρ' μ' => y d ρ' μ' } ρ μ
theorem qss_nil : QSs X [] tNext dNext := ⟨pss_nil, fun c ρ μ σ H D d R S k h => k.nx c ρ μ σ H (Ext.refl c) R S h⟩
theorem qss_cons (h1 : QS X st ts ds) (h2 : QSs X rest us du) : QSs X (st :: rest) (tSeq ts us) (dSeq ds du) := by
  refine ⟨pss_cons h1.p h2.p, fun c ρ μ σ H D d R S k h => ?_⟩
  refine h1.s c ρ μ σ H _ _ R S ?_ h
  exact ⟨fun c' ρ' μ' σ' H' E R' S' q => h2.s c' ρ' μ' σ' H' D d R' S' (k.up E) q, k.rt, k.bk, k.ct⟩
theorem qss_one (h1 : QS X st ts ds) : QSs X [st] ts ds := ⟨pss_one h1.p, h1.s⟩
def dBreak : DS := fun d ρ μ => d.bk ρ μ
def dCont : DS := fun d ρ μ => d.ct ρ μ
theorem qs_pass : QS X (.Pass pos) tNext dNext := ⟨ps_pass, fun c ρ μ σ H D d R S k h => k.nx c ρ μ σ H (Ext.refl c) R S h⟩
theorem qs_break : QS X (.Break pos) tBreak dBreak := ⟨ps_break, fun c ρ μ σ H D d R S k h => k.bk c ρ μ σ H (Ext.refl c) R S h⟩
theorem qs_continue : QS X (.Continue pos) tCont dCont := ⟨ps_continue, fun c ρ μ σ H D d R S k h => k.ct c ρ μ σ H (Ext.refl c) R S h⟩
def dDrop (de : DE) : DS := fun d ρ μ => de ρ μ fun _ μ1 => d.nx ρ μ1
theorem qs_expr (he : QE X e te de) (hs : swapsWith e none pos.line X.env = pure false := by rfl) : QS X (.Expr e pos) (tDrop te) (dDrop de) := by
  refine ⟨ps_expr he.p hs, fun c ρ μ σ H D d R S k h => ?_⟩
  exact he.s c ρ μ σ H _ _ R S h fun c1 x μ1 v H1 E1 R1 r1 q1 => k.nx c1 ρ μ1 σ H1 E1 R1 (S.up E1.toExt0) q1
def dRet (de : DE) : DS := fun d ρ μ => de ρ μ d.rt
theorem qs_ret (he : QE X e te de) : QS X (.Return (some e) pos) (tRet te) (dRet de) := by
  refine ⟨ps_ret he.p, fun c ρ μ σ H D d R S k h => ?_⟩
  exact he.s c ρ μ σ H _ _ R S h fun c1 x μ1 v H1 E1 R1 r1 q1 => k.rt c1 x μ1 v H1 E1 R1 r1 q1
def dRetN : DS := fun d _ μ => d.rt .non μ
theorem qs_retN : QS X (.Return none pos) tRetN dRetN := ⟨ps_retN, fun c ρ μ σ H D d R S k h => k.rt c .non μ .non H (Ext.refl c) R .non h⟩
def dIf (dt : DT) (x y : DS) : DS := fun d ρ μ => dt ρ μ fun b μ1 => match b with
  | true => x d ρ μ1
  | false => y d ρ μ1
theorem qs_if {c : Expr} {x y : List Stmt} (hc : QT X c tt dt) (ha : QSs X x ts ds) (hb : QSs X y us du) : QS X (.If c x y pos) (tIfS tt ts us) (dIf dt ds du) := by
  refine ⟨ps_if hc.p ha.p hb.p, fun c ρ μ σ H D d R S k h => ?_⟩
  refine hc.s c ρ μ σ H _ _ R S h fun c1 z μ1 H1 E1 R1 q1 => ?_
  cases z with
  | true =>
    rw [if_pos rfl]
    exact ha.s c1 ρ μ1 σ H1 D d R1 (S.up E1.toExt0) (k.up E1) q1
  | false =>
    rw [if_neg Bool.false_ne_true]
    exact hb.s c1 ρ μ1 σ H1 D d R1 (S.up E1.toExt0) (k.up E1) q1
def dAsg (de : DE) (g : DG) : DS := fun d ρ μ => de ρ μ fun x μ1 => g x ρ μ1 d.nx
theorem sim_asg {K : PySem.W.Frag} {tg : TG} {dg : DG} (he : SimE K te de) (hg : SimG K tg dg) : SimS K (tAsg te tg) (dAsg de dg) := by
  intro c ρ μ σ H D d R S k h
  refine he c ρ μ σ H _ _ R S h fun c1 x μ1 v H1 E1 R1 r1 q1 => ?_
  exact hg c1 ρ μ1 σ H1 v x _ _ R1 (S.up E1.toExt0) r1 q1 fun c2 ρ2 μ2 σ2 H2 E2 R2 S2 q2 => k.nx c2 ρ2 μ2 σ2 H2 (E1.trans E2) R2 S2 q2
theorem qs_asg {tgt : Expr} {tg : TG} {dg : DG} (he : QE X e te de) (hg : QG X tgt tg dg) (hs : swapsWithSole [tgt] e pos.line X.env = pure false := by rfl) (hw : swappedStores [tgt] e X.env = pure none := by rfl) (h1 : (assignEach [tgt] X.env).map (·.2) = [assign tgt X.env] := by rfl) :
    QS X (.Assign [tgt] e pos) (tAsg te tg) (dAsg de dg) := ⟨ps_asg he.p hg.p hs hw h1, sim_asg he.s hg.s⟩
theorem qs_set (i : Nat) {x : Str} {pos' : Pos} (hN : X.N.Nodup) (he : QE X e te de) (hi : X.N[i]? = some x := by rfl) (hx : Loc X.env.scope x := by first | exact Or.inl rfl | exact Or.inr rfl) (hs : swapsWith e (some (.Name x pos')) pos.line X.env = pure false := by rfl)
    (hf : X.fn x = true ∨ X.env.scope.names.lookup x = some .local := by first | exact .inl rfl | exact .inr rfl) : QS X (.Assign [.Name x pos'] e pos) (tAsg te (gName i)) (dAsg de (dgName i)) :=
  ⟨ps_set hN hi hx he.p hs hf, sim_asg he.s (qg_name (X := X) (pos := pos) hN hi hx hf).s⟩
/-- a, b = x, y with plain local names -/
def dPar (i j : Nat) (d : DA) : DS := fun D ρ μ => d ρ μ fun xs μ1 => match xs with
  | [x, y] => D.nx ((ρ.set i (some x)).set j (some y)) μ1
  | _ => False
theorem qs_par (i j : Nat) {x y : Str} {px py pt : Pos} {kt k2 pt2} (hc : X.calm = true) (hN : X.N.Nodup) (ha : QA X [a, b] t d) (hi : X.N[i]? = some x := by rfl) (hj : X.N[j]? = some y := by rfl) (hij : i ≠ j := by decide)
    (hx : X.env.scope.names.lookup x = some .local := by rfl) (hy : X.env.scope.names.lookup y = some .local := by rfl) (hw : swappedStores [.Tuple [.Name x px, .Name y py] kt pt] (.Tuple [a, b] k2 pt2) X.env = pure (some [x, y]) := by rfl)
    (hs : swapsWithSole [.Tuple [.Name x px, .Name y py] kt pt] (.Tuple [a, b] k2 pt2) pos.line X.env = pure false := by rfl) : QS X (.Assign [.Tuple [.Name x px, .Name y py] kt pt] (.Tuple [a, b] k2 pt2) pos) (tPar i j t) (dPar i j d) := by
  refine ⟨ps_par hc hN hi hj hij hx hy ha.p hw hs, fun c ρ μ σ H D d R S k h => ?_⟩
  refine ha.s c ρ μ σ H _ _ R S h fun c1 xs μ1 vs H1 E1 R1 r1 q1 => ?_
  split at q1
  · cases r1 with
    | cons r1 r2 =>
      obtain ⟨v, e, r3⟩ := reps1 r2
      subst e
      exact ⟨_, _, rfl, k.nx c1 _ μ1 _ H1 E1 R1 (((S.up E1.toExt0).set i r1).set j r3) q1⟩
  · exact q1.elim

/-! ### loops -/
def forD (G : Mu → Prop) (g : DG) (body : DS) (d : DEnds) : List Vl → Rho → Mu → Prop
  | [], ρ, μ => G μ ∧ d.nx ρ μ
  | x :: r, ρ, μ => G μ ∧ g x ρ μ fun ρ2 μ2 => body { d with nx := forD G g body d r, ct := forD G g body d r, bk := d.nx } ρ2 μ2
def dFor (di : DI) (g : DG) (body : DS) : DS := fun d ρ μ => di ρ μ fun xs G μ1 => forD G g body d xs ρ μ1
theorem qs_for {tgt iter : Expr} {wi : TI} {di : DI} {tg : TG} {dg : DG} (hp : PassesOwn (model X.prog X.w) X.A X.env X.xe) (hc : X.calm = true) (hi : QI X tgt iter wi di) (hg : QG X tgt tg dg) (hb : QSs X sts ts ds)
    (hs : ∀ x, foldedSetIterable iter X.env x = pure x := by intro _; rfl) : QS X (.For tgt iter sts [] pos) (tFor wi tg ts) (dFor di dg ds) := by
  refine ⟨ps_for hp hc hi.p hg.p hb.p hs, fun c ρ μ σ H D d R S k h => ?_⟩
  refine hi.s c ρ μ σ H _ _ R S h fun c1 xs G μ1 J H1 E1 R1 hz wd q1 => ?_
  obtain ⟨Gh, Y, wk, hG, hY⟩ := wd
  have here : ∀ (i : Nat), (fun (σ : L2.St) (H : Hp) => ∃ c2 ρ2 μ2, Ext c1 c2 ∧ RM X.K c2 μ2 H ∧ RS X.K c2 ρ2 σ ∧ forD G dg ds d (xs.drop i) ρ2 μ2) = fun (σ : L2.St) (H : Hp) => ∃ c2 ρ2 μ2, Ext c1 c2 ∧ RM X.K c2 μ2 H ∧ RS X.K c2 ρ2 σ ∧ forD G dg ds d (xs.drop i) ρ2 μ2 := fun _ => rfl
  refine for_it wk (fun i σ H => ∃ c2 ρ2 μ2, Ext c1 c2 ∧ RM X.K c2 μ2 H ∧ RS X.K c2 ρ2 σ ∧ forD G dg ds d (xs.drop i) ρ2 μ2) ⟨c1, ρ, μ1, Ext.refl c1, R1, S.up E1.toExt0, q1⟩ (fun i σ H hi pv => ?_) (fun i v σ H H' hi pv y => ?_) fun σ H pv => ?_
  · obtain ⟨c2, ρ2, μ2, E2, R2, S2, q2⟩ := pv
    refine hG c2 μ2 H E2.toExt0 R2 ?_
    cases hx : xs.drop i with
    | nil => rw [hx] at q2; exact q2.1
    | cons z r => rw [hx] at q2; exact q2.1
  · obtain ⟨c2, ρ2, μ2, E2, R2, S2, q2⟩ := pv
    rw [List.drop_eq_getElem_cons hi] at q2
    obtain ⟨g, q2⟩ := q2
    obtain ⟨c3, x, E3, R3, e3, r3⟩ := hY i H v H' c2 μ2 hi E2.toExt0 R2 g y
    rw [List.getElem?_eq_getElem hi] at e3
    have e3 := Option.some.inj e3
    subst e3
    refine hg.s c3 ρ2 μ2 σ H' v _ _ _ R3 (S2.up E3.toExt0) r3 q2 fun c4 ρ4 μ4 σ4 H4 E4 R4 S4 q4 => ?_
    have E14 := (E2.trans E3).trans E4
    refine hb.s c4 ρ4 μ4 σ4 H4 _ _ R4 S4 ?_ q4
    refine ⟨fun c5 ρ5 μ5 σ5 H5 E5 R5 S5 q5 => ⟨c5, ρ5, μ5, E14.trans E5, R5, S5, q5⟩, fun c5 x5 μ5 v5 H5 E5 R5 r5 q5 => k.rt c5 x5 μ5 v5 H5 ((E1.trans E14).trans E5) R5 r5 q5, fun c5 ρ5 μ5 σ5 H5 E5 R5 S5 q5 => k.nx c5 ρ5 μ5 σ5 H5 ((E1.trans E14).trans E5) R5 S5 q5, fun c5 ρ5 μ5 σ5 H5 E5 R5 S5 q5 => ⟨c5, ρ5, μ5, E14.trans E5, R5, S5, q5⟩⟩
  · obtain ⟨c2, ρ2, μ2, E2, R2, S2, q2⟩ := pv
    rw [List.drop_length] at q2
    exact k.nx c2 ρ2 μ2 σ H (E1.trans E2) R2 S2 q2.2
def dWhile (dt : DT) (body : DS) : DS := fun d ρ μ => ∃ W : Nat → Rho → Mu → Prop, (∃ m, W m ρ μ) ∧ ∀ m ρ μ, W m ρ μ → dt ρ μ fun b μ1 => match b with
  | true => body { d with nx := fun ρ' μ' => ∃ m', m' < m ∧ W m' ρ' μ', ct := fun ρ' μ' => ∃ m', m' < m ∧ W m' ρ' μ', bk := d.nx } ρ μ1
  | false => d.nx ρ μ1
theorem qs_while {c : Expr} (hp : PassesOwn (model X.prog X.w) X.A X.env X.xe) (hc : QT X c tt dt) (hb : QSs X sts ts ds) : QS X (.While c sts [] pos) (tWhile tt ts) (dWhile dt ds) := by
  refine ⟨ps_while hp hc.p hb.p, fun c ρ μ σ H D d R S k h => ?_⟩
  obtain ⟨W, ⟨m0, w0⟩, turn⟩ := h
  refine ⟨fun m σ H => ∃ c2 ρ2 μ2, Ext c c2 ∧ RM X.K c2 μ2 H ∧ RS X.K c2 ρ2 σ ∧ W m ρ2 μ2, ⟨m0, c, ρ, μ, Ext.refl c, R, S, w0⟩, fun m σ1 H1 pv => ?_⟩
  obtain ⟨c2, ρ2, μ2, E2, R2, S2, w2⟩ := pv
  refine hc.s c2 ρ2 μ2 σ1 H1 _ _ R2 S2 (turn m ρ2 μ2 w2) fun c3 z μ3 H3 E3 R3 q3 => ?_
  have E13 := E2.trans E3
  cases z with
  | true =>
    rw [if_pos rfl]
    refine ⟨fun σ H => ∃ m', m' < m ∧ ∃ c2 ρ2 μ2, Ext c c2 ∧ RM X.K c2 μ2 H ∧ RS X.K c2 ρ2 σ ∧ W m' ρ2 μ2, fun σ' H' n => n, ?_⟩
    refine hb.s c3 ρ2 μ3 σ1 H3 _ _ R3 (S2.up E3.toExt0) ?_ q3
    exact ⟨fun c5 ρ5 μ5 σ5 H5 E5 R5 S5 ⟨m', hm, q5⟩ => ⟨m', hm, c5, ρ5, μ5, E13.trans E5, R5, S5, q5⟩, fun c5 x5 μ5 v5 H5 E5 R5 r5 q5 => k.rt c5 x5 μ5 v5 H5 (E13.trans E5) R5 r5 q5,
      fun c5 ρ5 μ5 σ5 H5 E5 R5 S5 q5 => k.nx c5 ρ5 μ5 σ5 H5 (E13.trans E5) R5 S5 q5, fun c5 ρ5 μ5 σ5 H5 E5 R5 S5 ⟨m', hm, q5⟩ => ⟨m', hm, c5, ρ5, μ5, E13.trans E5, R5, S5, q5⟩⟩
  | false =>
    rw [if_neg Bool.false_ne_true]
    exact k.nx c3 ρ2 μ3 σ1 H3 E13 R3 (S2.up E3.toExt0) q3

/-! ### comprehensions -/
def wipeD (ρ : Rho) : List Nat → Rho
  | [] => ρ
  | v :: vs => (wipeD ρ vs).set v none
theorem RS.none {K : PySem.W.Frag} {c : Cf} {ρ : Rho} {σ : L2.St} (h : RS K c ρ σ) (i : Nat) : RS K c (ρ.set i none) (σ.set i none) := by
  refine ⟨by rw [List.length_set, List.length_set]; exact h.len, fun j y e => ?_⟩
  by_cases hj : i = j
  · subst hj
    by_cases hl : i < ρ.length
    · rw [List.getElem?_set_self hl] at e
      cases e
    · rw [List.getElem?_eq_none (by rw [List.length_set]; omega)] at e
      cases e
  · rw [List.getElem?_set_ne hj] at e
    rw [List.getElem?_set_ne hj]
    exact h.get j y e
theorem RS.wipe {K : PySem.W.Frag} {c : Cf} {ρ : Rho} {σ : L2.St} (h : RS K c ρ σ) : ∀ vs : List Nat, RS K c (wipeD ρ vs) (L2.wipe σ vs)
  | [] => h
  | v :: vs => (RS.wipe h vs).none v
/-- the items made of those that are left; what ends with acc -/
def lcD (G : Mu → Prop) (g : DG) (dt : DT) (de : DE) (ρ : Rho) (Q : List Vl → Mu → Prop) : List Vl → List Vl → Mu → Prop
  | [], acc, μ => G μ ∧ Q acc μ
  | x :: r, acc, μ => G μ ∧ g x ρ μ fun ρ2 μ2 => dt ρ2 μ2 fun b μ3 => match b with
    | true => de ρ2 μ3 fun y μ4 => lcD G g dt de ρ Q r (acc ++ [y]) μ4
    | false => lcD G g dt de ρ Q r acc μ3
def dLc (di : DI) (g : DG) (dt : DT) (de : DE) (vs : List Nat) : DE := fun ρ μ Q => di ρ μ fun xs G μ1 => lcD G g dt de (wipeD ρ vs) (fun acc μ2 => newL acc μ2 Q) xs [] μ1
/-- a target changes the slots at vs alone -/
def InSlots (tg : TG) (vs : List Nat) : Prop := ∀ (v : V) (σ : L2.St) (H : Hp) (P P' : L2.St → Hp → Prop), (∀ σ2 H2, L2.wipe σ2 vs = L2.wipe σ vs → P σ2 H2 → P' σ2 H2) → tg v σ H P → tg v σ H P'
def InSlotss (tg : TGs) (vs : List Nat) : Prop := ∀ (ws : List V) (σ : L2.St) (H : Hp) (P P' : L2.St → Hp → Prop), (∀ σ2 H2, L2.wipe σ2 vs = L2.wipe σ vs → P σ2 H2 → P' σ2 H2) → tg ws σ H P → tg ws σ H P'
theorem wipe_get (σ : L2.St) (k : Nat) : ∀ vs : List Nat, (L2.wipe σ vs)[k]? = if k ∈ vs then (σ[k]?).map (fun _ => none) else σ[k]?
  | [] => by simp [L2.wipe]
  | v :: vs => by
    unfold L2.wipe
    have ih := wipe_get σ k vs
    have hl := wipe_length σ vs
    by_cases hv : v = k
    · subst hv
      rw [if_pos List.mem_cons_self]
      by_cases hk : v < σ.length
      · rw [List.getElem?_set_self (by rw [hl]; exact hk), List.getElem?_eq_getElem hk]
        rfl
      · rw [List.getElem?_eq_none (by rw [List.length_set, hl]; omega), List.getElem?_eq_none (by omega)]
        rfl
    · rw [List.getElem?_set_ne hv, ih]
      by_cases hm : k ∈ vs
      · rw [if_pos hm, if_pos (List.mem_cons_of_mem _ hm)]
      · rw [if_neg hm, if_neg (by simp only [List.mem_cons, not_or]; exact ⟨fun e => hv e.symm, hm⟩)]
theorem wipe_set {σ : L2.St} {i : Nat} {x : Option V} {vs : List Nat} (h : i ∈ vs) : L2.wipe (σ.set i x) vs = L2.wipe σ vs := by
  apply List.ext_getElem?
  intro k
  rw [wipe_get, wipe_get]
  by_cases hk : k ∈ vs
  · rw [if_pos hk, if_pos hk]
    by_cases hi : i = k
    · subst hi
      by_cases hl : i < σ.length
      · rw [List.getElem?_set_self hl, List.getElem?_eq_getElem hl]; rfl
      · rw [List.getElem?_eq_none (by rw [List.length_set]; omega), List.getElem?_eq_none (by omega)]
    · rw [List.getElem?_set_ne hi]
  · rw [if_neg hk, if_neg hk, List.getElem?_set_ne (fun (e : i = k) => hk (by rw [← e]; exact h))]
theorem wipe_wipe {σ : L2.St} {vs : List Nat} : L2.wipe (L2.wipe σ vs) vs = L2.wipe σ vs := by
  apply List.ext_getElem?
  intro k
  rw [wipe_get, wipe_get]
  by_cases hk : k ∈ vs
  · rw [if_pos hk, if_pos hk]
    cases σ[k]? <;> rfl
  · rw [if_neg hk, if_neg hk]
theorem is_name {i : Nat} {vs : List Nat} (h : i ∈ vs) : InSlots (gName i) vs := fun _ _ _ _ _ k q => k _ _ (wipe_set h) q
theorem is_nil {vs : List Nat} : InSlotss gNil vs := fun _ _ _ _ _ k q => ⟨q.1, k _ _ rfl q.2⟩
theorem is_cons {tg : TG} {tgs : TGs} {vs : List Nat} (h1 : InSlots tg vs) (h2 : InSlotss tgs vs) : InSlotss (gCons tg tgs) vs := fun ws σ H P P' k q => by
  obtain ⟨v, r, e, q⟩ := q
  refine ⟨v, r, e, h1 v σ H _ _ (fun σ1 H1 e1 q1 => ?_) q⟩
  exact h2 r σ1 H1 P P' (fun σ2 H2 e2 q2 => k σ2 H2 (e2.trans e1) q2) q1
theorem is_tup {K : PySem.W.Frag} {n : Nat} {tgs : TGs} {vs : List Nat} (h : InSlotss tgs vs) : InSlots (gTup K n tgs) vs := fun v σ H P P' k q => by
  obtain ⟨a, xs, e1, e2, e3, q⟩ := q
  exact ⟨a, xs, e1, e2, e3, h xs σ H P P' k q⟩
def dYes : DT := fun _ μ Q => Q true μ
theorem qts_nil : QTs X [] tYes dYes := ⟨pts_nil, fun c ρ μ σ H Q P R S h k => k c true μ H (Ext.refl c) R h⟩
theorem qts_one (h : QT X e tt dt) : QTs X [e] tt dt := ⟨pts_one h.p, h.s⟩
theorem sim_lc {K : PySem.W.Frag} {wi : TI} {di : DI} {tg : TG} {dg : DG} {vs : List Nat} (hi : SimI K wi di) (hg : SimG K tg dg) (hw : InSlots tg vs) (ht : SimT K tt dt) (he : SimE K te de) : SimE K (tLc wi tg tt te vs) (dLc di dg dt de vs) := by
  intro c ρ μ σ H Q P R S h k
  refine hi c ρ μ σ H _ _ R S h fun c1 xs G μ1 J H1 E1 R1 hz wd q1 => ?_
  obtain ⟨Gh, Y, wk, hG, hY⟩ := wd
  intro D hD
  have hF : c1.Fr D = none := R1.fsb.free hD
  have Sw : RS K c1 (wipeD ρ vs) (L2.wipe σ vs) := (S.up E1.toExt0).wipe vs
  refine lc_it wk (fun i H => ∃ c2 μ2 acc ws, Ext0 c1 c2 ∧ c2.Fr = upd c1.Fr D (.lst ws) ∧ RM K c2 μ2 H ∧ Reps K c2 ws acc ∧ acc.length ≤ i ∧ lcD G dg dt de (wipeD ρ vs) (fun acc μ2 => newL acc μ2 Q) (xs.drop i) acc μ2) ⟨⟨c1.al, c1.Hd, upd c1.Fr D (.lst [])⟩, μ1, [], [], ⟨fun _ _ z => z, Same.refl _⟩, rfl, R1.aside hD, .nil, Nat.le_refl _, q1⟩ (fun i H2 hi pv => ?_) (fun i v H2 H3 hi pv y => ?_) fun H2 pv => ?_
  · obtain ⟨c2, μ2, acc, ws, E2, f2, R2, r2, l2, q2⟩ := pv
    refine hG c2 μ2 H2 E2 R2 ?_
    cases hx : xs.drop i with
    | nil => rw [hx] at q2; exact q2.1
    | cons z r => rw [hx] at q2; exact q2.1
  · obtain ⟨c2, μ2, acc, ws, E2, f2, R2, r2, l2, q2⟩ := pv
    rw [List.drop_eq_getElem_cons hi] at q2
    obtain ⟨g, q2⟩ := q2
    obtain ⟨c3, x, E3, R3, e3, r3⟩ := hY i H2 v H3 c2 μ2 hi E2 R2 g y
    rw [List.getElem?_eq_getElem hi] at e3
    have e3 := Option.some.inj e3
    subst e3
    refine hw v (L2.wipe σ vs) H3 (fun σ2 H2 => tt σ2 H2 fun b H3 => if b = true then te σ2 H3 fun y H4 => ∃ acc, H4 D = some (.lst acc) ∧ acc.length < sizeLine ∧ _ else _) _ (fun σ4 H4 e4 q4 => ⟨e4.trans wipe_wipe, q4⟩) ?_
    refine hg c3 (wipeD ρ vs) μ2 (L2.wipe σ vs) H3 v _ _ _ R3 ((Sw.up E2).up E3.toExt0) r3 q2 fun c4 ρ4 μ4 σ4 H4 E4 R4 S4 q4 => ?_
    refine ht c4 ρ4 μ4 σ4 H4 _ _ R4 S4 q4 fun c5 b μ5 H5 E5 R5 q5 => ?_
    have E25 := (E3.trans E4).trans E5
    cases b with
    | true =>
      rw [if_pos rfl]
      refine he c5 ρ4 μ5 σ4 H5 _ _ R5 (S4.up E5.toExt0) q5 fun c6 z μ6 u H6 E6 R6 r6 q6 => ?_
      have E26 := E25.trans E6
      have f6 : c6.Fr = upd c1.Fr D (.lst ws) := E26.fr.trans f2
      have hD6 : c6.Fr D = some (.lst ws) := by rw [f6]; exact upd_same
      have la : acc.length = ws.length := r2.length.symm
      refine ⟨ws, R6.fsb _ _ hD6, by omega, ⟨c6.al, c6.Hd, upd c6.Fr D (.lst (ws ++ [u]))⟩, μ6, acc ++ [z], ws ++ [u], ?_, ?_, R6.asideW hD6, ?_, ?_, q6⟩
      · exact ⟨(E2.trans E26.toExt0).al, (E2.trans E26.toExt0).hd⟩
      · show upd c6.Fr D _ = _
        rw [f6, upd_upd]
      · have E0 : Ext0 c6 ⟨c6.al, c6.Hd, upd c6.Fr D (.lst (ws ++ [u]))⟩ := ⟨fun _ _ z => z, Same.refl _⟩
        exact ((r2.up E26.toExt0).append (.one r6)).up E0
      · rw [List.length_append]
        show acc.length + 1 ≤ i + 1
        omega
    | false =>
      rw [if_neg Bool.false_ne_true]
      exact ⟨c5, μ5, acc, ws, E2.trans E25.toExt0, E25.fr.trans f2, R5, r2.up E25.toExt0, by omega, q5⟩
  · obtain ⟨c2, μ2, acc, ws, E2, f2, R2, r2, l2, q2⟩ := pv
    rw [List.drop_length] at q2
    obtain ⟨g, q2⟩ := q2
    have hD2 : c2.Fr D = some (.lst ws) := by rw [f2]; exact upd_same
    have hF2 : ∀ b u, c1.Fr b = some u → c2.Fr b = some u := fun b u e => by
      rw [f2, upd_ne (ne_of_none e hF)]; exact e
    have lacc : acc.length ≤ sizeLine := by omega
    rcases q2 with q2 | q2
    · obtain ⟨R9, E9⟩ := R2.asideStill hD2 hF hF2
      refine k _ _ _ _ _ ⟨(E1.toExt0.trans E2).trans E9, E1.fr⟩ R9 (.lst ?_ lacc (r2.up E9)) q2
      show upd c2.Hd D _ D = _
      exact upd_same
    · have E9 : Ext0 c2 ⟨c2.al ++ [D], c2.Hd, c1.Fr⟩ := ⟨fun k a h => by
        show (c2.al ++ [D])[k]? = some a
        rw [List.getElem?_append_left (List.getElem?_eq_some_iff.mp h).1]; exact h, Same.refl _⟩
      obtain ⟨R9, _⟩ := R2.asideFresh (m := .lst acc) hD2 hF hF2 ⟨ws, rfl, lacc, r2.up E9⟩
      refine k _ _ _ _ _ ⟨(E1.toExt0.trans E2).trans E9, E1.fr⟩ R9 (.ref ?_) q2
      show (c2.al ++ [D])[μ2.length]? = some D
      rw [← R2.len]; simp
/-- the readings that data have by themselves -/
def canE (K : PySem.W.Frag) (de : DE) : TE := fun σ H P => ∃ c ρ μ Q, RM K c μ H ∧ RS K c ρ σ ∧ de ρ μ Q ∧ ∀ c' x μ' v H', Ext c c' → RM K c' μ' H' → Rep K c' v x → Q x μ' → P v H'
def canT (K : PySem.W.Frag) (dt : DT) : TT := fun σ H P => ∃ c ρ μ Q, RM K c μ H ∧ RS K c ρ σ ∧ dt ρ μ Q ∧ ∀ c' b μ' H', Ext c c' → RM K c' μ' H' → Q b μ' → P b H'
def canG (K : PySem.W.Frag) (dg : DG) (vs : List Nat) : TG := fun v σ H P => ∃ c ρ μ x Q, RM K c μ H ∧ RS K c ρ σ ∧ Rep K c v x ∧ dg x ρ μ Q ∧ ∀ c' ρ' μ' σ' H', L2.wipe σ' vs = L2.wipe σ vs → Ext c c' → RM K c' μ' H' → RS K c' ρ' σ' → Q ρ' μ' → P σ' H'
theorem can_e {K : PySem.W.Frag} : SimE K (canE K de) de := fun c ρ μ σ H Q P R S h k => ⟨c, ρ, μ, Q, R, S, h, k⟩
theorem can_t {K : PySem.W.Frag} : SimT K (canT K dt) dt := fun c ρ μ σ H Q P R S h k => ⟨c, ρ, μ, Q, R, S, h, k⟩
theorem can_g {K : PySem.W.Frag} {dg : DG} {vs : List Nat} : SimG K (canG K dg vs) dg := fun c ρ μ σ H v x Q P R S r h k => ⟨c, ρ, μ, x, Q, R, S, r, h, fun c' ρ' μ' σ' H' _ => k c' ρ' μ' σ' H'⟩
theorem can_is {K : PySem.W.Frag} {dg : DG} {vs : List Nat} : InSlots (canG K dg vs) vs := fun v σ H P P' k ⟨c, ρ, μ, x, Q, R, S, r, h, q⟩ => ⟨c, ρ, μ, x, Q, R, S, r, h, fun c' ρ' μ' σ' H' e E' R' S' z => k σ' H' e (q c' ρ' μ' σ' H' e E' R' S' z)⟩
theorem pe_can (h : ∃ te, QE X e te de) : PE X e (canE X.K de) := by
  obtain ⟨te, h⟩ := h
  exact ⟨fun pins s σ H P I ⟨c, ρ, μ, Q, R, S, q, k⟩ => h.p.run pins s σ H P I (h.s c ρ μ σ H Q P R S q k)⟩
theorem pts_can {ifs : List Expr} (h : ∃ tt, QTs X ifs tt dt) : PTs X ifs (canT X.K dt) := by
  obtain ⟨tt, h⟩ := h
  exact ⟨fun pins s σ H P I ⟨c, ρ, μ, Q, R, S, q, k⟩ => h.p.run pins s σ H P I (h.s c ρ μ σ H Q P R S q k)⟩
theorem pg_can {tgt : Expr} {dg : DG} {vs : List Nat} (h : ∃ tg, QG X tgt tg dg ∧ InSlots tg vs) : PG X tgt (canG X.K dg vs) := by
  obtain ⟨tg, h, hw⟩ := h
  refine ⟨fun pins s σ H v u P I rv ⟨c, ρ, μ, x, Q, R, S, r, q, k⟩ => h.p.run pins s σ H v u P I rv ?_⟩
  exact hw v σ H (fun σ' H' => ∃ c' ρ' μ', Ext c c' ∧ RM X.K c' μ' H' ∧ RS X.K c' ρ' σ' ∧ Q ρ' μ') P (fun σ2 H2 e2 ⟨c', ρ', μ', E', R', S', q'⟩ => k c' ρ' μ' σ2 H2 e2 E' R' S' q') (h.s c ρ μ σ H v x Q _ R S r q fun c' ρ' μ' σ' H' E' R' S' q' => ⟨c', ρ', μ', E', R', S', q'⟩)
variable {elt tgt iter : Expr} {ifs : List Expr} {scope : Scope} {own : List (Str × Nat)} {wi : TI} {di : DI} {dg : DG}
theorem q_lc (own : List (Str × Nat)) (hc : X.calm = true) (hN : X.N.Nodup) (hi : QI X tgt iter wi di) (ok : BlkOk X.N X.env.scope scope own)
    (hg : ∀ (s : Shared) (H : Hp) (C : Addr) (cl : List (Str × Addr)) (fp : List Addr), ∃ tg, QG (X.blk s H scope (compEnvC scope cl C X.env) fp) tgt tg dg ∧ InSlots tg (own.map (·.2)))
    (ht : ∀ (s : Shared) (H : Hp) (C : Addr) (cl : List (Str × Addr)) (fp : List Addr), ∃ tt, QTs (X.blk s H scope (compEnvC scope cl C X.env) fp) ifs tt dt)
    (he : ∀ (s : Shared) (H : Hp) (C : Addr) (cl : List (Str × Addr)) (fp : List Addr), ∃ te, QE (X.blk s H scope (compEnvC scope cl C X.env) fp) elt te de) (hs : ∀ x, foldedSetIterable iter X.env x = pure x := by intro _; rfl) :
    QE X (.ListComp elt [⟨tgt, iter, ifs, 0⟩] scope pos) (tLc wi (canG X.K dg (own.map (·.2))) (canT X.K dt) (canE X.K de) (own.map (·.2))) (dLc di dg dt de (own.map (·.2))) :=
  ⟨pe_lc hc hN hi.p ok (fun s H C cl fp => pg_can (hg s H C cl fp)) (fun s H C cl fp => pts_can (ht s H C cl fp)) (fun s H C cl fp => pe_can (he s H C cl fp)) hs, sim_lc hi.s can_g can_is can_t can_e⟩
theorem qs_setLc (i : Nat) {y : Str} {py spos : Pos} (own : List (Str × Nat)) (hc : X.calm = true) (hN : X.N.Nodup) (hi : QI X tgt iter wi di) (ok : BlkOk X.N X.env.scope scope own)
    (hg : ∀ (s : Shared) (H : Hp) (C : Addr) (cl : List (Str × Addr)) (fp : List Addr), ∃ tg, QG (X.blk s H scope (compEnvC scope cl C X.env) fp) tgt tg dg ∧ InSlots tg (own.map (·.2)))
    (ht : ∀ (s : Shared) (H : Hp) (C : Addr) (cl : List (Str × Addr)) (fp : List Addr), ∃ tt, QTs (X.blk s H scope (compEnvC scope cl C X.env) fp) ifs tt dt)
    (he : ∀ (s : Shared) (H : Hp) (C : Addr) (cl : List (Str × Addr)) (fp : List Addr), ∃ te, QE (X.blk s H scope (compEnvC scope cl C X.env) fp) elt te de) (hy : X.N[i]? = some y := by rfl) (hyl : X.env.scope.names.lookup y = some .local := by rfl)
    (hsw : swapsWith (.ListComp elt [⟨tgt, iter, ifs, 0⟩] scope pos) (some (.Name y py)) spos.line X.env = pure true := by exact sw_true rfl rfl rfl (by decide +kernel)) (hs : ∀ x, foldedSetIterable iter X.env x = pure x := by intro _; rfl) :
    QS X (.Assign [.Name y py] (.ListComp elt [⟨tgt, iter, ifs, 0⟩] scope pos) spos) (tAsg (tLc wi (canG X.K dg (own.map (·.2))) (canT X.K dt) (canE X.K de) (own.map (·.2))) (gName i)) (dAsg (dLc di dg dt de (own.map (·.2))) (dgName i)) := by
  refine ⟨ps_setLc hc hN hy hyl hsw hi.p ok (fun s H C cl fp => pg_can (hg s H C cl fp)) (fun s H C cl fp => pts_can (ht s H C cl fp)) (fun s H C cl fp => pe_can (he s H C cl fp)) hs, sim_asg (sim_lc hi.s can_g can_is can_t can_e) ?_⟩
  exact fun c ρ μ σ H v x Q P R S r h k => k c _ μ _ H (Ext.refl c) R (S.set i r) h
def dNotV (da : DE) : DE := fun ρ μ Q => da ρ μ fun x μ1 => match x with
  | .bl b => Q (.bl (!b)) μ1
  | _ => False
theorem q_not (ha : QE X a ta da) : QE X (.UnaryOp .Not a pos) (tNotV ta) (dNotV da) := by
  refine ⟨pe_not ha.p, fun c ρ μ σ H Q P R S h k => ?_⟩
  refine ha.s c ρ μ σ H _ _ R S h fun c1 x μ1 v H1 E1 R1 r1 q1 => ?_
  split at q1
  · cases r1
    exact ⟨_, rfl, k c1 _ μ1 _ H1 E1 R1 (.bl _) q1⟩
  · exact q1.elim
abbrev dFdiv : D2 := dI (fun _ j => j ≠ 0 ∧ j.natAbs.log2 < 9000) fun i j => .int (i.fdiv j)
abbrev dMod : D2 := dI (fun _ j => j ≠ 0) fun i j => .int (i.fmod j)
abbrev dPow : D2 := dI CPow fun i j => .int (i ^ j.toNat)
end
end DL

/-! DLe: defs and their calls; the law's end. -/
namespace DL
open PySem PySem.Spec L2 StX PyProof.Rows

/-- a def's contract over data: arguments, objects, what is wanted -/
abbrev Ct := List Vl → Mu → DK → Prop
def spOf (K : PySem.W.Frag) (C : Ct) (vs : List V) (H : Hp) (Q : VK) : Prop := ∃ c xs μ Q0, RM K c μ H ∧ Reps K c vs xs ∧ C xs μ Q0 ∧ ∀ c' x μ' v H', Ext c c' → RM K c' μ' H' → Rep K c' v x → Q0 x μ' → Q v H'
/-- where a call stands -/
structure Amb (P : Program) (A : Around) (base : Heap) : Prop where
  guards : A.guards = some []
  seer : base.NoSeer
  tree : P.given.tree = none
structure FnG (P : Program) (w : World) (K : PySem.W.Frag) (mg : Str → Option Value) (base : Heap) (k : Nat) (f : Addr) (fd : FuncData) (ps : List Str) (C : Ct) : Prop where
  len : ∀ xs μ Q, C xs μ Q → xs.length = ps.length
  run : ∀ (A : Around) (outer : List Env) (s : Shared) (H : Hp) (args : Args) (us : List Value) (vs : List V) (Q : VK), Amb P A base → Room k A → Env0 P w K mg base A outer s H → BindsTo s fd args (ps.zip us) → Vals vs us → spOf K C vs H Q →
    codeAny (model P w) A (.call (.ref f) args) (CR CX0 outer P w H s Q E0) s
theorem FnG.mono {P : Program} {w : World} {K : PySem.W.Frag} {mg : Str → Option Value} {base : Heap} {j k : Nat} {f : Addr} {fd : FuncData} {ps : List Str} {C : Ct} (F : FnG P w K mg base j f fd ps C) (h : j ≤ k) : FnG P w K mg base k f fd ps C :=
  ⟨F.len, fun A outer s H args us vs Q a hr => F.run A outer s H args us vs Q a (hr.mono h)⟩
theorem FnG.imp {P : Program} {w : World} {K : PySem.W.Frag} {mg : Str → Option Value} {base : Heap} {k : Nat} {f : Addr} {fd : FuncData} {ps : List Str} {C C' : Ct} (F : FnG P w K mg base k f fd ps C) (h : ∀ xs μ Q, C' xs μ Q → C xs μ Q) : FnG P w K mg base k f fd ps C' :=
  ⟨fun xs μ Q q => F.len xs μ Q (h _ _ _ q), fun A outer s H args us vs Q a hr e0 hb hv hs => F.run A outer s H args us vs Q a hr e0 hb hv (let ⟨c, xs, μ, Q0, r1, r2, r3, r4⟩ := hs; ⟨c, xs, μ, Q0, r1, r2, h _ _ _ r3, r4⟩)⟩
/-- where a body stands -/
structure AmbX (P : Program) (A : Around) (base : Heap) : Prop extends Amb P A base where
  frames : ∃ env l, A.frames = some (env :: l) ∧ env.scope.isGenerator = false ∧ env.scope.isCoroutine = false ∧ env.builtins = builtinsNs ∧ env.globals = mainGlobals

/-! ### a def of the text -/
def startD (N : List Str) (xs : List Vl) : Rho := xs.map some ++ List.replicate (N.length - xs.length) none
theorem start_rs {K : PySem.W.Frag} {c : Cf} {N : List Str} {vs : List V} {xs : List Vl} (r : Reps K c vs xs) : RS K c (startD N xs) (start N vs) := by
  have hl := r.length
  refine ⟨by simp [startD, L2.start, hl], fun i x e => ?_⟩
  unfold startD at e
  unfold L2.start
  by_cases hi : i < xs.length
  · rw [List.getElem?_append_left (by simpa using hi), List.getElem?_map] at e
    rw [List.getElem?_append_left (by rw [List.length_map, hl]; exact hi), List.getElem?_map]
    have e1 : xs[i]? = some x := by
      cases q : xs[i]? with
      | none => rw [q] at e; cases e
      | some y =>
        rw [q] at e
        have e' : y = x := by simpa using e
        rw [e']
    obtain ⟨v, e2, rv⟩ := r.get e1
    exact ⟨v, by rw [e2]; rfl, rv⟩
  · rw [List.getElem?_append_right (by simpa using hi)] at e
    simp [List.getElem?_replicate] at e
section
variable {P : Program} {w : World} {K : PySem.W.Frag} {mg : Str → Option Value} {base : Heap}
theorem Fun.okGen {x qual : Str} {st : Stmt} {f : Addr} {fd : FuncData} {N ps : List Str} {k : Nat} {C : Ct} {ds : DS} (F : Fun K x qual st f fd) (S : FnScope N ps (defScope st)) (len : ∀ xs μ Q, C xs μ Q → xs.length = ps.length)
    (hbody : ∀ (cdv : Value) (A : Around) (outer : List Env) (s : Shared) (H : Hp), Room k (A.deeper (envOfC qual (defScope st) s.heap.objs.size f cdv)) → AmbX P (A.deeper (envOfC qual (defScope st) s.heap.objs.size f cdv)) base →
      ∃ ts : TS, QSs (cxOf CX0 P w K mg base N qual (defScope st) f cdv A outer s H E0).nox (defBody st) ts ds)
    (hC : ∀ xs μ Q, C xs μ Q → ∃ d : DEnds, (∀ (c c' : Cf) (μ' : Mu) (v : V) (x : Vl) (H H' : Hp) (U : VK), RM K c μ H → Ext c c' → RM K c' μ' H' → Rep K c' v x → (∀ c' x μ' v H', Ext c c' → RM K c' μ' H' → Rep K c' v x → Q x μ' → U v H') → d.rt x μ' → U v H') ∧ (∀ ρ μ', d.nx ρ μ' → d.rt .non μ') ∧ (∀ ρ μ', ¬ d.bk ρ μ') ∧ (∀ ρ μ', ¬ d.ct ρ μ') ∧ ds d (startD N xs) μ) : FnG P w K mg base (k + 1) f fd ps C := by
  obtain ⟨oc, od, kV, doc, pm, an, cdv, ct, osl, e9, lk, hcd⟩ := F.ex
  subst e9
  refine ⟨len, fun A outer s H args us vs Q am hr e0 hb r hsp => ?_⟩
  obtain ⟨c, xs, μ, Q0, R, rs, hc, hQ⟩ := hsp
  have hl : vs.length = ps.length := rs.length.trans (len _ _ _ hc)
  have KX : K.In s.heap := e0.mod.kin.keeps fun b o e => (e0.bs b o e).1
  have lim : s.heap.NoLimit := e0.mod.nolimit.keeps fun b o e => (e0.bs b o e).1
  have hkind : ∀ y ∈ ps.zip us, (defScope st).names.lookup y.1 = some .local ∨ ((defScope st).names.lookup y.1 = some .cell ∧ ((cellsFrom (s.heap.objs.size + 1) (defScope st).names []).lookup y.1).isSome = true) := fun ⟨n, v⟩ hy => by
    rcases S.par n (List.of_mem_zip hy).1 with q | q
    · exact .inl q
    · exact .inr ⟨q, PySem.W.cellsFrom_some _ _ _ (.inl q)⟩
  refine codeAny_call_function hr.depth (KX _ _ lk) rfl S.co S.gen rfl (PySem.W.codeRec_of KX hcd) (hb _ _ _ _ ?_)
  refine wpAny_newFunctionEnv_cells S.kind hkind fun env he s1 x => ?_
  subst he
  refine ⟨lim.keeps x.toInCall.keep, codeAny_func ?_⟩
  have amx : AmbX P (A.deeper (envOfC qual (defScope st) s.heap.objs.size f cdv)) base := ⟨⟨am.guards, am.seer, am.tree⟩, _, _, Around.frames_deeper e0.frames, S.gen, S.co, rfl, rfl⟩
  obtain ⟨ts, B⟩ := hbody cdv A outer s H (hr.deeper _) amx
  have I : L2.Inv (cxOf CX0 P w K mg base N qual (defScope st) f cdv A outer s H E0) [] (start N vs) H s1 := inv_start S hr.hd e0 hl r x
  have fin : ∀ (H' : Hp) (s' : Shared) (σ' : L2.St) (v : V) (u : Value), L2.Inv (cxOf CX0 P w K mg base N qual (defScope st) f cdv A outer s H E0).nox [] σ' H' s' → RelV v u → Q v H' → CE outer P w H s Q u s' :=
    fun H' s' σ' v u J rv q => ⟨v, H', J.os, J.bare, J.base, J.hok, rv, q⟩
  obtain ⟨d, k1, k2, k3, k4, hd⟩ := hC xs μ Q0 hc
  have go := B.s c (startD N xs) μ (start N vs) H { nx := fun _ H' => Q .non H', rt := Q } d R (start_rs rs)
    ⟨fun c' ρ μ' σ H' E R' S' q => k1 c c' μ' .non .non H H' Q R E R' .non hQ (k2 ρ μ' q), fun c' x μ' v H' E R' r' q => k1 c c' μ' v x H H' Q R E R' r' hQ q, fun c' ρ μ' σ H' E R' S' q => (k3 ρ μ' q).elim, fun c' ρ μ' σ H' E R' S' q => (k4 ρ μ' q).elim⟩ hd
  refine wpAny_mono (B.p.run [] s1 (start N vs) H _ (I.wish _) go) (fun fl s' hs => ?_) fun e s' hs => hs.elim
  cases fl with
  | ret u =>
    obtain ⟨v, σ', H', J, rv, q⟩ := hs
    exact fin H' s' σ' v u J rv q
  | next =>
    obtain ⟨σ', H', J, q⟩ := hs
    exact fin H' s' σ' V.non Value.none J rfl q
  | brk =>
    obtain ⟨_, _, _, q⟩ := hs
    exact q.elim
  | cont =>
    obtain ⟨_, _, _, q⟩ := hs
    exact q.elim
end

/-! ### what a def leaves behind that nobody names any more -/
mutual
/-- all changing objects that are named have numbers below n -/
def rfb (n : Nat) : Vl → Bool
  | .tup xs => rfbs n xs
  | .lst xs => rfbs n xs
  | .frl xs => rfbs n xs
  | .ref k => decide (k < n)
  | _ => true
def rfbs (n : Nat) : List Vl → Bool
  | [] => true
  | x :: xs => rfb n x && rfbs n xs
end
mutual
theorem rfb_of {K : PySem.W.Frag} {c : Cf} : ∀ (x : Vl) (v : V), Rep K c v x → rfb c.al.length x = true
  | .tup xs, _, h => by
    cases h with
    | tup h1 hz h2 => rw [rfb]; exact rfbs_of xs _ h2
  | .lst xs, _, h => by
    cases h with
    | lst h1 hz h2 => rw [rfb]; exact rfbs_of xs _ h2
  | .frl xs, _, h => by
    cases h with
    | frl h1 hz h2 => rw [rfb]; exact rfbs_of xs _ h2
  | .ref k, _, h => by
    cases h with
    | ref h1 => rw [rfb]; exact decide_eq_true (List.getElem?_eq_some_iff.mp h1).1
  | .non, _, _ => by rw [rfb] <;> simp
  | .bl _, _, _ => by rw [rfb] <;> simp
  | .int _, _, _ => by rw [rfb] <;> simp
  | .str _, _, _ => by rw [rfb] <;> simp
  | .op _, _, _ => by rw [rfb] <;> simp
theorem rfbs_of {K : PySem.W.Frag} {c : Cf} : ∀ (xs : List Vl) (vs : List V), Reps K c vs xs → rfbs c.al.length xs = true
  | [], _, _ => by rw [rfbs]
  | x :: xs, _, h => by
    cases h with
    | cons h1 h2 => rw [rfbs, rfb_of x _ h1, rfbs_of xs _ h2]; rfl
end
/-- the first n changing objects alone -/
abbrev cutC (c : Cf) (n : Nat) : Cf := ⟨c.al.take n, c.Hd, c.Fr⟩
mutual
theorem rep_cut {K : PySem.W.Frag} {c : Cf} {n : Nat} : ∀ (x : Vl) (v : V), Rep K c v x → rfb n x = true → Rep K (cutC c n) v x
  | .tup xs, _, h, b => by
    cases h with
    | tup h1 hz h2 => rw [rfb] at b; exact .tup h1 hz (reps_cut xs _ h2 b)
  | .lst xs, _, h, b => by
    cases h with
    | lst h1 hz h2 => rw [rfb] at b; exact .lst h1 hz (reps_cut xs _ h2 b)
  | .frl xs, _, h, b => by
    cases h with
    | frl h1 hz h2 => rw [rfb] at b; exact .frl h1 hz (reps_cut xs _ h2 b)
  | .ref k, _, h, b => by
    cases h with
    | ref h1 =>
      rw [rfb] at b
      have hk : k < n := of_decide_eq_true b
      refine .ref ?_
      show (c.al.take n)[k]? = _
      rw [List.getElem?_take_of_lt hk]; exact h1
  | .non, _, h, _ => by cases h; exact .non
  | .bl b, _, h, _ => by cases h; exact .bl b
  | .int i, _, h, _ => by cases h; exact .int i
  | .str s, _, h, _ => by cases h; exact .str s
  | .op v, _, h, _ => by cases h; exact .op v
theorem reps_cut {K : PySem.W.Frag} {c : Cf} {n : Nat} : ∀ (xs : List Vl) (vs : List V), Reps K c vs xs → rfbs n xs = true → Reps K (cutC c n) vs xs
  | [], _, h, _ => by cases h; exact .nil
  | x :: xs, _, h, b => by
    cases h with
    | cons h1 h2 =>
      rw [rfbs, Bool.and_eq_true] at b
      exact .cons (rep_cut x _ h1 b.1) (reps_cut xs _ h2 b.2)
end
def rfbF (n : Nat) {κ : Type} : List (κ × Vl) → Bool
  | [] => true
  | (_, x) :: xs => rfb n x && rfbF n xs
theorem rfbF_of {K : PySem.W.Frag} {c : Cf} {κ : Type} : ∀ (xs : List (κ × Vl)) (vs : List (κ × V)), RepF K c vs xs → rfbF c.al.length xs = true
  | [], _, _ => rfl
  | (_, x) :: xs, _, h => by
    cases h with
    | cons h1 h2 => rw [rfbF, rfb_of x _ h1, rfbF_of xs _ h2]; rfl
theorem repF_cut {K : PySem.W.Frag} {c : Cf} {n : Nat} {κ : Type} : ∀ (xs : List (κ × Vl)) (vs : List (κ × V)), RepF K c vs xs → rfbF n xs = true → RepF K (cutC c n) vs xs
  | [], _, h, _ => by cases h; exact .nil
  | (_, x) :: xs, _, h, b => by
    cases h with
    | cons h1 h2 =>
      rw [rfbF, Bool.and_eq_true] at b
      exact .cons (rep_cut x _ h1 b.1) (repF_cut xs _ h2 b.2)
def rfbM (n : Nat) : Mo → Bool
  | .dead => true
  | .lst xs => rfbs n xs
  | .dict kvs => rfbF n kvs
  | .ins _ fs => rfbF n fs
theorem rfbM_of {K : PySem.W.Frag} {c : Cf} {h : Option HO} : ∀ {m : Mo}, ObR K c h m → rfbM c.al.length m = true
  | .dead, _ => rfl
  | .lst xs, x => let ⟨vs, _, _, r⟩ := x; rfbs_of xs vs r
  | .dict kvs, x => let ⟨vs, _, r⟩ := x; rfbF_of kvs vs r
  | .ins _ fs, x => let ⟨_, vs, _, r⟩ := x; rfbF_of fs vs r
theorem obR_cut {K : PySem.W.Frag} {c : Cf} {h : Option HO} {n : Nat} : ∀ {m : Mo}, ObR K c h m → rfbM n m = true → ObR K (cutC c n) h m
  | .dead, x, _ => x
  | .lst xs, x, b => let ⟨vs, e, z, r⟩ := x; ⟨vs, e, z, reps_cut xs vs r b⟩
  | .dict kvs, x, b => let ⟨vs, e, r⟩ := x; ⟨vs, e, repF_cut kvs vs r b⟩
  | .ins _ fs, x, b => let ⟨dx, vs, e, r⟩ := x; ⟨dx, vs, e, repF_cut fs vs r b⟩
theorem RM.cut {K : PySem.W.Frag} {c c' : Cf} {μ ex : Mu} {H H' : Hp} (R : RM K c μ H) (R' : RM K c' (μ ++ ex) H') (E : Ext c c') : RM K (cutC c' μ.length) μ H' ∧ Ext c (cutC c' μ.length) := by
  have hl := R'.len
  rw [List.length_append] at hl
  have tk : ∀ (k : Nat) (a : Addr), (c'.al.take μ.length)[k]? = some a → k < μ.length ∧ c'.al[k]? = some a := fun k a h => by
    have hk : k < (c'.al.take μ.length).length := (List.getElem?_eq_some_iff.mp h).1
    rw [List.length_take] at hk
    have hk2 : k < μ.length := by omega
    rw [List.getElem?_take_of_lt hk2] at h
    exact ⟨hk2, h⟩
  refine ⟨⟨R'.sub, by show (c'.al.take μ.length).length = _; rw [List.length_take]; omega, R'.nod.sublist (List.take_sublist _ _), fun k a m h1 h2 => ?_, R'.fsb, fun a o h => ?_⟩, ⟨⟨fun k a h => ?_, E.hd⟩, E.fr⟩⟩
  · obtain ⟨hk, h1⟩ := tk k a h1
    obtain ⟨q1, q2⟩ := R'.obj k a m h1 (by rw [List.getElem?_append_left hk]; exact h2)
    refine ⟨q1, obR_cut q2 ?_⟩
    have hk' : k < c.al.length := by rw [R.len]; exact hk
    obtain ⟨_, q3⟩ := R.obj k c.al[k] m (by simp [hk']) h2
    have q4 := rfbM_of q3
    rw [R.len] at q4
    exact q4
  · obtain ⟨q1, q2⟩ := R'.fds a o h
    exact ⟨q1, fun hm => q2 (List.mem_of_mem_take hm)⟩
  · have hk : k < μ.length := by rw [← R.len]; exact (List.getElem?_eq_some_iff.mp h).1
    show (c'.al.take μ.length)[k]? = some a
    rw [List.getElem?_take_of_lt hk]
    exact E.al k a h
/-- the ends of a def that changes nothing of what was there -/
def pureEnds (μ : Mu) (Q : DK) : DEnds := { nx := fun _ μ' => (∃ ex, μ' = μ ++ ex) ∧ Q .non μ, rt := fun x μ' => rfb μ.length x = true ∧ (∃ ex, μ' = μ ++ ex) ∧ Q x μ }
def spEnds (Q : DK) : DEnds := { nx := fun _ μ' => Q .non μ', rt := Q }

section
variable {P : Program} {w : World} {K : PySem.W.Frag} {mg : Str → Option Value} {base : Heap}
theorem Fun.okD {x qual : Str} {st : Stmt} {f : Addr} {fd : FuncData} {N ps : List Str} {k : Nat} {C : Ct} {ds : DS} (F : Fun K x qual st f fd) (S : FnScope N ps (defScope st)) (len : ∀ xs μ Q, C xs μ Q → xs.length = ps.length)
    (hbody : ∀ (cdv : Value) (A : Around) (outer : List Env) (s : Shared) (H : Hp), Room k (A.deeper (envOfC qual (defScope st) s.heap.objs.size f cdv)) → AmbX P (A.deeper (envOfC qual (defScope st) s.heap.objs.size f cdv)) base →
      ∃ ts : TS, QSs (cxOf CX0 P w K mg base N qual (defScope st) f cdv A outer s H E0).nox (defBody st) ts ds)
    (hC : ∀ xs μ Q, C xs μ Q → ds (spEnds Q) (startD N xs) μ) : FnG P w K mg base (k + 1) f fd ps C :=
  Fun.okGen F S len hbody fun xs μ Q h => ⟨spEnds Q, fun c c' μ' v x H H' P R E R' r k q => k c' x μ' v H' E R' r q, fun ρ μ' q => q, fun ρ μ' q => q, fun ρ μ' q => q, hC xs μ Q h⟩
theorem Fun.okP {x qual : Str} {st : Stmt} {f : Addr} {fd : FuncData} {N ps : List Str} {k : Nat} {C : Ct} {ds : DS} (F : Fun K x qual st f fd) (S : FnScope N ps (defScope st)) (len : ∀ xs μ Q, C xs μ Q → xs.length = ps.length)
    (hbody : ∀ (cdv : Value) (A : Around) (outer : List Env) (s : Shared) (H : Hp), Room k (A.deeper (envOfC qual (defScope st) s.heap.objs.size f cdv)) → AmbX P (A.deeper (envOfC qual (defScope st) s.heap.objs.size f cdv)) base →
      ∃ ts : TS, QSs (cxOf CX0 P w K mg base N qual (defScope st) f cdv A outer s H E0).nox (defBody st) ts ds)
    (hC : ∀ xs μ Q, C xs μ Q → ds (pureEnds μ Q) (startD N xs) μ) : FnG P w K mg base (k + 1) f fd ps C :=
  Fun.okGen F S len hbody fun xs μ Q h => ⟨pureEnds μ Q, fun c c' μ' v x H H' P R E R' r k q => by
    obtain ⟨b, ⟨ex, e⟩, q⟩ := q
    subst e
    obtain ⟨R2, E2⟩ := R.cut R' E
    exact k _ x μ v H' E2 R2 (rep_cut x v r b) q, fun ρ μ' q => ⟨by rw [rfb] <;> simp, q⟩, fun ρ μ' q => q, fun ρ μ' q => q, hC xs μ Q h⟩
end

/-! ### calls -/
def dCall (C : Ct) (d : DA) : DE := fun ρ μ Q => d ρ μ fun xs μ1 => C xs μ1 Q
def tCl (K : PySem.W.Frag) (C : Ct) (t : TA) : TE := fun σ H Q => t σ H fun vs H1 => spOf K C vs H1 Q
section
variable {X : Cx} {k : Nat} {f : Addr} {fd : FuncData} {ps : List Str} {C : Ct} {x : Str} {p pos : Pos} {e : Expr} {es : List Expr} {t : TA} {d : DA}
theorem run_G {pins : List (Addr × Obj)} {σ : L2.St} {H : Hp} {s : Shared} {Q : VK} {args : Args} {us : List Value} {vs : List V} (F : FnG X.prog X.w X.K X.mg X.base k f fd ps C) (am : AmbX X.prog X.A X.base) (hr : Room k X.A) (I : L2.Inv X pins σ H s) (hb : BindsTo s fd args (ps.zip us)) (r : Vals vs us) (h : spOf X.K C vs H Q) :
    codeAny (model X.prog X.w) X.A (.call (.ref f) args) (fun r s' => match r with
      | .ok (.ret u) => EP X pins σ Q u s'
      | _ => False) s := by
  refine codeAny_mono (F.run X.A X.stack s H args us vs Q am.toAmb hr I.env0 hb r h) fun r s' hq => ?_
  cases r with
  | error e => exact hq.elim
  | ok fl =>
    cases fl with
    | ret u => exact I.after hq
    | next => exact hq.elim
    | brk => exact hq.elim
    | cont => exact hq.elim
theorem run_Gw {pins : List (Addr × Obj)} {σ : L2.St} {H : Hp} {s : Shared} {Q : VK} {us ws : List Value} {kw : List (Str × Value)} {vs : List V} (F : FnG X.prog X.w X.K X.mg X.base k f fd ps C) (am : AmbX X.prog X.A X.base) (hr : Room k X.A) (I : L2.Inv X pins σ H s) (hb : BindsTo s fd ⟨us, kw⟩ (ps.zip ws)) (r : Vals vs ws) (h : spOf X.K C vs H Q) :
    wpAny (model X.prog X.w) X.A (call (.ref f) us kw) (EP X pins σ Q) X.xe s := by
  refine wpAny_call (codeAny_mono (run_G F am hr I hb r h) fun r s' hq => ?_)
  cases r with
  | error e => exact hq.elim
  | ok fl =>
    cases fl with
    | ret u => exact hq
    | next => exact hq.elim
    | brk => exact hq.elim
    | cont => exact hq.elim
theorem spOf_len {K : PySem.W.Frag} {vs : List V} {H : Hp} {Q : VK} {n : Nat} (hl : ∀ xs μ Q, C xs μ Q → xs.length = n) (h : spOf K C vs H Q) : vs.length = n := by
  obtain ⟨c, xs, μ, Q0, _, r, hc, _⟩ := h
  exact r.length.trans (hl _ _ _ hc)
theorem sim_call {K : PySem.W.Frag} (ha : SimA K t d) : SimE K (tCl K C t) (dCall C d) := by
  intro c ρ μ σ H Q P R S h k
  refine ha c ρ μ σ H _ _ R S h fun c1 xs μ1 vs H1 E1 R1 r1 q1 => ?_
  exact ⟨c1, xs, μ1, Q, R1, r1, q1, fun c2 z μ2 v2 H2 E2 => k c2 z μ2 v2 H2 (E1.trans E2)⟩
theorem q_call (F : FnG X.prog X.w X.K X.mg X.base k f fd ps C) (am : AmbX X.prog X.A X.base) (hr : Room k X.A) (hm : X.mg x = some (.ref f)) (hk : PySem.W.keepIn X.K (.ref f) = true) (hb : Binds X.K fd ps []) (ha : QA X (e :: es) t d) (hg : Gl X x := by rfl) (hdb : (x == ("__debug__" : Str)) = false := by decide)
    (he : starEach (e :: es) X.env = (false, eval e X.env) :: starEach es X.env := by rfl) (hpl : (backTo pos (starEach es X.env)).any (·.1) = false := by rfl) : QE X (.Call (.Name x p) (e :: es) [] pos) (tCl X.K C t) (dCall C d) := by
  refine ⟨⟨fun pins s σ H Q I h => ?_⟩, sim_call ha.s⟩
  refine wpAny_Call_Name_kw (ld_glob I hg hm ?_ hdb)
  refine PySem.W.callWith_K (h₀ := X.base) I.ok.mod.kin hk (thn (ha.p.run pos pins s σ H _ I h) fun us s1 ⟨vs, H1, I1, r, q⟩ => ⟨I1.kIn, ?_⟩) he hpl
  have hl : (us ++ ([] : List Value)).length = ps.length := by
    rw [List.append_nil, ← r.length]; exact spOf_len F.len q
  have z := hb s1 us I1.kIn hl
  rw [List.append_nil] at z
  exact run_Gw F am hr I1 z r q
theorem q_call0 (F : FnG X.prog X.w X.K X.mg X.base k f fd ps C) (am : AmbX X.prog X.A X.base) (hr : Room k X.A) (hm : X.mg x = some (.ref f)) (hk : PySem.W.keepIn X.K (.ref f) = true) (hb : Binds X.K fd ps []) (hg : Gl X x := by rfl) (hdb : (x == ("__debug__" : Str)) = false := by decide) :
    QE X (.Call (.Name x p) [] [] pos) (tCl X.K C tNil) (dCall C dNil) := by
  refine ⟨⟨fun pins s σ H Q I h => ?_⟩, sim_call qa_nil.s⟩
  refine wpAny_Call_Name_kw (ld_glob I hg hm ?_ hdb)
  have h : spOf X.K C [] H Q := h
  have z := hb s [] I.kIn (spOf_len F.len h)
  rw [List.append_nil] at z
  exact PySem.W.callWith_K0 I.kIn hk (run_Gw (us := []) F am hr I z .nil h)

/-! ### keywords -/
/-- values by their places among the positional ones and those by keyword -/
def pick {α : Type} (us ws : List α) (ix : List Nat) : List α := ix.filterMap fun i => (us ++ ws)[i]?
theorem vals_pick {vs zs : List V} {us ws : List Value} (h1 : Vals vs us) (h2 : Vals zs ws) : ∀ ix : List Nat, Vals (pick vs zs ix) (pick us ws ix)
  | [] => .nil
  | i :: ix => by
    have ih := vals_pick h1 h2 ix
    have r := h1.append h2
    unfold pick
    rw [List.filterMap_cons, List.filterMap_cons]
    cases q : (vs ++ zs)[i]? with
    | none =>
      rw [r.none_of q]
      exact ih
    | some v =>
      obtain ⟨u, e, ru⟩ := r.get q
      rw [e]
      exact .cons ru ih
theorem reps_pick {K : PySem.W.Frag} {c : Cf} {vs zs : List V} {us ws : List Vl} (h1 : Reps K c vs us) (h2 : Reps K c zs ws) : ∀ ix : List Nat, Reps K c (pick vs zs ix) (pick us ws ix)
  | [] => .nil
  | i :: ix => by
    have ih := reps_pick h1 h2 ix
    have r := h1.append h2
    unfold pick
    rw [List.filterMap_cons, List.filterMap_cons]
    cases q : (us ++ ws)[i]? with
    | none =>
      have q' : (vs ++ zs)[i]? = none := by
        rw [List.getElem?_eq_none_iff] at q ⊢
        rw [r.length]; exact q
      rw [q']
      exact ih
    | some v =>
      obtain ⟨u, e, ru⟩ := r.get q
      rw [e]
      exact .cons ru ih
structure QK (X : Cx) (kws : List Keyword) (t : TA) (d : DA) : Prop where
  p : PK X kws t
  s : SimA X.K t d
theorem qk_nil : QK X [] tNil dNil := ⟨pk_nil, qa_nil.s⟩
theorem qk_cons {nm : Option Str} {kpos : Pos} {kws : List Keyword} {te : TE} {de : DE} (ha : QE X e te de) (hr : QK X kws t d) : QK X (⟨nm, e, kpos⟩ :: kws) (tCons te t) (dCons de d) := by
  refine ⟨pk_cons ha.p hr.p, fun c ρ μ σ H Q P R S h k => ?_⟩
  refine ha.s c ρ μ σ H _ _ R S h fun c1 x μ1 v H1 E1 R1 r1 q1 => ?_
  exact hr.s c1 ρ μ1 σ H1 _ _ R1 (S.up E1.toExt0) q1 fun c2 xs μ2 vs H2 E2 R2 r2 q2 => k c2 (x :: xs) μ2 (v :: vs) H2 (E1.trans E2) R2 (.cons (r1.up E2.toExt0) r2) q2
/-- how a call with n positional values and those named ks is bound -/
def BindsK (K : PySem.W.Frag) (fd : FuncData) (ps ks : List Str) (n : Nat) (ix : List Nat) : Prop := ∀ (s : Shared) (us ws : List Value), K.In s.heap → us.length = n → ws.length = ks.length → BindsTo s fd ⟨us, ks.zip ws⟩ (ps.zip (pick us ws ix))
def tClK (K : PySem.W.Frag) (C : Ct) (n m : Nat) (ix : List Nat) (t tk : TA) : TE := fun σ H Q => t σ H fun vs H1 => tk σ H1 fun zs H2 => vs.length = n ∧ zs.length = m ∧ spOf K C (pick vs zs ix) H2 Q
def dCallK (C : Ct) (n m : Nat) (ix : List Nat) (d dk : DA) : DE := fun ρ μ Q => d ρ μ fun xs μ1 => dk ρ μ1 fun ys μ2 => xs.length = n ∧ ys.length = m ∧ C (pick xs ys ix) μ2 Q
theorem sim_callK {K : PySem.W.Frag} {n m : Nat} {ix : List Nat} {tk : TA} {dk : DA} (ha : SimA K t d) (hk : SimA K tk dk) : SimE K (tClK K C n m ix t tk) (dCallK C n m ix d dk) := by
  intro c ρ μ σ H Q P R S h k
  refine ha c ρ μ σ H _ _ R S h fun c1 xs μ1 vs H1 E1 R1 r1 q1 => ?_
  refine hk c1 ρ μ1 σ H1 _ _ R1 (S.up E1.toExt0) q1 fun c2 ys μ2 zs H2 E2 R2 r2 q2 => ?_
  have r1' := r1.up E2.toExt0
  exact ⟨by rw [r1.length]; exact q2.1, by rw [r2.length]; exact q2.2.1, c2, _, μ2, Q, R2, reps_pick r1' r2 ix, q2.2.2, fun c3 z μ3 v3 H3 E3 => k c3 z μ3 v3 H3 ((E1.trans E2).trans E3)⟩
variable {kws : List Keyword} {tk : TA} {dk : DA} {ks : List Str} {n : Nat} {ix : List Nat}
theorem q_callK (F : FnG X.prog X.w X.K X.mg X.base k f fd ps C) (am : AmbX X.prog X.A X.base) (hr : Room k X.A) (hm : X.mg x = some (.ref f)) (hk : PySem.W.keepIn X.K (.ref f) = true) (hb : BindsK X.K fd ps ks n ix) (ha : QA X (e :: es) t d) (hw : QK X kws tk dk)
    (hg : Gl X x := by rfl) (hall : (backToKw pos (keywordEach kws X.env)).all (·.1.isSome) = true := by rfl) (hks : (backToKw pos (keywordEach kws X.env)).filterMap (·.1) = ks := by rfl)
    (hdb : (x == ("__debug__" : Str)) = false := by decide) (he : starEach (e :: es) X.env = (false, eval e X.env) :: starEach es X.env := by rfl)
    (hpl : ((backTo pos (starEach (e :: es) X.env)).any (·.1) || (backToKw pos (keywordEach kws X.env)).any (·.1.isNone)) = false := by rfl) : QE X (.Call (.Name x p) (e :: es) kws pos) (tClK X.K C n ks.length ix t tk) (dCallK C n ks.length ix d dk) := by
  refine ⟨⟨fun pins s σ H Q I h => ?_⟩, sim_callK ha.s hw.s⟩
  refine wpAny_Call_Name_kw (ld_glob I hg hm ?_ hdb)
  refine PySem.W.callWith_KW (h₀ := X.base) I.ok.mod.kin hk hall (thn (ha.p.run pos pins s σ H _ I h) fun us s1 ⟨vs, H1, I1, r, q⟩ => ?_) hpl he
  refine thn (hw.p.run pos pins s1 σ H1 _ I1 q) fun ws s2 ⟨zs, H2, I2, rz, l1, l2, q2⟩ => ⟨I2.kIn, ?_⟩
  rw [hks]
  exact run_Gw F am hr I2 (hb s2 us ws I2.kIn (r.length.symm.trans l1) (rz.length.symm.trans l2)) (vals_pick r rz ix) q2
theorem q_callK0 (F : FnG X.prog X.w X.K X.mg X.base k f fd ps C) (am : AmbX X.prog X.A X.base) (hr : Room k X.A) (hm : X.mg x = some (.ref f)) (hk : PySem.W.keepIn X.K (.ref f) = true) (hb : BindsK X.K fd ps ks 0 ix) (hw : QK X kws tk dk)
    (hg : Gl X x := by rfl) (hall : (backToKw pos (keywordEach kws X.env)).all (·.1.isSome) = true := by rfl) (hks : (backToKw pos (keywordEach kws X.env)).filterMap (·.1) = ks := by rfl)
    (hdb : (x == ("__debug__" : Str)) = false := by decide)
    (hpl : ((backTo pos (starEach [] X.env)).any (·.1) || (backToKw pos (keywordEach kws X.env)).any (·.1.isNone)) = false := by rfl) : QE X (.Call (.Name x p) [] kws pos) (tClK X.K C 0 ks.length ix tNil tk) (dCallK C 0 ks.length ix dNil dk) := by
  refine ⟨⟨fun pins s σ H Q I h => ?_⟩, sim_callK qa_nil.s hw.s⟩
  refine wpAny_Call_Name_kw (ld_glob I hg hm ?_ hdb)
  have h : tk σ H (fun zs H2 => ([] : List V).length = 0 ∧ zs.length = ks.length ∧ spOf X.K C (pick [] zs ix) H2 Q) := h
  refine PySem.W.callWith_KW0 (h₀ := X.base) I.ok.mod.kin hk hall (thn (hw.p.run pos pins s σ H _ I h) fun ws s2 ⟨zs, H2, I2, rz, l1, l2, q2⟩ => ⟨I2.kIn, ?_⟩) hpl
  rw [hks]
  exact run_Gw (us := []) F am hr I2 (hb s2 [] ws I2.kIn rfl (rz.length.symm.trans l2)) (vals_pick .nil rz ix) q2
end

/-! ### the law's end -/
theorem law_G {P : Program} {w : World} {K : PySem.W.Frag} {mg mb : Str → Option Value} {k : Nat} {fa a : Addr} {fd : FuncData} {x : Str} {C : Ct} {s₁ : Shared} {vs : List Value} {ns : List Int}
    (KX : K.In s₁.heap) (hns : s₁.heap.Ns mainGlobals mg) (hb : s₁.heap.Ns builtinsNs mb) (hbb : ∀ x : Str, x ≠ "__name__" → mb x = bootBuiltins x) (hlim : s₁.heap.NoLimit) (hse : s₁.heap.NoSeer) (htr : P.given.tree = none) (hg : s₁.gens = #[])
    (ha : s₁.heap.get? a = some { cls := .type "list", data := .seq vs.toArray }) (hi : IntsAre vs ns) (hl : ns.length ≤ sizeLine) (hr : Room k callerA)
    (F : ∀ base : Heap, K.In base → base.Ns mainGlobals mg → FnG P w K mg base k fa fd [x] C) (hbind : ∀ (s : Shared) (u : Value), BindsTo s fd ⟨[u], []⟩ [(x, u)])
    (hC : C [.frl (ns.map Vl.int)] [] fun v _ => v = .bl true) :
    codeAny (model P w) callerA (.call (.ref fa) ⟨[.ref a], []⟩) (fun r s' => r = .ok (.ret (.bool true)) ∧ OldK s₁.heap s'.heap ∧ s'.os = s₁.os ∧ AllBare s'.gens) s₁ := by
  have rv := vals_ints hi
  have lenV := hi.length
  have core : ∀ H : Hp, Only H → SqL K H a (ns.map V.int) → HOk P w H s₁.heap → (∀ b, H b ≠ none → b = a) → (H a ≠ none → K.lookup a = none) →
      codeAny (model P w) callerA (.call (.ref fa) ⟨[.ref a], []⟩) (fun r s' => r = .ok (.ret (.bool true)) ∧ OldK s₁.heap s'.heap ∧ s'.os = s₁.os ∧ AllBare s'.gens) s₁ := by
    intro H hO hS hok hA hK
    have base_of : ∀ {b : Addr} {o : Obj}, s₁.heap.get? b = some o → H b = none → (hidT s₁.heap H).get? b = some o := fun e n => hidT_get e n
    have out : ∀ {b : Addr} {o : Obj}, s₁.heap.get? b = some o → (∀ n, o.data ≠ .seq vs.toArray n) → H b = none := fun {b o} e d => by
      cases q : H b with
      | none => rfl
      | some u =>
        have e' : b = a := hA b (by rw [q]; simp)
        rw [e', ha] at e
        have e2 := Option.some.inj e
        exact absurd (by rw [← e2]) (d _)
    have nsK : ∀ {b : Addr} {m : Str → Option Value}, s₁.heap.Ns b m → (hidT s₁.heap H).Ns b m := fun {b m} ⟨o, es, ep, e, d, r⟩ => ⟨o, es, ep, base_of e (out e fun n z => by rw [d] at z; cases z), d, r⟩
    have hKb : K.In (hidT s₁.heap H) := fun b o e => base_of (KX b o e) (by
      cases q : H b with
      | none => rfl
      | some u =>
        have e' : b = a := hA b (by rw [q]; simp)
        rw [e'] at e q
        rw [hK (by rw [q]; simp)] at e; cases e)
    have hM : Mod K mg (hidT s₁.heap H) := ⟨hKb, nsK hns, ⟨mb, nsK hb, hbb⟩, let ⟨mc, h1, h2⟩ := hlim; ⟨mc, nsK h1, h2⟩⟩
    have hSe : (hidT s₁.heap H).NoSeer := by
      obtain ⟨⟨mc, h1, h2⟩, ⟨mm, h3, h4⟩, ⟨mb', h5, h6⟩, ⟨mg', bm, ob, h7, h8, h9, h10, h11⟩⟩ := hse
      refine ⟨⟨mc, nsK h1, h2⟩, ⟨mm, nsK h3, h4⟩, ⟨mb', nsK h5, h6⟩, ⟨mg', bm, ob, nsK h7, h8, base_of h9 ?_, h10, h11⟩⟩
      cases q : H bm with
      | none => rfl
      | some u =>
        have e' : bm = a := hA bm (by rw [q]; simp)
        rw [e', ha] at h9
        have e2 := Option.some.inj h9
        rw [← e2] at h10
        exact absurd h10 (by intro z; injection z with z; exact absurd z (by decide))
    have e0 : Env0 P w K mg (hidT s₁.heap H) callerA [] s₁ H := ⟨rfl, hM, fun b o e => of_hidT e, Nat.le_of_eq (hidT_size _ _), trivial, fun b hb => absurd (show b ∈ ([] : List Addr) from hb) (by simp), hok, .of_eq hg⟩
    have sp0 : spOf K C [.ref a] H fun v _ => v = .bl true := by
      refine ⟨⟨[], H, fun _ => none⟩, [.frl (ns.map Vl.int)], [], _, ⟨Same.refl _, rfl, List.nodup_nil, fun k b o h => by simp at h, fun b o h => by simp at h, fun b o h => by simp at h⟩, .one (.frl hS (by rw [List.length_map]; exact hl) (Reps.ints ns)), hC, fun c' y μ' v H' E R' r' q => ?_⟩
      subst q
      cases r'
      rfl
    refine codeAny_mono ((F _ hKb (nsK hns)).run callerA [] s₁ H ⟨[.ref a], []⟩ [.ref a] [.ref a] _ ⟨rfl, hSe, htr⟩ hr e0 (hbind s₁ (.ref a)) (.cons rfl .nil) sp0) fun r s' h => ?_
    cases r with
    | error e => exact h.elim
    | ok fl =>
      cases fl with
      | next => exact h.elim
      | brk => exact h.elim
      | cont => exact h.elim
      | ret u =>
        obtain ⟨v, H', os, bare, un, hok', r', q⟩ := h
        have q' : v = .bl true := q
        subst q'
        have r2 : u = Value.bool true := r'
        subst r2
        refine ⟨rfl, OldK.of_keep fun b o e => ?_, os, bare⟩
        cases q : H b with
        | none => exact un.keep b o e q (fun z => absurd (show b ∈ ([] : List Addr) from z) (by simp)) (by simp)
        | some u =>
          rcases hO b with z | ⟨ob, xs, z⟩
          · rw [q] at z; cases z
          · obtain ⟨e1, _⟩ := hok b _ z
            obtain ⟨e2, _⟩ := hok' b _ (un.frzs b ob _ z)
            rw [e] at e1
            rw [Option.some.inj e1]
            exact e2
  cases hk : K.lookup a with
  | some o =>
    have e := KX a o hk
    rw [ha] at e
    cases e
    refine core (fun _ => none) (fun _ => .inl rfl) (.inr ⟨_, vs.toArray, _, hk, rfl, rfl, rfl, by rw [List.size_toArray, lenV]; exact hl, by simpa using rv⟩) (fun b u z => by simp at z) (fun b z => absurd rfl z) fun z => absurd rfl z
  | none =>
    refine core (fun b => if b = a then some (.frz { cls := .type "list", data := .seq vs.toArray } (.lst (ns.map V.int))) else none) (fun b => ?_) (.inl (.inr ⟨{ cls := .type "list", data := .seq vs.toArray }, if_pos rfl⟩)) (fun b u z => ?_) (fun b z => ?_) fun _ => hk
    · by_cases hb : b = a
      · exact .inr ⟨_, _, if_pos hb⟩
      · exact .inl (if_neg hb)
    · by_cases hb : b = a
      · have z' := (if_pos hb).symm.trans z
        cases z'
        subst hb
        exact ⟨ha, by rw [List.length_map]; exact hl, vs, _, rv, ha⟩
      · have z' := (if_neg hb).symm.trans z
        cases z'
    · by_cases hb : b = a
      · exact hb
      · exact absurd (if_neg hb) z
theorem walk_G {l : PySem.W.OpenLaw} {n k : Nat} {q : Program} {loose : List Str} {XP : (Str → Option Value) → Heap → Prop} {YP : World → Heap → Prop} {d : DefRec} {K : Params → PySem.W.Frag} {C : Ct} {x : Str}
    (hn : l.most = some n) (hn2 : n ≤ sizeLine) (hdf : d.params.defaults = []) (hr : Room k callerA) (him : importsNone q = true) (htr : l.prog.given.tree = none)
    (hY : ∀ (w : World) (h : Heap), YP w h → (K w.params).In h)
    (F : ∀ (w : World) (mg : Str → Option Value) (fa : Addr) (h : Heap), (K w.params).In h → h.Ns mainGlobals mg → mg d.name = some (.ref fa) →
      ∃ fd : FuncData, (∀ (s : Shared) (u : Value), BindsTo s fd ⟨[u], []⟩ [(x, u)]) ∧
        ∀ base : Heap, (K w.params).In base → base.Ns mainGlobals mg → FnG l.prog w (K w.params) mg base k fa fd [x] C)
    (hC : ∀ ns : List Int, ns.length ≤ n → C [.frl (ns.map Vl.int)] [] fun v _ => v = .bl true) : PySem.W.WalkO q loose XP YP l.row.toRowW d [] (fun f vs => PySem.call f vs) := by
  refine Att.attach_call hn hdf fun w s₀ s₁ mg mb fa o pm cd doc a vs ns G Y ho hd hcd hmg hobj hints hlen hg => ?_
  have KX := hY w _ Y
  obtain ⟨fd, hb, hF⟩ := F w mg fa _ KX G.T.g hmg
  exact law_G KX G.T.g G.T.b G.T.builtins G.T.nolimit (G.T.seer him) htr hg hobj hints (Nat.le_trans hlen hn2) hr hF hb (hC ns hlen)
end DL

/-! plain data: what == and repr need of it -/
namespace DL
open PySem PySem.Spec L2 StX PyProof.Rows
/-- is, is not of bools -/
def dIsB (neg : Bool) : D2 := fun x y μ Q => match x, y with
  | .bl a, .bl b => Q (.bl (decide (a = b) != neg)) μ
  | _, _ => False
section
variable {X : Cx} {a b : Expr} {ta tb : TE} {da db : DE} {pos : Pos}
theorem sim_isB {K : PySem.W.Frag} : Sim2 K rIsB (dIsB false) := by
  intro c μ H vx vy x y Q P R rx ry h k
  unfold dIsB at h
  split at h
  · rename_i i j
    cases rx; cases ry
    refine ⟨_, _, rfl, rfl, k c _ μ _ H (Ext.refl c) R (.bl _) ?_⟩
    rw [show (decide (i = j) != false) = decide (i = j) from by cases decide (i = j) <;> rfl] at h
    exact h
  · exact h.elim
theorem sim_notB {K : PySem.W.Frag} : Sim2 K rNotB (dIsB true) := by
  intro c μ H vx vy x y Q P R rx ry h k
  unfold dIsB at h
  split at h
  · rename_i i j
    cases rx; cases ry
    refine ⟨_, _, rfl, rfl, k c _ μ _ H (Ext.refl c) R (.bl _) ?_⟩
    rw [show (decide (i = j) != true) = !decide (i = j) from by cases decide (i = j) <;> rfl] at h
    exact h
  · exact h.elim
theorem q_isB (ha : QE X a ta da) (hb : QE X b tb db) : QE X (.Compare a [.Is] [b] pos) (tOp rIsB ta tb) (dOp (dIsB false) da db) := q_cmp op_isBl sim_isB ha hb (nomark _)
theorem q_notB (ha : QE X a ta da) (hb : QE X b tb db) : QE X (.Compare a [.IsNot] [b] pos) (tOp rNotB ta tb) (dOp (dIsB true) da db) := q_cmp op_notBl sim_notB ha hb (nomark _)
theorem qt_isB (ha : QE X a ta da) (hb : QE X b tb db) : QT X (.Compare a [.Is] [b] pos) (tTest (tOp rIsB ta tb)) (dTest (dOp (dIsB false) da db)) := qt_cmp op_isBl sim_isB ha hb (nomark _)
theorem qt_notB (ha : QE X a ta da) (hb : QE X b tb db) : QT X (.Compare a [.IsNot] [b] pos) (tTest (tOp rNotB ta tb)) (dTest (dOp (dIsB true) da db)) := qt_cmp op_notBl sim_notB ha hb (nomark _)
end
mutual
/-- no text, no ref within -/
def plainV : Vl → Bool
  | .non | .bl _ | .int _ => true
  | .tup xs | .lst xs => plainVs xs
  | .str _ | .frl _ | .ref _ | .op _ => false
def plainVs : List Vl → Bool
  | [] => true
  | x :: xs => plainV x && plainVs xs
end
mutual
def depV : Vl → Nat
  | .tup xs | .lst xs => depVs xs + 1
  | .non | .bl _ | .int _ | .str _ | .frl _ | .ref _ | .op _ => 0
def depVs : List Vl → Nat
  | [] => 0
  | x :: xs => max (depV x) (depVs xs)
end
mutual
/-- how many things are shown -/
def nodV : Vl → Nat
  | .tup xs | .lst xs => nodVs xs + 1
  | .non | .bl _ | .int _ | .str _ | .frl _ | .ref _ | .op _ => 1
def nodVs : List Vl → Nat
  | [] => 0
  | x :: xs => nodV x + nodVs xs
end
mutual
/-- its numbers may be shown -/
def shortV : Vl → Bool
  | .int i => decide (i.natAbs.log2 < 1920)
  | .tup xs | .lst xs => shortVs xs
  | .non | .bl _ | .str _ | .frl _ | .ref _ | .op _ => true
def shortVs : List Vl → Bool
  | [] => true
  | x :: xs => shortV x && shortVs xs
end
mutual
def dataV : Vl → PyData
  | .bl b => .bool b
  | .int i => .int i
  | .str x => .str x
  | .tup xs => .tuple (dataVs xs)
  | .lst xs => .list (dataVs xs)
  | .non | .frl _ | .ref _ | .op _ => .none
def dataVs : List Vl → List PyData
  | [] => []
  | x :: xs => dataV x :: dataVs xs
end
mutual
theorem plain_data : ∀ x : Vl, plainV x = true → dat x = some (dataV x) ∧ (dataV x).canLay0 = true ∧ (dataV x).depth = depV x
  | .non, _ => by refine ⟨rfl, rfl, ?_⟩ <;> simp [dataV, PyData.depth, depV]
  | .bl b, _ => by refine ⟨rfl, rfl, ?_⟩ <;> simp [dataV, PyData.depth, depV]
  | .int i, _ => by refine ⟨rfl, rfl, ?_⟩ <;> simp [dataV, PyData.depth, depV]
  | .tup xs, h => by
    obtain ⟨h1, h2, h3⟩ := plain_datas xs (by rw [plainV] at h; exact h)
    refine ⟨?_, ?_, ?_⟩
    · rw [dat, h1, dataV]; rfl
    · rw [dataV, PyData.canLay0]; exact h2
    · rw [dataV, PyData.depth, depV, h3]
  | .lst xs, h => by
    obtain ⟨h1, h2, h3⟩ := plain_datas xs (by rw [plainV] at h; exact h)
    refine ⟨?_, ?_, ?_⟩
    · rw [dat, h1, dataV]; rfl
    · rw [dataV, PyData.canLay0]; exact h2
    · rw [dataV, PyData.depth, depV, h3]
  | .str _, h => by rw [plainV] at h; cases h
  | .frl _, h => by rw [plainV] at h; cases h
  | .ref _, h => by rw [plainV] at h; cases h
  | .op _, h => by rw [plainV] at h; cases h
theorem plain_datas : ∀ xs : List Vl, plainVs xs = true → dats xs = some (dataVs xs) ∧ PyData.canLayAll0 (dataVs xs) = true ∧ PyData.depthAll (dataVs xs) = depVs xs
  | [], _ => by refine ⟨rfl, rfl, ?_⟩ <;> simp [dataVs, PyData.depthAll, depVs]
  | x :: xs, h => by
    rw [plainVs, Bool.and_eq_true] at h
    obtain ⟨a1, a2, a3⟩ := plain_data x h.1
    obtain ⟨b1, b2, b3⟩ := plain_datas xs h.2
    refine ⟨?_, ?_, ?_⟩
    · rw [dats, a1, b1, dataVs]
    · rw [dataVs, PyData.canLayAll0, a2, b2]; rfl
    · rw [dataVs, PyData.depthAll, depVs, a3, b3]
end
mutual
theorem short_show : ∀ x : Vl, plainV x = true → shortV x = true → (dataV x).showable = true ∧ (dataV x).shown.length + 2 ≤ 1932 * nodV x
  | .non, _, _ => ⟨rfl, by rw [nodV]; decide⟩
  | .bl b, _, _ => ⟨rfl, by rw [nodV]; cases b <;> decide⟩
  | .int i, _, h => by
    rw [shortV] at h
    refine ⟨by rw [dataV, PyData.showable]; exact h, ?_⟩
    have := PyProof.Rows.int_text_len_1921 (of_decide_eq_true h)
    rw [dataV, PyData.shown, nodV]
    exact Nat.le_trans (Nat.add_le_add_right this 2) (by decide)
  | .tup xs, h, k => by
    obtain ⟨h1, h2⟩ := short_shows xs (by rw [plainV] at h; exact h) (by rw [shortV] at k; exact k)
    refine ⟨by rw [dataV, PyData.showable]; exact h1, ?_⟩
    have e := tupleText_len_le (PyData.shownAll (dataVs xs))
    rw [dataV, PyData.shown, nodV]
    omega
  | .lst xs, h, k => by
    obtain ⟨h1, h2⟩ := short_shows xs (by rw [plainV] at h; exact h) (by rw [shortV] at k; exact k)
    refine ⟨by rw [dataV, PyData.showable]; exact h1, ?_⟩
    have e := listText_len_le (PyData.shownAll (dataVs xs))
    rw [dataV, PyData.shown, nodV]
    omega
  | .str _, h, _ => by rw [plainV] at h; cases h
  | .frl _, h, _ => by rw [plainV] at h; cases h
  | .ref _, h, _ => by rw [plainV] at h; cases h
  | .op _, h, _ => by rw [plainV] at h; cases h
theorem short_shows : ∀ xs : List Vl, plainVs xs = true → shortVs xs = true → PyData.showableAll (dataVs xs) = true ∧ ((PyData.shownAll (dataVs xs)).map (·.length)).sum + 2 * (PyData.shownAll (dataVs xs)).length ≤ 1932 * nodVs xs
  | [], _, _ => ⟨rfl, by simp [dataVs, PyData.shownAll]⟩
  | x :: xs, h, k => by
    rw [plainVs, Bool.and_eq_true] at h
    rw [shortVs, Bool.and_eq_true] at k
    obtain ⟨a1, a2⟩ := short_show x h.1 k.1
    obtain ⟨b1, b2⟩ := short_shows xs h.2 k.2
    have n1 : 1 ≤ nodV x := by
      cases x <;> rw [nodV] <;> omega
    refine ⟨by rw [dataVs, PyData.showableAll, a1, b1]; rfl, ?_⟩
    rw [dataVs, PyData.shownAll, nodVs, List.map_cons, List.sum_cons, List.length_cons]
    omega
end
theorem datM_plain {μ : Mu} {x : Vl} (h : plainV x = true) : datM μ x = some (dataV x) := by
  have e := (plain_data x h).1
  cases x <;> first | exact e | (rw [plainV] at h; cases h)
theorem shaped_plain {x : Vl} (h : plainV x = true) (hd : depV x ≤ 64) : SeqAt.shaped (dataV x) = true := by
  obtain ⟨_, h2, h3⟩ := plain_data x h
  unfold SeqAt.shaped
  rw [h2, h3, decide_eq_true hd]; rfl
theorem shown_le {x : Vl} (h : plainV x = true) (hs : shortV x = true) (hn : 1932 * nodV x ≤ sizeLine) : (dataV x).shown.length ≤ sizeLine := by
  have := (short_show x h hs).2
  omega
theorem repr_plain {μ : Mu} {x : Vl} {Q : DK} (h : plainV x = true) (hs : shortV x = true) (hd : depV x ≤ 64) (hn : 1932 * nodV x ≤ sizeLine) (q : Q (.str (dataV x).shown) μ) : fRepr [x] μ Q := by
  obtain ⟨h1, h2⟩ := short_show x h hs
  exact ⟨x, dataV x, rfl, datM_plain h, shaped_plain h hd, h1, by omega, q⟩
theorem datEq_plain {neg : Bool} {μ : Mu} {x y : Vl} {Q : DK} (hx : plainV x = true) (hy : plainV y = true) (dx : depV x ≤ 64) (dy : depV y ≤ 64) (q : Q (.bl (PyData.eqv (dataV x) (dataV y) != neg)) μ) : datEq neg x y μ Q :=
  ⟨_, _, datM_plain hx, datM_plain hy, shaped_plain hx dx, shaped_plain hy dy, q⟩

/-! whole numbers in a row -/
theorem plainVs_ints : ∀ r : List Int, plainVs (r.map .int) = true
  | [] => rfl
  | x :: r => by rw [List.map_cons, plainVs, plainVs_ints r]; rfl
theorem depVs_ints : ∀ r : List Int, depVs (r.map .int) = 0
  | [] => rfl
  | x :: r => by rw [List.map_cons, depVs, depVs_ints r]; rfl
theorem nodVs_ints : ∀ r : List Int, nodVs (r.map .int) = r.length
  | [] => rfl
  | x :: r => by rw [List.map_cons, nodVs, nodVs_ints r, nodV, List.length_cons]; omega
theorem dataVs_ints : ∀ r : List Int, dataVs (r.map .int) = r.map .int
  | [] => rfl
  | x :: r => by rw [List.map_cons, dataVs, dataVs_ints r]; rfl
theorem shortVs_ints : ∀ r : List Int, shortVs (r.map .int) = r.all fun i => decide (i.natAbs.log2 < 1920)
  | [] => rfl
  | x :: r => by rw [List.map_cons, shortVs, shortVs_ints r]; rfl
theorem eqvAll_ints : ∀ r s : List Int, PyData.eqvAll (r.map .int) (s.map .int) = decide (r = s)
  | [], [] => rfl
  | [], y :: s => by rw [List.map_nil, List.map_cons, PyData.eqvAll]; simp
  | x :: r, [] => by rw [List.map_nil, List.map_cons, PyData.eqvAll]; simp
  | x :: r, y :: s => by
    rw [List.map_cons, List.map_cons, PyData.eqvAll, eqvAll_ints r s]
    show ((x == y) && decide (r = s)) = _
    by_cases h1 : x = y <;> by_cases h2 : r = s <;> simp [h1, h2]
/-- == and != of tuples, of lists of whole numbers -/
theorem eq_tupI {neg : Bool} {μ : Mu} {r s : List Int} {Q : DK} (q : Q (.bl (decide (r = s) != neg)) μ) : dEqN neg (.tup (r.map .int)) (.tup (s.map .int)) μ Q := by
  refine datEq_plain (by rw [plainV]; exact plainVs_ints r) (by rw [plainV]; exact plainVs_ints s) (by rw [depV, depVs_ints]; omega) (by rw [depV, depVs_ints]; omega) ?_
  rw [dataV, dataV, dataVs_ints, dataVs_ints, PyData.eqv, eqvAll_ints]
  exact q
theorem eq_lstI {neg : Bool} {μ : Mu} {r s : List Int} {Q : DK} (q : Q (.bl (decide (r = s) != neg)) μ) : dEqN neg (.lst (r.map .int)) (.lst (s.map .int)) μ Q := by
  refine datEq_plain (by rw [plainV]; exact plainVs_ints r) (by rw [plainV]; exact plainVs_ints s) (by rw [depV, depVs_ints]; omega) (by rw [depV, depVs_ints]; omega) ?_
  rw [dataV, dataV, dataVs_ints, dataVs_ints, PyData.eqv, eqvAll_ints]
  exact q
end DL

/-! tests by cases; loops that keep something; the law's pen -/
namespace DL
open PySem PySem.Spec L2 StX PyProof.Rows
theorem dec_split {p : Prop} [Decidable p] {A B : Prop} (h1 : p → A) (h2 : ¬p → B) : (match decide p with
    | true => A
    | false => B) := by
  by_cases h : p
  · rw [decide_eq_true h]; exact h1 h
  · rw [decide_eq_false h]; exact h2 h
theorem dec_splitN {p : Prop} [Decidable p] {A B : Prop} (h1 : ¬p → A) (h2 : p → B) : (match (decide p != true) with
    | true => A
    | false => B) := by
  by_cases h : p
  · rw [decide_eq_true h]; exact h2 h
  · rw [decide_eq_false h]; exact h1 h
theorem dec_splitE {p : Prop} [Decidable p] {A B : Prop} (h1 : p → A) (h2 : ¬p → B) : (match (decide p != false) with
    | true => A
    | false => B) := by
  by_cases h : p
  · rw [decide_eq_true h]; exact h1 h
  · rw [decide_eq_false h]; exact h2 h
theorem dVar_at {i : Nat} {ρ : Rho} {μ : Mu} {Q : DK} {x : Vl} (h : ρ[i]? = some (some x)) (q : Q x μ) : dVar i ρ μ Q := by
  unfold dVar
  rw [h]; exact q
theorem dec_splitB {p : Prop} [Decidable p] {A B : Prop} (h1 : ¬p → A) (h2 : p → B) : (match (!decide p) with
    | true => A
    | false => B) := by
  by_cases h : p
  · rw [decide_eq_true h]; exact h2 h
  · rw [decide_eq_false h]; exact h1 h
theorem bool_split {b : Bool} {A B : Prop} (h1 : b = true → A) (h2 : b = false → B) : (match b with
    | true => A
    | false => B) := by
  cases b with
  | true => exact h1 rfl
  | false => exact h2 rfl
theorem bool_splitB {b : Bool} {A B : Prop} (h1 : b = false → A) (h2 : b = true → B) : (match !b with
    | true => A
    | false => B) := by
  cases b with
  | true => exact h2 rfl
  | false => exact h1 rfl
theorem bl_split {p : Prop} [Decidable p] {A B : Prop} (h1 : p → A) (h2 : ¬p → B) : (match Vl.bl (decide p) with
    | .bl true => A
    | .bl false => B
    | _ => False) := by
  by_cases h : p
  · rw [decide_eq_true h]; exact h1 h
  · rw [decide_eq_false h]; exact h2 h
/-- a loop that keeps something -/
theorem forD_inv {G : Mu → Prop} {g : DG} {body : DS} {d : DEnds} (I : List Vl → Rho → Mu → Prop) (hG : ∀ r ρ μ, I r ρ μ → G μ) (hn : ∀ ρ μ, I [] ρ μ → d.nx ρ μ)
    (hs : ∀ x r ρ μ, I (x :: r) ρ μ → ∀ D : DEnds, (∀ ρ' μ', I r ρ' μ' → D.nx ρ' μ') → D.rt = d.rt → (∀ ρ' μ', I r ρ' μ' → D.ct ρ' μ') → g x ρ μ fun ρ2 μ2 => body D ρ2 μ2) : ∀ (xs : List Vl) (ρ : Rho) (μ : Mu), I xs ρ μ → forD G g body d xs ρ μ
  | [], ρ, μ, h => ⟨hG _ _ _ h, hn _ _ h⟩
  | x :: r, ρ, μ, h => ⟨hG _ _ _ h, hs x r ρ μ h _ (fun ρ' μ' h' => forD_inv I hG hn hs r ρ' μ' h') rfl (fun ρ' μ' h' => forD_inv I hG hn hs r ρ' μ' h')⟩
/-- a comprehension that keeps something: what is left, what is made -/
theorem lcD_inv {G : Mu → Prop} {g : DG} {dt : DT} {de : DE} {ρ : Rho} {Q : List Vl → Mu → Prop} (I : List Vl → List Vl → Mu → Prop) (hG : ∀ r acc μ, I r acc μ → G μ) (hn : ∀ acc μ, I [] acc μ → Q acc μ)
    (hs : ∀ x r acc μ, I (x :: r) acc μ → ∀ D : List Vl → Mu → Prop, (∀ acc' μ', I r acc' μ' → D acc' μ') → g x ρ μ fun ρ2 μ2 => dt ρ2 μ2 fun b μ3 => match b with
      | true => de ρ2 μ3 fun y μ4 => D (acc ++ [y]) μ4
      | false => D acc μ3) : ∀ (xs acc : List Vl) (μ : Mu), I xs acc μ → lcD G g dt de ρ Q xs acc μ
  | [], acc, μ, h => ⟨hG _ _ _ h, hn _ _ h⟩
  | x :: r, acc, μ, h => ⟨hG _ _ _ h, hs x r acc μ h _ fun acc' μ' h' => lcD_inv I hG hn hs r acc' μ' h'⟩
/-- each item made by a function -/
theorem lc_map {α : Type} {G : Mu → Prop} {g : DG} {de : DE} {ρ : Rho} {Q : List Vl → Mu → Prop} {μ : Mu} (hG : G μ) (it : α → Vl) (f : α → Vl) : ∀ (xs : List α) (acc : List Vl), (∀ x ∈ xs, ∀ P : DK, P (f x) μ → g (it x) ρ μ fun ρ2 μ2 => de ρ2 μ2 P) → Q (acc ++ xs.map f) μ →
    lcD G g dYes de ρ Q (xs.map it) acc μ
  | [], acc, _, q => ⟨hG, by simpa using q⟩
  | x :: xs, acc, h, q => by
    refine ⟨hG, ?_⟩
    refine h x List.mem_cons_self _ ?_
    exact lc_map hG it f xs (acc ++ [f x]) (fun y hy => h y (List.mem_cons_of_mem _ hy)) (by simpa using q)
/-- each item kept or not, and made by a function -/
theorem lc_filter {α : Type} {G : Mu → Prop} {g : DG} {dt : DT} {de : DE} {ρ : Rho} {Q : List Vl → Mu → Prop} {μ : Mu} (hG : G μ) (it : α → Vl) (p : α → Bool) (f : α → Vl) : ∀ (xs : List α) (acc : List Vl),
    (∀ x ∈ xs, ∀ P : Bool → Mu → Prop, ∀ R : DK, (p x = true → R (f x) μ) → (p x = false → P false μ) → g (it x) ρ μ fun ρ2 μ2 => dt ρ2 μ2 fun b μ3 => match b with
      | true => de ρ2 μ3 R
      | false => P false μ3) → Q (acc ++ (xs.filter p).map f) μ →
    lcD G g dt de ρ Q (xs.map it) acc μ
  | [], acc, _, q => ⟨hG, by simpa using q⟩
  | x :: xs, acc, h, q => by
    refine ⟨hG, ?_⟩
    refine h x List.mem_cons_self (fun _ μ3 => lcD G g dt de ρ Q (xs.map it) acc μ3) _ (fun e => ?_) (fun e => ?_)
    · refine lc_filter hG it p f xs (acc ++ [f x]) (fun y hy => h y (List.mem_cons_of_mem _ hy)) ?_
      rw [List.filter_cons_of_pos e] at q
      simpa using q
    · refine lc_filter hG it p f xs acc (fun y hy => h y (List.mem_cons_of_mem _ hy)) ?_
      rw [List.filter_cons_of_neg (by rw [e]; exact Bool.false_ne_true)] at q
      exact q

/-! the pen: what the script holds, how far it is read, what is left of a great cell -/
def penM (ns : List Int) (a l : Int) : Mo := .lst [.lst (ns.map .int), .int a, .int l]
def c_draw : Ct := fun xs μ Q => ∃ (k : Nat) (ns : List Int) (a l many : Int), xs = [.ref k, .int many] ∧ μ[k]? = some (penM ns a l) ∧ (0 ≤ a ∧ a ≤ 1000000) ∧ 0 ≤ l ∧ many < 2 ^ 64 ∧
  ∀ d a' l' : Int, 0 ≤ d → (d < many ∨ d = 0) → a ≤ a' → a' ≤ a + 1 → 0 ≤ l' → Q (.int d) (μ.set k (penM ns a' l'))
theorem pure_rt {μ : Mu} {Q : DK} {x : Vl} (b : rfb μ.length x = true) (h : Q x μ) : (pureEnds μ Q).rt x μ := ⟨b, ⟨[], by simp⟩, h⟩
theorem pure_rt' {μ ex : Mu} {Q : DK} {x : Vl} (b : rfb μ.length x = true) (h : Q x μ) : (pureEnds μ Q).rt x (μ ++ ex) := ⟨b, ⟨ex, rfl⟩, h⟩
theorem l_draw : ∀ xs μ Q, c_draw xs μ Q → xs.length = 2 := by
  intro xs μ Q ⟨_, _, _, _, _, e, _⟩
  subst e; rfl
def c_pen : Ct := fun xs μ Q => ∃ ns : List Int, xs = [.frl (ns.map .int)] ∧ ns.length ≤ 63 ∧ Q (.ref μ.length) (μ ++ [penM ns 0 0])
theorem l_pen : ∀ xs μ Q, c_pen xs μ Q → xs.length = 1 := by
  intro xs μ Q ⟨_, e, _⟩
  subst e; rfl
def b_pen : DS :=
    (dRet (dLst (dCons (dCB fList (dCons (dSl (dVar 0) dNoPart (dPart (dC (.int 63)))) dNil)) (dCons (dC (.int 0)) (dCons (dC (.int 0)) dNil)))))
theorem r_pen : ∀ xs μ Q, c_pen xs μ Q → b_pen (spEnds Q) (startD ["script"] xs) μ := by
  intro xs μ Q ⟨ns, e, hn, q⟩
  subst e
  have e : cutD (ns.map Vl.int) none (some 63) = ns.map Vl.int := by
    unfold cutD
    rw [HT.sIx_none, show (63 : Int) = ((63 : Nat) : Int) from rfl, HT.sIx_nat, List.drop_zero, Nat.sub_zero]
    exact List.take_of_length_le (by rw [List.length_map]; omega)
  have hsl := sizeLine_eq
  refine ⟨_, rfl, .inl ?_⟩
  rw [e]
  refine ⟨_, ns.map .int, rfl, rfl, .inl ?_⟩
  exact ⟨by show 3 ≤ _; omega, .inr q⟩
def drawT (cA cB cC cD : Int) : DS :=
    (dSeq (dIf (dAndT (dTest (dOp dLt (dVar 3) (dCB fLen (dCons (dOp dIx (dVar 0) (dC (.int 0))) dNil)))) (dTest (dOp dGe (dCB fAbs (dCons (dVar 4) dNil)) (dOp dPow (dC (.int 10)) (dC (.int 18)))))) (dSeq (dAsg (dOp dAdd (dOp dMul (dC (.int 2)) (dOp (dI0 fun i j => .int (i - j)) (dCB fAbs (dCons (dVar 4) dNil)) (dOp dPow (dC (.int 10)) (dC (.int 18))))) (dCB fInt (dCons (dOp dLt (dVar 4) (dC (.int 0))) dNil))) (dgName 5))
    (dSeq (dAsg (dOp dFdiv (dCB fInt (dCons (dVar 5) dNil)) (dVar 1)) (dgIx (dVar 0) (dC (.int 2))))
    (dRet (dOp dMod (dCB fInt (dCons (dVar 5) dNil)) (dVar 1))))) dNext)
    (dSeq (dAsg (dOp dMod (dCB fInt (dCons (dOp dPow (dOp dAdd (dOp dAdd (dOp dMod (dCB fInt (dCons (dVar 4) dNil)) (dC (.int 2147483549))) (dOp dMul (dC (.int cC)) (dVar 3))) (dC (.int cB))) (dC (.int 3))) dNil)) (dC (.int 2147483629))) (dgName 6))
    (dSeq (dAsg (dOp dMod (dCB fInt (dCons (dOp dPow (dOp dAdd (dOp dAdd (dOp dMul (dVar 6) (dOp dAdd (dOp dMul (dC (.int 2)) (dVar 3)) (dC (.int cD)))) (dOp dMul (dOp dMul (dC (.int cA)) (dVar 3)) (dVar 3))) (dC (.int cC))) (dC (.int 5))) dNil)) (dC (.int 2147483563))) (dgName 6))
    (dRet (dOp dMod (dCB fInt (dCons (dOp dFdiv (dVar 6) (dC (.int 16))) dNil)) (dVar 1))))))
def drawB (cA cB cC cD : Int) : DS :=
    (dSeq (dIf (dTest (dOp dLt (dVar 1) (dC (.int 2)))) (dRet (dC (.int 0))) dNext)
    (dSeq (dIf (dTest (dOp dGt (dOp dIx (dVar 0) (dC (.int 2))) (dC (.int 0)))) (dSeq (dAsg (dOp dMod (dCB fInt (dCons (dOp dIx (dVar 0) (dC (.int 2))) dNil)) (dVar 1)) (dgName 2))
    (dSeq (dAsg (dOp dFdiv (dCB fInt (dCons (dOp dIx (dVar 0) (dC (.int 2))) dNil)) (dVar 1)) (dgIx (dVar 0) (dC (.int 2))))
    (dRet (dVar 2)))) dNext)
    (dSeq (dAsg (dOp dIx (dVar 0) (dC (.int 1))) (dgName 3))
    (dSeq (dAsg (dOp dAdd (dVar 3) (dC (.int 1))) (dgIx (dVar 0) (dC (.int 1))))
    (dSeq (dAsg (dOp dAdd (dOp dMul (dC (.int cA)) (dVar 3)) (dC (.int cB))) (dgName 4))
    (dSeq (dIf (dTest (dOp dNe (dOp dIx (dVar 0) (dC (.int 0))) (dLst dNil))) (dAsg (dOp dIx (dOp dIx (dVar 0) (dC (.int 0))) (dOp dMod (dCB fInt (dCons (dVar 3) dNil)) (dCB fLen (dCons (dOp dIx (dVar 0) (dC (.int 0))) dNil)))) (dgName 4)) dNext)
    (drawT cA cB cC cD)))))))

theorem atI_ints {ns : List Int} {i : Int} (h1 : 0 ≤ i) (h2 : i < (ns.length : Int)) : ∃ x, x ∈ ns ∧ atI (ns.map Vl.int) i = some (.int x) := by
  have hj : i.toNat < ns.length := by omega
  refine ⟨ns[i.toNat], List.getElem_mem hj, ?_⟩
  unfold atI
  unfold ixN
  rw [if_pos h1, List.length_map, if_pos h2]
  simp [hj]
theorem log_lt {i : Int} (h : i.natAbs < 2 ^ 64) : i.natAbs.log2 < 9000 := by
  by_cases hz : i.natAbs = 0
  · rw [hz]; decide
  · have := (Nat.log2_lt hz).mpr h
    omega
theorem set_set {μ : Mu} {k : Nat} {a b : Mo} : (μ.set k a).set k b = μ.set k b := List.set_set _
theorem set_get {μ : Mu} {k : Nat} {a b : Mo} (h : μ[k]? = some a) : (μ.set k b)[k]? = some b := by
  rw [List.getElem?_set_self (List.getElem?_eq_some_iff.mp h).1]
theorem set_same {μ : Mu} {k : Nat} {a : Mo} (h : μ[k]? = some a) : μ.set k a = μ := by
  obtain ⟨h1, h2⟩ := List.getElem?_eq_some_iff.mp h
  rw [← h2]; exact List.set_getElem_self h1
theorem fmod_lo {i m : Int} (h : 0 < m) : 0 ≤ i.fmod m := Int.fmod_nonneg_of_pos _ h
theorem fmod_hi {i m : Int} (h : 0 < m) : i.fmod m < m := Int.fmod_lt_of_pos _ h
theorem r_drawT {cA cB cC cD : Int} (hA : 0 ≤ cA ∧ cA < 1000000) (hB : 0 ≤ cB ∧ cB < 1000000) (hC : 0 ≤ cC ∧ cC < 1000000) (hD : 0 ≤ cD ∧ cD < 1000000) {μ : Mu} {k : Nat} {ns : List Int} {a many cell : Int} {Q : DK} (hk : μ[k]? = some (penM ns (a + 1) 0)) (ha : 0 ≤ a ∧ a ≤ 1000000) (h2 : 2 ≤ many) (hm : many < 2 ^ 64)
    (q : ∀ d l' : Int, 0 ≤ d → d < many → 0 ≤ l' → Q (.int d) (μ.set k (penM ns (a + 1) l'))) : drawT cA cB cC cD (spEnds Q) [some (.ref k), some (.int many), none, some (.int a), some (.int cell), none, none] μ := by
  have hsl := sizeLine_eq
  have vw : sview μ (.ref k) = some [.lst (ns.map .int), .int (a + 1), .int 0] := by
    show (match μ[k]? with
      | some (.lst xs) => some xs
      | _ => none) = _
    rw [hk]; rfl
  refine ⟨_, .lst (ns.map .int), vw, rfl, ?_⟩
  refine ⟨_, ns.map .int, rfl, rfl, ?_⟩
  have rest : (dSeq (dAsg (dOp dMod (dCB fInt (dCons (dOp dPow (dOp dAdd (dOp dAdd (dOp dMod (dCB fInt (dCons (dVar 4) dNil)) (dC (.int 2147483549))) (dOp dMul (dC (.int cC)) (dVar 3))) (dC (.int cB))) (dC (.int 3))) dNil)) (dC (.int 2147483629))) (dgName 6))
    (dSeq (dAsg (dOp dMod (dCB fInt (dCons (dOp dPow (dOp dAdd (dOp dAdd (dOp dMul (dVar 6) (dOp dAdd (dOp dMul (dC (.int 2)) (dVar 3)) (dC (.int cD)))) (dOp dMul (dOp dMul (dC (.int cA)) (dVar 3)) (dVar 3))) (dC (.int cC))) (dC (.int 5))) dNil)) (dC (.int 2147483563))) (dgName 6))
    (dRet (dOp dMod (dCB fInt (dCons (dOp dFdiv (dVar 6) (dC (.int 16))) dNil)) (dVar 1))))) (spEnds Q) [some (.ref k), some (.int many), none, some (.int a), some (.int cell), none, none] μ := by
    have m1 := fmod_lo (i := cell) (m := 2147483549) (by decide)
    have m2 := fmod_hi (i := cell) (m := 2147483549) (by decide)
    have c1 : 0 ≤ cC * a ∧ cC * a ≤ 1000000 * 1000000 := ⟨Int.mul_nonneg hC.1 ha.1, Int.mul_le_mul (by omega) ha.2 ha.1 (by decide)⟩
    refine ⟨by show (2147483549 : Int) ≠ 0; decide, .inl (by omega), ⟨by decide, by decide, by omega⟩, by show (2147483629 : Int) ≠ 0; decide, ?_⟩
    have rest2 : ∀ mx : Int, 0 ≤ mx → mx < 2147483629 → (dSeq (dAsg (dOp dMod (dCB fInt (dCons (dOp dPow (dOp dAdd (dOp dAdd (dOp dMul (dVar 6) (dOp dAdd (dOp dMul (dC (.int 2)) (dVar 3)) (dC (.int cD)))) (dOp dMul (dOp dMul (dC (.int cA)) (dVar 3)) (dVar 3))) (dC (.int cC))) (dC (.int 5))) dNil)) (dC (.int 2147483563))) (dgName 6))
        (dRet (dOp dMod (dCB fInt (dCons (dOp dFdiv (dVar 6) (dC (.int 16))) dNil)) (dVar 1)))) (spEnds Q) [some (.ref k), some (.int many), none, some (.int a), some (.int cell), none, some (.int mx)] μ := by
      intro mx n1 n2
      have c2 : 0 ≤ cA * a ∧ cA * a ≤ 1000000 * 1000000 := ⟨Int.mul_nonneg hA.1 ha.1, Int.mul_le_mul (by omega) ha.2 ha.1 (by decide)⟩
      have c3 : 0 ≤ cA * a * a ∧ cA * a * a ≤ 1000000 * 1000000 * 1000000 := ⟨Int.mul_nonneg c2.1 ha.1, Int.mul_le_mul c2.2 ha.2 ha.1 (by decide)⟩
      have c4 : 0 ≤ mx * (2 * a + cD) ∧ mx * (2 * a + cD) ≤ 2147483629 * 3000000 := ⟨Int.mul_nonneg n1 (by omega), Int.mul_le_mul (by omega) (by omega) (by omega) (by decide)⟩
      refine ⟨.inl (by decide), .inl (by omega), .inl (by omega), .inl (by omega), ⟨by decide, by decide, by omega⟩, by show (2147483563 : Int) ≠ 0; decide, ?_⟩
      refine ⟨⟨by decide, by decide⟩, by omega, ?_⟩
      have := q (((mx * (2 * a + cD) + cA * a * a + cC) ^ Int.toNat 5).fmod 2147483563 |>.fdiv 16 |>.fmod many) 0 (fmod_lo (by omega)) (fmod_hi (by omega)) (by omega)
      rw [set_same hk] at this
      exact this
    exact rest2 _ (fmod_lo (by decide)) (fmod_hi (by decide))
  refine dec_split (p := a < ((ns.map Vl.int).length : Int)) (fun h3 => ?_) (fun h3 => rest)
  refine ⟨⟨by decide, by decide, by decide⟩, ?_⟩
  refine dec_split (p := (10 : Int) ^ (18 : Int).toNat ≤ (if cell < 0 then -cell else cell)) (fun h4 => ?_) (fun h4 => rest)
  refine ⟨⟨by decide, by decide, by decide⟩, .inl (by decide), ?_⟩
  have hg : 0 ≤ 2 * ((if cell < 0 then -cell else cell) - (10 : Int) ^ (18 : Int).toNat) + (if decide (cell < 0) then 1 else 0) := by
    have : (0 : Int) ≤ (if decide (cell < 0) then 1 else 0) := by split <;> omega
    omega
  refine ⟨⟨by omega, log_lt (by omega)⟩, k, 2, _, 2, rfl, rfl, hk, rfl, ?_⟩
  refine ⟨by omega, ?_⟩
  exact q _ _ (fmod_lo (by omega)) (fmod_hi (by omega)) (Int.fdiv_nonneg hg (by omega))
theorem r_draw {cA cB cC cD : Int} (hA : 0 ≤ cA ∧ cA < 1000000) (hB : 0 ≤ cB ∧ cB < 1000000) (hC : 0 ≤ cC ∧ cC < 1000000) (hD : 0 ≤ cD ∧ cD < 1000000) : ∀ xs μ Q, c_draw xs μ Q → drawB cA cB cC cD (spEnds Q) (startD ["pen", "many", "digit", "at", "cell", "great", "mixed"] xs) μ := by
  intro xs μ Q ⟨k, ns, a, l, many, e, hk, ⟨ha, ha6⟩, hl, hm, q⟩
  subst e
  have hsl := sizeLine_eq
  have vw : ∀ {μ : Mu} {a l : Int}, μ[k]? = some (penM ns a l) → sview μ (.ref k) = some [.lst (ns.map .int), .int a, .int l] := by
    intro μ a l hk
    show (match μ[k]? with
      | some (.lst xs) => some xs
      | _ => none) = _
    rw [hk]; rfl
  refine dec_split (p := many < 2) (fun h => ?_) (fun h => ?_)
  · have := q 0 a l (by omega) (.inr rfl) (by omega) (by omega) hl
    rw [set_same hk] at this
    exact this
  refine ⟨_, .int l, vw hk, rfl, ?_⟩
  refine dec_split (p := 0 < l) (fun h2 => ?_) (fun h2 => ?_)
  · refine ⟨_, .int l, vw hk, rfl, by omega, ?_⟩
    refine ⟨_, .int l, vw hk, rfl, ⟨by omega, log_lt (by omega)⟩, ?_⟩
    refine ⟨k, 2, _, 2, rfl, rfl, hk, rfl, ?_⟩
    exact q _ a _ (fmod_lo (by omega)) (.inl (fmod_hi (by omega))) (by omega) (by omega) (Int.fdiv_nonneg (by omega) (by omega))
  have hl0 : l = 0 := by omega
  subst hl0
  refine ⟨_, .int a, vw hk, rfl, ?_⟩
  refine ⟨k, 1, _, 1, rfl, rfl, hk, rfl, ?_⟩
  refine ⟨.inl (by omega), ?_⟩
  have hk1 : (μ.set k (penM ns (a + 1) 0))[k]? = some (penM ns (a + 1) 0) := set_get hk
  have rest : ∀ cell : Int, drawT cA cB cC cD (spEnds Q) [some (.ref k), some (.int many), none, some (.int a), some (.int cell), none, none] (μ.set k (penM ns (a + 1) 0)) := by
    intro cell
    refine r_drawT hA hB hC hD hk1 ⟨ha, ha6⟩ (by omega) hm fun d l' h1 h2 h3 => ?_
    rw [set_set]
    exact q d _ l' h1 (.inl h2) (by omega) (by omega) h3
  refine ⟨_, .lst (ns.map .int), vw hk1, rfl, by show 0 ≤ _; omega, .inl ?_⟩
  refine eq_lstI (s := []) ?_
  refine dec_splitN (p := ns = []) (fun h3 => ?_) (fun h3 => rest _)
  have hn : 0 < ns.length := List.length_pos_iff.mpr h3
  refine ⟨_, .lst (ns.map .int), vw hk1, rfl, _, .lst (ns.map .int), vw hk1, rfl, _, ns.map .int, rfl, rfl, by rw [List.length_map]; omega, ?_⟩
  have lo := fmod_lo (i := a) (m := ((ns.map Vl.int).length : Int)) (by rw [List.length_map]; omega)
  have hi := fmod_hi (i := a) (m := ((ns.map Vl.int).length : Int)) (by rw [List.length_map]; omega)
  rw [List.length_map] at hi lo
  obtain ⟨x, _, hx⟩ := atI_ints lo hi
  exact ⟨ns.map .int, .int x, rfl, by rw [List.length_map]; exact hx, rest _⟩
end DL

namespace K26
/-! rows of whole numbers: what is reckoned, no program in sight -/
def leadFrom (k : Nat) : List Int → Option Nat
  | [] => none
  | x :: r => if x = 0 then leadFrom (k + 1) r else some k
def plus (r o : List Int) (t : Int) : List Int := List.zipWith (fun a b => a + t * b) r o
abbrev at0 (r : List Int) (j : Nat) : Int := r.getD j 0

theorem lead_spec : ∀ (r : List Int) (k p : Nat), leadFrom k r = some p → k ≤ p ∧ p - k < r.length ∧ at0 r (p - k) ≠ 0 ∧ ∀ j, j < p - k → at0 r j = 0
  | [], k, p, h => by cases h
  | x :: r, k, p, h => by
    rw [leadFrom] at h
    by_cases hx : x = 0
    · rw [if_pos hx] at h
      obtain ⟨h1, h2, h3, h4⟩ := lead_spec r (k + 1) p h
      have e : p - k = p - (k + 1) + 1 := by omega
      refine ⟨by omega, by rw [e, List.length_cons]; omega, by rw [e]; exact h3, fun j hj => ?_⟩
      cases j with
      | zero => exact hx
      | succ j => exact h4 j (by omega)
    · rw [if_neg hx] at h
      have e : k = p := Option.some.inj h
      subst e
      refine ⟨Nat.le_refl _, by simp, by simpa using hx, fun j hj => by omega⟩
theorem lead_none : ∀ (r : List Int) (k : Nat), leadFrom k r = none ↔ ∀ x ∈ r, x = 0
  | [], k => by simp [leadFrom]
  | x :: r, k => by
    rw [leadFrom]
    by_cases hx : x = 0
    · rw [if_pos hx, lead_none r (k + 1)]
      simp [hx]
    · rw [if_neg hx]
      simp [hx]
theorem lead_some {r : List Int} {p : Nat} (hp : p < r.length) (h : at0 r p ≠ 0) (hz : ∀ j, j < p → at0 r j = 0) : leadFrom 0 r = some p := by
  have gen : ∀ (r : List Int) (k p : Nat), p < r.length → at0 r p ≠ 0 → (∀ j, j < p → at0 r j = 0) → leadFrom k r = some (k + p) := by
    intro r
    induction r with
    | nil => intro k p hp; simp at hp
    | cons x r ih =>
      intro k p hp h hz
      rw [leadFrom]
      cases p with
      | zero =>
        rw [if_neg (by simpa using h)]; simp
      | succ p =>
        rw [if_pos (by simpa using hz 0 (by omega)), ih (k + 1) p (by simpa using hp) (by simpa using h) fun j hj => by simpa using hz (j + 1) (by omega)]
        congr 1; omega
  simpa using gen r 0 p hp h hz

/-! plus -/
theorem plus_len {r o : List Int} {t : Int} (h : r.length = o.length) : (plus r o t).length = r.length := by simp [plus, h]
theorem plus_at {r o : List Int} {t : Int} (h : r.length = o.length) (j : Nat) : at0 (plus r o t) j = at0 r j + t * at0 o j := by
  unfold plus at0
  by_cases hj : j < r.length
  · simp [List.getD_eq_getElem?_getD, List.getElem?_zipWith, List.getElem?_eq_getElem hj, List.getElem?_eq_getElem (h ▸ hj : j < o.length)]
  · have h1 : r[j]? = none := List.getElem?_eq_none (by omega)
    have h2 : o[j]? = none := List.getElem?_eq_none (by omega)
    simp [List.getD_eq_getElem?_getD, List.getElem?_zipWith, h1, h2]
theorem row_ext {r o : List Int} (h : r.length = o.length) (k : ∀ j, at0 r j = at0 o j) : r = o := by
  apply List.ext_getElem h
  intro i h1 h2
  have := k i
  simpa [at0, List.getD_eq_getElem?_getD, List.getElem?_eq_getElem h1, List.getElem?_eq_getElem h2] using this
theorem mem_at {r : List Int} {x : Int} (h : x ∈ r) : ∃ j, j < r.length ∧ at0 r j = x := by
  obtain ⟨j, hj, e⟩ := List.getElem_of_mem h
  exact ⟨j, hj, by simpa [at0, List.getD_eq_getElem?_getD, List.getElem?_eq_getElem hj] using e⟩
theorem at_mem {r : List Int} {j : Nat} (h : j < r.length) : at0 r j ∈ r := by
  have : at0 r j = r[j] := by simp [at0, List.getD_eq_getElem?_getD, List.getElem?_eq_getElem h]
  rw [this]; exact List.getElem_mem h
theorem all_zero {r : List Int} : (∀ x ∈ r, x = 0) ↔ ∀ j, at0 r j = 0 := by
  constructor
  · intro h j
    by_cases hj : j < r.length
    · exact h _ (at_mem hj)
    · simp [at0, List.getD_eq_getElem?_getD, List.getElem?_eq_none (Nat.le_of_not_lt hj)]
  · intro h x hx
    obtain ⟨j, _, e⟩ := mem_at hx
    rw [← e]; exact h j

/-! bases in echelon form -/
def Ech (w : Nat) : List (List Int) → Prop
  | [] => True
  | b :: t => b.length = w ∧ (∃ p, leadFrom 0 b = some p ∧ 0 < at0 b p ∧ ∀ b' ∈ t, at0 b' p = 0) ∧ Ech w t
def quo (b v : List Int) : Int := match leadFrom 0 b with
  | some p => (at0 v p).fdiv (at0 b p)
  | none => 0
def leftOf : List (List Int) → List Int → List Int
  | [], v => v
  | b :: t, v => leftOf t (plus v b (-(quo b v)))
def mults : List (List Int) → List Int → List Int
  | [], _ => []
  | b :: t, v => quo b v :: mults t (plus v b (-(quo b v)))
/-- v and so many times each row -/
def addM : List (List Int) → List Int → List Int → List Int
  | b :: t, m :: ms, v => addM t ms (plus v b m)
  | _, _, v => v
theorem leftOf_len {w : Nat} : ∀ {bs : List (List Int)} {v : List Int}, Ech w bs → v.length = w → (leftOf bs v).length = w
  | [], v, _, h => h
  | b :: t, v, e, h => leftOf_len (bs := t) (v := plus v b (-(quo b v))) e.2.2 (by rw [plus_len (by rw [h, e.1])]; exact h)
theorem addM_len {w : Nat} : ∀ {bs : List (List Int)} {ms v : List Int}, Ech w bs → v.length = w → (addM bs ms v).length = w
  | [], ms, v, _, h => by cases ms <;> exact h
  | b :: t, [], v, _, h => h
  | b :: t, m :: ms, v, e, h => addM_len (bs := t) (ms := ms) e.2.2 (by rw [plus_len (by rw [h, e.1])]; exact h)
theorem addM_plus {w : Nat} : ∀ {bs : List (List Int)} {ms v b : List Int} {t : Int}, (∀ b' ∈ bs, b'.length = w) → v.length = w → b.length = w → addM bs ms (plus v b t) = plus (addM bs ms v) b t
  | [], ms, v, b, t, _, _, _ => by cases ms <;> rfl
  | c :: bs, [], v, b, t, _, _, _ => rfl
  | c :: bs, m :: ms, v, b, t, hl, hv, hb => by
    have hc : c.length = w := hl c List.mem_cons_self
    show addM bs ms (plus (plus v b t) c m) = plus (addM bs ms (plus v c m)) b t
    rw [← addM_plus (fun b' h => hl b' (List.mem_cons_of_mem _ h)) (by rw [plus_len (by omega)]; exact hv) hb]
    congr 1
    apply row_ext
    · rw [plus_len (by rw [plus_len (by omega)]; omega), plus_len (by omega), plus_len (by rw [plus_len (by omega)]; omega), plus_len (by omega)]
    · intro j
      rw [plus_at (by rw [plus_len (by omega)]; omega), plus_at (by omega), plus_at (by rw [plus_len (by omega)]; omega), plus_at (by omega)]
      omega
theorem Ech.len {w : Nat} : ∀ {bs : List (List Int)}, Ech w bs → ∀ b ∈ bs, b.length = w
  | [], _, b, h => by cases h
  | c :: t, e, b, h => by
    rcases List.mem_cons.mp h with z | z
    · rw [z]; exact e.1
    · exact Ech.len e.2.2 b z
theorem addM_at {w p : Nat} : ∀ {bs : List (List Int)} {ms v : List Int}, (∀ b' ∈ bs, b'.length = w ∧ at0 b' p = 0) → v.length = w → at0 (addM bs ms v) p = at0 v p
  | [], ms, v, _, _ => by cases ms <;> rfl
  | b :: t, [], v, _, _ => rfl
  | b :: t, m :: ms, v, h, hv => by
    obtain ⟨hb, hz⟩ := h b List.mem_cons_self
    show at0 (addM t ms (plus v b m)) p = _
    rw [addM_at (fun b' h' => h b' (List.mem_cons_of_mem _ h')) (by rw [plus_len (by omega)]; exact hv), plus_at (by omega), hz]
    omega
theorem quo_eq {b v : List Int} {p : Nat} (h : leadFrom 0 b = some p) : quo b v = (at0 v p).fdiv (at0 b p) := by unfold quo; rw [h]
/-- the same is left, and as many more are taken -/
theorem left_add {w : Nat} : ∀ {bs : List (List Int)} {ms v : List Int}, Ech w bs → v.length = w → ms.length = bs.length → leftOf bs (addM bs ms v) = leftOf bs v ∧ mults bs (addM bs ms v) = List.zipWith (· + ·) (mults bs v) ms
  | [], ms, v, _, _, hm => by
    cases ms with
    | nil => exact ⟨rfl, rfl⟩
    | cons m ms => simp at hm
  | b :: t, [], v, _, _, hm => by simp at hm
  | b :: t, m :: ms, v, e, hv, hm => by
    obtain ⟨hb, ⟨p, hp, hpos, hz⟩, et⟩ := e
    have ht : ∀ b' ∈ t, b'.length = w ∧ at0 b' p = 0 := fun b' h => ⟨et.len b' h, hz b' h⟩
    have l1 : (plus v b m).length = w := by rw [plus_len (by omega)]; exact hv
    have lu : (addM t ms (plus v b m)).length = w := addM_len et l1
    have q : quo b (addM t ms (plus v b m)) = quo b v + m := by
      rw [quo_eq hp, quo_eq hp, addM_at ht l1, plus_at (by omega), Int.fdiv_eq_ediv_of_nonneg _ (by omega), Int.fdiv_eq_ediv_of_nonneg _ (by omega)]
      exact Int.add_mul_ediv_right _ _ (by omega)
    have key : plus (addM t ms (plus v b m)) b (-(quo b v + m)) = addM t ms (plus v b (-(quo b v))) := by
      rw [← addM_plus (fun b' h => (ht b' h).1) l1 hb]
      congr 1
      apply row_ext
      · rw [plus_len (by omega), plus_len (by omega), plus_len (by omega)]
      · intro j
        rw [plus_at (by omega), plus_at (by omega), plus_at (by omega), Int.neg_mul, Int.neg_mul, Int.add_mul]
        omega
    have lv : (plus v b (-(quo b v))).length = w := by rw [plus_len (by omega)]; exact hv
    obtain ⟨i1, i2⟩ := left_add (bs := t) (ms := ms) (v := plus v b (-(quo b v))) et lv (by simpa using hm)
    show leftOf t (plus (addM t ms (plus v b m)) b (-(quo b (addM t ms (plus v b m))))) = leftOf t (plus v b (-(quo b v))) ∧
      quo b (addM t ms (plus v b m)) :: mults t (plus (addM t ms (plus v b m)) b (-(quo b (addM t ms (plus v b m))))) = (quo b v + m) :: List.zipWith (· + ·) (mults t (plus v b (-(quo b v)))) ms
    rw [q, key, i1, i2]
    exact ⟨rfl, rfl⟩
def zeros (w : Nat) : List Int := List.replicate w 0
theorem zeros_at (w j : Nat) : at0 (zeros w) j = 0 := by
  unfold at0 zeros
  rw [List.getD_eq_getElem?_getD, List.getElem?_replicate]
  split <;> rfl
theorem plus_zero {w : Nat} {b : List Int} {t : Int} (hb : b.length = w) (ht : t = 0) : plus (zeros w) b t = zeros w := by
  subst ht
  apply row_ext
  · rw [plus_len (by simp [zeros, hb])]
  · intro j
    rw [plus_at (by simp [zeros, hb]), zeros_at]; omega
theorem left_zero {w : Nat} : ∀ {bs : List (List Int)}, Ech w bs → leftOf bs (zeros w) = zeros w ∧ mults bs (zeros w) = List.replicate bs.length 0
  | [], _ => ⟨rfl, rfl⟩
  | b :: t, e => by
    obtain ⟨hb, ⟨p, hp, hpos, hz⟩, et⟩ := e
    have q : quo b (zeros w) = 0 := by rw [quo_eq hp, zeros_at, Int.zero_fdiv]
    obtain ⟨i1, i2⟩ := left_zero et
    show leftOf t (plus (zeros w) b (-(quo b (zeros w)))) = _ ∧ quo b (zeros w) :: mults t (plus (zeros w) b (-(quo b (zeros w)))) = _
    rw [q, plus_zero hb (by omega), i1, i2]
    exact ⟨rfl, rfl⟩
theorem mults_len {bs : List (List Int)} : ∀ {v : List Int}, (mults bs v).length = bs.length := by
  induction bs with
  | nil => intro v; rfl
  | cons b t ih => intro v; show (mults t _).length + 1 = t.length + 1; rw [ih]
/-- what was taken, put back -/
theorem left_back {w : Nat} : ∀ {bs : List (List Int)} {v : List Int}, Ech w bs → v.length = w → addM bs (mults bs v) (leftOf bs v) = v
  | [], v, _, _ => rfl
  | b :: t, v, e, hv => by
    obtain ⟨hb, ⟨p, hp, hpos, hz⟩, et⟩ := e
    have lv : (plus v b (-(quo b v))).length = w := by rw [plus_len (by omega)]; exact hv
    show addM t (mults t (plus v b (-(quo b v)))) (plus (leftOf t (plus v b (-(quo b v)))) b (quo b v)) = v
    rw [addM_plus et.len (leftOf_len et lv) hb, left_back et lv]
    apply row_ext
    · rw [plus_len (by omega)]; omega
    · intro j
      rw [plus_at (by omega), plus_at (by omega), Int.neg_mul]; omega
/-- at each lead less is left than stands there, from 0 on -/
theorem left_small {w : Nat} : ∀ {bs : List (List Int)} {v : List Int}, Ech w bs → v.length = w → ∀ b ∈ bs, ∀ p, leadFrom 0 b = some p → 0 ≤ at0 (leftOf bs v) p ∧ at0 (leftOf bs v) p < at0 b p
  | [], v, _, _, b, h => by cases h
  | c :: t, v, e, hv, b, h => by
    obtain ⟨hc, ⟨p, hp, hpos, hz⟩, et⟩ := e
    have lv : (plus v c (-(quo c v))).length = w := by rw [plus_len (by omega)]; exact hv
    rcases List.mem_cons.mp h with z | z
    · subst z
      intro p' hp'
      rw [hp] at hp'
      have e := Option.some.inj hp'
      subst e
      have stay : at0 (leftOf t (plus v b (-(quo b v)))) p = at0 (plus v b (-(quo b v))) p := by
        have := addM_at (w := w) (p := p) (bs := t) (ms := mults t (plus v b (-(quo b v)))) (v := leftOf t (plus v b (-(quo b v)))) (fun b' h' => ⟨et.len b' h', hz b' h'⟩) (leftOf_len et lv)
        rw [← this, left_back et lv]
      show 0 ≤ at0 (leftOf t (plus v b (-(quo b v)))) p ∧ at0 (leftOf t (plus v b (-(quo b v)))) p < at0 b p
      rw [stay, plus_at (by omega), quo_eq hp, Int.fdiv_eq_ediv_of_nonneg _ (by omega)]
      have h1 := Int.emod_nonneg (at0 v p) (show at0 b p ≠ 0 by omega)
      have h2 := Int.emod_lt_of_pos (at0 v p) hpos
      rw [Int.emod_def] at h1 h2
      rw [Int.neg_mul, Int.mul_comm (at0 v p / at0 b p)]
      omega
    · exact left_small et lv b z
end K26

namespace K26
/-! one column made clean: which turns there are, how large the numbers get -/
def red (j : Nat) (f r : List Int) : List Int := plus r f (-((at0 r j).fdiv (at0 f j)))
def Flat (j w : Nat) (r : List Int) : Prop := r.length = w ∧ ∀ i, i < j → at0 r i = 0
theorem red_at {j w : Nat} {f r : List Int} (hf : f.length = w) (hr : r.length = w) (i : Nat) : at0 (red j f r) i = at0 r i - (at0 r j).fdiv (at0 f j) * at0 f i := by
  unfold red
  rw [plus_at (by omega), Int.neg_mul]; omega
theorem red_len {j w : Nat} {f r : List Int} (hf : f.length = w) (hr : r.length = w) : (red j f r).length = w := by
  unfold red
  rw [plus_len (by omega)]; exact hr
theorem red_flat {j w : Nat} {f r : List Int} (hf : Flat j w f) (hr : Flat j w r) : Flat j w (red j f r) := by
  refine ⟨red_len hf.1 hr.1, fun i hi => ?_⟩
  rw [red_at hf.1 hr.1, hf.2 i hi, hr.2 i hi]; omega
theorem red_own {j w : Nat} {f r : List Int} (hf : f.length = w) (hr : r.length = w) : at0 (red j f r) j = (at0 r j).fmod (at0 f j) := by
  rw [red_at hf hr]
  have := Int.fmod_def (at0 r j) (at0 f j)
  rw [Int.mul_comm] at this
  omega
/-- the remainder lies nearer to 0 than the divisor, with its sign -/
theorem fmod_near {a b : Int} (h : b ≠ 0) : (0 < b → 0 ≤ a.fmod b ∧ a.fmod b < b) ∧ (b < 0 → a.fmod b ≤ 0 ∧ b < a.fmod b) := by
  refine ⟨fun hb => ⟨Int.fmod_nonneg_of_pos _ hb, Int.fmod_lt_of_pos _ hb⟩, fun hb => ?_⟩
  have e : a.fmod b = -((-a).fmod (-b)) := by rw [Int.neg_fmod_neg]; omega
  have h1 := Int.fmod_nonneg_of_pos (-a) (show 0 < -b by omega)
  have h2 := Int.fmod_lt_of_pos (-a) (show 0 < -b by omega)
  omega
theorem fmod_abs {a b : Int} (h : b ≠ 0) : (a.fmod b).natAbs < b.natAbs := by
  obtain ⟨h1, h2⟩ := fmod_near (a := a) h
  by_cases hb : 0 < b
  · have := h1 hb; omega
  · have := h2 (by omega); omega
/-- of numbers of one sign, where the divisor is no larger, less than half is left -/
theorem fmod_half {a b : Int} (h : (0 < b ∧ b ≤ a) ∨ (b < 0 ∧ a ≤ b)) : 2 * (a.fmod b).natAbs < a.natAbs := by
  have hd := Int.fmod_def a b
  rcases h with ⟨hb, ha⟩ | ⟨hb, ha⟩
  · obtain ⟨l, u⟩ := (fmod_near (a := a) (show b ≠ 0 by omega)).1 hb
    have hq : 1 ≤ a.fdiv b := by
      apply Int.le_of_not_gt
      intro hq
      have : b * a.fdiv b ≤ b * 0 := Int.mul_le_mul_of_nonneg_left (by omega) (by omega)
      omega
    have : b * 1 ≤ b * a.fdiv b := Int.mul_le_mul_of_nonneg_left hq (by omega)
    omega
  · obtain ⟨l, u⟩ := (fmod_near (a := a) (show b ≠ 0 by omega)).2 hb
    have hq : 1 ≤ a.fdiv b := by
      apply Int.le_of_not_gt
      intro hq
      have : (-b) * a.fdiv b ≤ (-b) * 0 := Int.mul_le_mul_of_nonneg_left (by omega) (by omega)
      rw [Int.neg_mul] at this
      omega
    have : (-b) * 1 ≤ (-b) * a.fdiv b := Int.mul_le_mul_of_nonneg_left hq (by omega)
    rw [Int.neg_mul, Int.neg_mul] at this
    omega
theorem log_half {x y : Nat} (hx : x ≠ 0) (h : 2 * x < y) : x.log2 + 1 ≤ y.log2 := by
  have e : (2 * x).log2 = x.log2 + 1 := Nat.log2_two_mul hx
  rw [← e]
  rw [Nat.le_log2 (by omega)]
  have := Nat.log2_self_le (n := 2 * x) (by omega)
  omega
theorem fdiv_size {a b : Int} (h : b ≠ 0) : (a.fdiv b).natAbs * b.natAbs ≤ a.natAbs + b.natAbs := by
  have h1 := fmod_abs (a := a) h
  have h2 := Int.fmod_def a b
  rw [← Int.natAbs_mul]
  have e : a.fdiv b * b = a - a.fmod b := by rw [Int.mul_comm]; omega
  rw [e]
  omega
abbrev Small (B : Nat) (r : List Int) : Prop := ∀ x ∈ r, x.natAbs ≤ B
/-- where numbers times M stay below P, they stay below 3 * P after one turn -/
theorem red_big {j w M P : Nat} {f r : List Int} (hf : f.length = w) (hr : r.length = w) (h0 : at0 f j ≠ 0) (hfm : (at0 f j).natAbs ≤ M) (hrm : (at0 r j).natAbs ≤ M) (hfP : ∀ x ∈ f, x.natAbs * M ≤ P) (hrP : ∀ x ∈ r, x.natAbs * M ≤ P) :
    ∀ x ∈ red j f r, x.natAbs * (at0 f j).natAbs ≤ 3 * P := by
  intro x hx
  obtain ⟨i, hi, e⟩ := mem_at hx
  rw [red_len hf hr] at hi
  rw [red_at hf hr] at e
  rw [← e]
  have h1 := hrP _ (at_mem (j := i) (by omega))
  have h2 := hfP _ (at_mem (j := i) (by omega))
  have h3 := fdiv_size (a := at0 r j) h0
  generalize (at0 r j).fdiv (at0 f j) = q at *
  have t1 : (at0 r i - q * at0 f i).natAbs ≤ (at0 r i).natAbs + q.natAbs * (at0 f i).natAbs := by
    rw [← Int.natAbs_mul]; omega
  have t2 : (at0 r i).natAbs * (at0 f j).natAbs ≤ (at0 r i).natAbs * M := Nat.mul_le_mul_left _ hfm
  have t3 : q.natAbs * (at0 f i).natAbs * (at0 f j).natAbs = q.natAbs * (at0 f j).natAbs * (at0 f i).natAbs := by
    rw [Nat.mul_assoc, Nat.mul_comm (at0 f i).natAbs, ← Nat.mul_assoc]
  have t4 : q.natAbs * (at0 f j).natAbs * (at0 f i).natAbs ≤ (M + M) * (at0 f i).natAbs := Nat.mul_le_mul_right _ (by omega)
  have t5 : (M + M) * (at0 f i).natAbs = (at0 f i).natAbs * M + (at0 f i).natAbs * M := by rw [Nat.add_mul, Nat.mul_comm]
  calc (at0 r i - q * at0 f i).natAbs * (at0 f j).natAbs ≤ ((at0 r i).natAbs + q.natAbs * (at0 f i).natAbs) * (at0 f j).natAbs := Nat.mul_le_mul_right _ t1
    _ = (at0 r i).natAbs * (at0 f j).natAbs + q.natAbs * (at0 f i).natAbs * (at0 f j).natAbs := Nat.add_mul ..
    _ ≤ 3 * P := by omega
def Nn (n e : Nat) : Nat := n * (e + 1) + 1
def Pp (n e m : Nat) : Nat := 3 ^ (Nn n e - m) * 2 ^ (2 * e)
/-- so many turns are left at most -/
structure WI (j w n e : Nat) (m : Nat) (S R : List (List Int)) : Prop where
  hS : ∀ r ∈ S, Flat j w r ∧ at0 r j ≠ 0
  hR : ∀ r ∈ R, Flat (j + 1) w r
  cnt : S.length + R.length ≤ n
  big : (m = Nn n e ∧ (∀ r ∈ S, Small (2 ^ e) r) ∧ ∀ r ∈ R, Small (2 ^ e) r) ∨
    (m < Nn n e ∧ 2 ≤ n ∧ S ≠ [] ∧ ((∀ r ∈ S, 0 < at0 r j) ∨ (∀ r ∈ S, at0 r j < 0)) ∧ (S.map fun r => (at0 r j).natAbs.log2 + 1).sum ≤ m ∧
      (∃ M, M ≤ 2 ^ e ∧ ∀ r ∈ S, (at0 r j).natAbs ≤ M ∧ ∀ x ∈ r, x.natAbs * M ≤ Pp n e m) ∧ ∀ r ∈ R, Small (Pp n e m) r)
theorem at_small {B : Nat} {r : List Int} (h : Small B r) (j : Nat) : (at0 r j).natAbs ≤ B := by
  by_cases hj : j < r.length
  · exact h _ (at_mem hj)
  · have : at0 r j = 0 := by simp [at0, List.getD_eq_getElem?_getD, List.getElem?_eq_none (Nat.le_of_not_lt hj)]
    rw [this]; exact Nat.zero_le _
theorem WI.sized {j w n e m : Nat} {S R : List (List Int)} (h : WI j w n e m S R) : m ≤ Nn n e ∧ (∃ M, M ≤ 2 ^ e ∧ ∀ r ∈ S, (at0 r j).natAbs ≤ M ∧ ∀ x ∈ r, x.natAbs * M ≤ Pp n e m) ∧ ∀ r ∈ R, Small (Pp n e m) r := by
  rcases h.big with ⟨h1, h2, h3⟩ | ⟨h1, _, _, _, _, h2, h3⟩
  · have e2 : Pp n e m = 2 ^ e * 2 ^ e := by
      unfold Pp
      rw [h1, Nat.sub_self, Nat.pow_zero, Nat.one_mul, Nat.two_mul, Nat.pow_add]
    have e1 : 1 ≤ 2 ^ e := Nat.one_le_two_pow
    rw [e2]
    refine ⟨by omega, ⟨2 ^ e, Nat.le_refl _, fun r hr => ⟨at_small (h2 r hr) j, fun x hx => Nat.mul_le_mul_right _ (h2 r hr x hx)⟩⟩, fun r hr x hx => ?_⟩
    exact Nat.le_trans (h3 r hr x hx) (Nat.le_mul_of_pos_right _ e1)
  · exact ⟨by omega, h2, h3⟩
theorem sum_le_mul {l : List Nat} {c : Nat} (h : ∀ x ∈ l, x ≤ c) : l.sum ≤ l.length * c := by
  induction l with
  | nil => simp
  | cons x l ih =>
    have h1 := h x List.mem_cons_self
    have h2 := ih fun y hy => h y (List.mem_cons_of_mem _ hy)
    rw [List.sum_cons, List.length_cons, Nat.add_mul]
    omega
theorem sum_dec {α : Type} (g : α → α) (p : α → Bool) (c : α → Nat) : ∀ T : List α, (∀ r ∈ T, 1 ≤ c r ∧ (p (g r) = true → c (g r) + 1 ≤ c r)) → (((T.map g).filter p).map c).sum + T.length ≤ (T.map c).sum
  | [], _ => by simp
  | r :: T, h => by
    have ih := sum_dec g p c T fun y hy => h y (List.mem_cons_of_mem _ hy)
    obtain ⟨h1, h2⟩ := h r List.mem_cons_self
    rw [List.map_cons, List.map_cons, List.sum_cons, List.length_cons]
    cases hp : p (g r) with
    | true =>
      have h3 := h2 hp
      rw [List.filter_cons_of_pos hp, List.map_cons, List.sum_cons]
      omega
    | false =>
      rw [List.filter_cons_of_neg (by rw [hp]; exact Bool.false_ne_true)]
      omega
theorem filter_two {α : Type} (p : α → Bool) : ∀ T : List α, (T.filter p).length + (T.filter fun x => !p x).length = T.length
  | [] => rfl
  | x :: T => by
    have ih := filter_two p T
    cases hp : p x <;> simp [List.filter_cons, hp] <;> omega
abbrev isN (j : Nat) (r : List Int) : Bool := decide (¬ at0 r j = 0)
/-- one turn -/
theorem WI.turn {j w n e m : Nat} {A C R : List (List Int)} {f : List Int} (h : WI j w n e m (A ++ f :: C) R) (hmin : ∀ r ∈ A ++ f :: C, (at0 f j).natAbs ≤ (at0 r j).natAbs) (hl : 1 ≤ (A ++ C).length) :
    ∃ m', m' < m ∧ WI j w n e m' (f :: ((A ++ C).map (red j f)).filter (isN j)) (R ++ ((A ++ C).map (red j f)).filter fun r => !isN j r) := by
  have hf : f ∈ A ++ f :: C := by simp
  have hT : ∀ r ∈ A ++ C, r ∈ A ++ f :: C := fun r hr => by
    rcases List.mem_append.mp hr with z | z
    · exact List.mem_append.mpr (.inl z)
    · exact List.mem_append.mpr (.inr (List.mem_cons_of_mem _ z))
  have hlen : (A ++ f :: C).length = (A ++ C).length + 1 := by simp; omega
  obtain ⟨ff, f0⟩ := h.hS f hf
  obtain ⟨hm, ⟨M, hM, hbig⟩, hRs⟩ := h.sized
  have hcnt := h.cnt
  have hpos : 1 ≤ m := by
    rcases h.big with ⟨h1, _⟩ | ⟨_, _, _, _, h2, _⟩
    · rw [h1]; unfold Nn; omega
    · rw [List.map_append, List.map_cons, List.sum_append, List.sum_cons] at h2
      omega
  have hmem : ∀ r, r ∈ ((A ++ C).map (red j f)).filter (isN j) → (∃ o ∈ A ++ C, r = red j f o) ∧ at0 r j ≠ 0 := fun r hr => by
    obtain ⟨h1, h2⟩ := List.mem_filter.mp hr
    obtain ⟨o, ho, e⟩ := List.mem_map.mp h1
    exact ⟨⟨o, ho, e.symm⟩, by simpa [isN] using h2⟩
  have hmem' : ∀ r, r ∈ ((A ++ C).map (red j f)).filter (fun r => !isN j r) → (∃ o ∈ A ++ C, r = red j f o) ∧ at0 r j = 0 := fun r hr => by
    obtain ⟨h1, h2⟩ := List.mem_filter.mp hr
    obtain ⟨o, ho, e⟩ := List.mem_map.mp h1
    exact ⟨⟨o, ho, e.symm⟩, by simpa [isN] using h2⟩
  have eP : Pp n e (m - 1) = 3 * Pp n e m := by
    unfold Pp
    rw [show Nn n e - (m - 1) = (Nn n e - m) + 1 by omega, Nat.pow_succ, Nat.mul_comm _ 3, Nat.mul_assoc]
  have f1 : 1 ≤ (at0 f j).natAbs := by omega
  have hfM := (hbig f hf).1
  have redP : ∀ o ∈ A ++ C, ∀ x ∈ red j f o, x.natAbs * (at0 f j).natAbs ≤ 3 * Pp n e m := fun o ho =>
    red_big ff.1 (h.hS o (hT o ho)).1.1 f0 hfM (hbig o (hT o ho)).1 (hbig f hf).2 (hbig o (hT o ho)).2
  have redA : ∀ o ∈ A ++ C, at0 (red j f o) j = (at0 o j).fmod (at0 f j) := fun o ho => red_own ff.1 (h.hS o (hT o ho)).1.1
  refine ⟨m - 1, by omega, ⟨fun r hr => ?_, fun r hr => ?_, ?_, .inr ⟨by omega, by omega, by simp, ?_, ?_, ?_, ?_⟩⟩⟩
  · rcases List.mem_cons.mp hr with z | z
    · rw [z]; exact ⟨ff, f0⟩
    · obtain ⟨⟨o, ho, e⟩, h0⟩ := hmem r z
      refine ⟨?_, h0⟩
      rw [e]
      exact red_flat ff (h.hS o (hT o ho)).1
  · rcases List.mem_append.mp hr with z | z
    · exact h.hR r z
    · obtain ⟨⟨o, ho, e⟩, h0⟩ := hmem' r z
      have fl := red_flat ff (h.hS o (hT o ho)).1
      rw [← e] at fl
      refine ⟨fl.1, fun i hi => ?_⟩
      by_cases hij : i = j
      · rw [hij]; exact h0
      · exact fl.2 i (by omega)
  · have := filter_two (isN j) ((A ++ C).map (red j f))
    rw [List.length_map] at this
    rw [List.length_cons, List.length_append]
    omega
  · have near : ∀ o ∈ A ++ C, (0 < at0 f j → 0 ≤ at0 (red j f o) j) ∧ (at0 f j < 0 → at0 (red j f o) j ≤ 0) := fun o ho => by
      rw [redA o ho]
      exact ⟨fun k => ((fmod_near f0).1 k).1, fun k => ((fmod_near f0).2 k).1⟩
    by_cases hp : 0 < at0 f j
    · refine .inl fun r hr => ?_
      rcases List.mem_cons.mp hr with z | z
      · rw [z]; exact hp
      · obtain ⟨⟨o, ho, e⟩, h0⟩ := hmem r z
        have := (near o ho).1 hp
        rw [← e] at this
        omega
    · refine .inr fun r hr => ?_
      rcases List.mem_cons.mp hr with z | z
      · rw [z]; omega
      · obtain ⟨⟨o, ho, e⟩, h0⟩ := hmem r z
        have := (near o ho).2 (by omega)
        rw [← e] at this
        omega
  · rcases h.big with ⟨h1, h2, h3⟩ | ⟨h1, h2, h3, h4, h5, _⟩
    · have hle : ∀ x ∈ ((f :: ((A ++ C).map (red j f)).filter (isN j)).map fun r => (at0 r j).natAbs.log2 + 1), x ≤ e + 1 := by
        intro x hx
        obtain ⟨r, hr, e1⟩ := List.mem_map.mp hx
        rw [← e1]
        have small : (at0 r j).natAbs ≤ 2 ^ e := by
          rcases List.mem_cons.mp hr with z | z
          · rw [z]; omega
          · obtain ⟨⟨o, ho, e⟩, h0⟩ := hmem r z
            have := fmod_abs (a := at0 o j) f0
            rw [e, redA o ho]
            omega
        have h0 : (at0 r j).natAbs ≠ 0 := by
          rcases List.mem_cons.mp hr with z | z
          · rw [z]; omega
          · have := (hmem r z).2; omega
        have := (Nat.log2_lt h0).mpr (show (at0 r j).natAbs < 2 ^ (e + 1) by rw [Nat.pow_succ]; omega)
        omega
      refine Nat.le_trans (sum_le_mul hle) ?_
      have hc := filter_two (isN j) ((A ++ C).map (red j f))
      rw [List.length_map] at hc
      have hn : (f :: ((A ++ C).map (red j f)).filter (isN j)).length ≤ n := by rw [List.length_cons]; omega
      rw [h1]
      unfold Nn
      rw [List.length_map]
      have := Nat.mul_le_mul_right (e + 1) hn
      omega
    · have hd := sum_dec (red j f) (isN j) (fun r => (at0 r j).natAbs.log2 + 1) (A ++ C) fun o ho => by
        refine ⟨by omega, fun hp => ?_⟩
        have hp : at0 (red j f o) j ≠ 0 := by simpa [isN] using hp
        rw [redA o ho] at hp ⊢
        have hm := hmin o (hT o ho)
        have hhalf : 2 * ((at0 o j).fmod (at0 f j)).natAbs < (at0 o j).natAbs := by
          apply fmod_half
          rcases h4 with k | k
          · have := k f hf; have := k o (hT o ho); omega
          · have := k f hf; have := k o (hT o ho); omega
        have := log_half (by omega) hhalf
        omega
      rw [List.map_append, List.map_cons, List.sum_append, List.sum_cons] at h5
      have e3 : ((A ++ C).map fun r => (at0 r j).natAbs.log2 + 1).sum = (A.map fun r => (at0 r j).natAbs.log2 + 1).sum + (C.map fun r => (at0 r j).natAbs.log2 + 1).sum := by rw [List.map_append, List.sum_append]
      rw [e3] at hd
      rw [List.map_cons, List.sum_cons]
      omega
  · refine ⟨(at0 f j).natAbs, by omega, fun r hr => ?_⟩
    rw [eP]
    rcases List.mem_cons.mp hr with z | z
    · rw [z]
      refine ⟨Nat.le_refl _, fun x hx => ?_⟩
      have h1 := (hbig f hf).2 x hx
      have h2 : x.natAbs * (at0 f j).natAbs ≤ x.natAbs * M := Nat.mul_le_mul_left _ hfM
      omega
    · obtain ⟨⟨o, ho, e⟩, h0⟩ := hmem r z
      rw [e]
      refine ⟨?_, redP o ho⟩
      have := fmod_abs (a := at0 o j) f0
      rw [redA o ho]
      omega
  · intro r hr
    rw [eP]
    rcases List.mem_append.mp hr with z | z
    · intro x hx
      have := hRs r z x hx
      omega
    · obtain ⟨⟨o, ho, e⟩, h0⟩ := hmem' r z
      rw [e]
      intro x hx
      have h1 := redP o ho x hx
      have h2 : x.natAbs * 1 ≤ x.natAbs * (at0 f j).natAbs := Nat.mul_le_mul_left _ f1
      omega
end K26

namespace K26
/-! what holds between two columns -/
def Eb : Nat → Nat
  | 0 => 2934
  | 1 => 2934
  | 2 => 488
  | 3 => 60
  | _ => 5
def Fb : Nat → Nat
  | 0 => 6422
  | 1 => 3486
  | 2 => 550
  | 3 => 60
  | _ => 0
structure CI (j w n : Nat) (left found : List (List Int)) : Prop where
  n4 : n ≤ 4
  lft : ∀ r ∈ left, Flat j w r ∧ Small (2 ^ Eb n) r
  cnt : left.length ≤ n
  ech : Ech w found
  leads : ∀ b ∈ found, ∃ p, p < j ∧ leadFrom 0 b = some p
  fs : ∀ b ∈ found, Small (2 ^ Fb n) b
  all : found.length + n ≤ 4
theorem CI.start {j w n : Nat} {left found : List (List Int)} (h : CI j w n left found) : WI j w n (Eb n) (Nn n (Eb n)) (left.filter (isN j)) (left.filter fun r => !isN j r) := by
  refine ⟨fun r hr => ?_, fun r hr => ?_, ?_, .inl ⟨rfl, fun r hr => ?_, fun r hr => ?_⟩⟩
  · obtain ⟨h1, h2⟩ := List.mem_filter.mp hr
    exact ⟨(h.lft r h1).1, by simpa [isN] using h2⟩
  · obtain ⟨h1, h2⟩ := List.mem_filter.mp hr
    have fl := (h.lft r h1).1
    refine ⟨fl.1, fun i hi => ?_⟩
    by_cases hij : i = j
    · rw [hij]; simpa [isN] using h2
    · exact fl.2 i (by omega)
  · rw [filter_two]; exact h.cnt
  · exact (h.lft r (List.mem_filter.mp hr).1).2
  · exact (h.lft r (List.mem_filter.mp hr).1).2
theorem pow_le_four (k : Nat) : 3 ^ k ≤ 2 ^ (2 * k) := by
  rw [Nat.pow_mul]
  exact Nat.pow_le_pow_left (by decide) k
theorem Pp_le {n e m : Nat} : Pp n e m ≤ 2 ^ (2 * Nn n e + 2 * e) := by
  unfold Pp
  rw [Nat.pow_add]
  apply Nat.mul_le_mul_right
  refine Nat.le_trans (pow_le_four _) (Nat.pow_le_pow_right (by decide) (by omega))
theorem Small.mono {A B : Nat} {r : List Int} (h : Small A r) (k : A ≤ B) : Small B r := fun x hx => Nat.le_trans (h x hx) k
theorem Eb_next {n : Nat} (h1 : 2 ≤ n) (h2 : n ≤ 4) : 2 * Nn n (Eb n) + 2 * Eb n ≤ Eb (n - 1) := by
  match n, h1, h2 with
  | 2, _, _ => decide
  | 3, _, _ => decide
  | 4, _, _ => decide
theorem Eb_mono {n : Nat} (h1 : 1 ≤ n) (h2 : n ≤ 4) : Eb n ≤ Eb (n - 1) := by
  match n, h1, h2 with
  | 1, _, _ => decide
  | 2, _, _ => decide
  | 3, _, _ => decide
  | 4, _, _ => decide
/-- what the numbers keep below at the end of a column that had a number other than 0 -/
theorem WI.done {j w n m : Nat} {S R : List (List Int)} (h : WI j w n (Eb n) m S R) (h4 : n ≤ 4) (hS : S ≠ []) (h1 : S.length ≤ 1) : 1 ≤ n ∧ (∀ r ∈ S, Small (2 ^ Eb (n - 1)) r) ∧ (∀ r ∈ R, Small (2 ^ Eb (n - 1)) r) ∧ R.length ≤ n - 1 := by
  have hc := h.cnt
  have hp : 0 < S.length := List.length_pos_iff.mpr hS
  have n1 : 1 ≤ n := by omega
  rcases h.big with ⟨_, h2, h3⟩ | ⟨_, h2, _, hsg, hsum, ⟨M, hM, hb⟩, hR⟩
  · have e := Nat.pow_le_pow_right (n := 2) (by decide) (Eb_mono n1 h4)
    exact ⟨n1, fun r hr => (h2 r hr).mono e, fun r hr => (h3 r hr).mono e, by omega⟩
  · have e : Pp n (Eb n) m ≤ 2 ^ Eb (n - 1) := Nat.le_trans Pp_le (Nat.pow_le_pow_right (by decide) (Eb_next h2 h4))
    refine ⟨n1, fun r hr x hx => ?_, fun r hr => (hR r hr).mono e, by omega⟩
    obtain ⟨b1, b2⟩ := hb r hr
    have h0 := (h.hS r hr).2
    have := b2 x hx
    have g : x.natAbs * 1 ≤ x.natAbs * M := Nat.mul_le_mul_left _ (by omega)
    omega
def neg (r : List Int) : List Int := r.map fun x => -x
theorem neg_at (r : List Int) (i : Nat) : at0 (neg r) i = -at0 r i := by
  unfold neg at0
  rw [List.getD_eq_getElem?_getD, List.getD_eq_getElem?_getD, List.getElem?_map]
  cases r[i]? <;> simp
theorem neg_len (r : List Int) : (neg r).length = r.length := by simp [neg]
/-- the row with a positive number at j -/
def upR (j : Nat) (r : List Int) : List Int := if 0 < at0 r j then r else neg r
theorem upR_ok {j w B : Nat} {r : List Int} (h : Flat j w r) (h0 : at0 r j ≠ 0) (hs : Small B r) : Flat j w (upR j r) ∧ 0 < at0 (upR j r) j ∧ Small B (upR j r) := by
  unfold upR
  by_cases hp : 0 < at0 r j
  · rw [if_pos hp]; exact ⟨h, hp, hs⟩
  · rw [if_neg hp]
    refine ⟨⟨by rw [neg_len]; exact h.1, fun i hi => by rw [neg_at, h.2 i hi]; rfl⟩, by rw [neg_at]; omega, fun x hx => ?_⟩
    obtain ⟨y, hy, e⟩ := List.mem_map.mp hx
    rw [← e, Int.natAbs_neg]; exact hs y hy
theorem ech_snoc {j w : Nat} {row : List Int} (hr : Flat j w row) (hp : 0 < at0 row j) : ∀ {found : List (List Int)}, Ech w found → (∀ b ∈ found, ∃ p, p < j ∧ leadFrom 0 b = some p) → Ech w (found.map (red j row) ++ [row]) ∧ ∀ b ∈ found.map (red j row) ++ [row], ∃ p, p < j + 1 ∧ leadFrom 0 b = some p
  | [], _, _ => by
    have hj : j < row.length := by
      apply Nat.lt_of_not_le
      intro h
      have : at0 row j = 0 := by simp [at0, List.getD_eq_getElem?_getD, List.getElem?_eq_none h]
      omega
    have hl := lead_some hj (by omega) hr.2
    refine ⟨⟨hr.1, ⟨j, hl, hp, fun b' h => (by cases h)⟩, trivial⟩, fun b hb => ?_⟩
    have e : b = row := by simpa using hb
    rw [e]; exact ⟨j, by omega, hl⟩
  | b :: t, e, hl => by
    obtain ⟨hb, ⟨p, hp1, hp2, hz⟩, et⟩ := e
    obtain ⟨i1, i2⟩ := ech_snoc hr hp et fun b' h' => hl b' (List.mem_cons_of_mem _ h')
    obtain ⟨p', hp', e'⟩ := hl b List.mem_cons_self
    rw [hp1] at e'
    have e' := Option.some.inj e'
    subst e'
    obtain ⟨s1, s2, s3, s4⟩ := lead_spec b 0 p hp1
    have un : ∀ i, i < j → at0 (red j row b) i = at0 b i := fun i hi => by rw [red_at hr.1 hb, hr.2 i hi]; omega
    have hl' : leadFrom 0 (red j row b) = some p := lead_some (by rw [red_len hr.1 hb]; omega) (by rw [un p hp']; exact s3) fun i hi => by rw [un i (by omega)]; exact s4 i (by omega)
    refine ⟨⟨red_len hr.1 hb, ⟨p, hl', by rw [un p hp']; exact hp2, fun b' h' => ?_⟩, i1⟩, fun b' h' => ?_⟩
    · rcases List.mem_append.mp h' with z | z
      · obtain ⟨o, ho, eo⟩ := List.mem_map.mp z
        rw [← eo, red_at hr.1 (et.len o ho), hr.2 p hp', hz o ho]; omega
      · have ez : b' = row := by simpa using z
        rw [ez]; exact hr.2 p hp'
    · rw [List.map_cons, List.cons_append] at h'
      rcases List.mem_cons.mp h' with z | z
      · rw [z]; exact ⟨p, by omega, hl'⟩
      · exact i2 b' z
theorem red_small {j w F X : Nat} {row b : List Int} (hr : row.length = w) (hb : b.length = w) (hp : 0 < at0 row j) (hF : 1 ≤ F) (hX : 1 ≤ X) (h1 : Small X row) (h2 : Small F b) : Small (4 * (F * X)) (red j row b) := by
  intro x hx
  obtain ⟨i, hi, e⟩ := mem_at hx
  rw [red_len hr hb] at hi
  rw [red_at hr hb] at e
  rw [← e]
  have a1 := h2 _ (at_mem (j := i) (by omega))
  have a2 := h1 _ (at_mem (j := i) (by omega))
  have a3 := at_small h2 j
  have a4 := fdiv_size (a := at0 b j) (show at0 row j ≠ 0 by omega)
  generalize (at0 b j).fdiv (at0 row j) = q at *
  have a5 : q.natAbs ≤ F + 1 := by
    apply Nat.le_of_not_gt
    intro h
    have : (F + 2) * (at0 row j).natAbs ≤ q.natAbs * (at0 row j).natAbs := Nat.mul_le_mul_right _ h
    rw [Nat.add_mul] at this
    have : F * 1 ≤ F * (at0 row j).natAbs := Nat.mul_le_mul_left _ (by omega)
    omega
  have t1 : (at0 b i - q * at0 row i).natAbs ≤ (at0 b i).natAbs + q.natAbs * (at0 row i).natAbs := by
    rw [← Int.natAbs_mul]; omega
  have t2 : q.natAbs * (at0 row i).natAbs ≤ (F + 1) * X := Nat.mul_le_mul a5 a2
  rw [Nat.add_mul] at t2
  have t3 : F * 1 ≤ F * X := Nat.mul_le_mul_left _ hX
  have t4 : 1 * X ≤ F * X := Nat.mul_le_mul_right _ hF
  omega
theorem Fb_next {n : Nat} (h1 : 1 ≤ n) (h2 : n ≤ 4) (k : n ≤ 3) : Fb n + Eb (n - 1) + 2 ≤ Fb (n - 1) := by
  match n, h1, h2, k with
  | 1, _, _, _ => decide
  | 2, _, _, _ => decide
  | 3, _, _, _ => decide
theorem Eb_Fb {n : Nat} (h1 : 1 ≤ n) (h2 : n ≤ 4) : Eb (n - 1) ≤ Fb (n - 1) := by
  match n, h1, h2 with
  | 1, _, _ => decide
  | 2, _, _ => decide
  | 3, _, _ => decide
  | 4, _, _ => decide
abbrev isZ (r : List Int) : Bool := decide (¬ (r.filter fun x => decide (¬ x = 0)) = [])
theorem CI.none {j w n m : Nat} {left found R : List (List Int)} (h : CI j w n left found) (k : WI j w n (Eb n) m [] R) : CI (j + 1) w n (R.filter isZ) found := by
  refine ⟨h.n4, fun r hr => ?_, ?_, h.ech, fun b hb => ?_, h.fs, h.all⟩
  · have hr := (List.mem_filter.mp hr).1
    refine ⟨k.hR r hr, ?_⟩
    rcases k.big with ⟨_, _, h3⟩ | ⟨_, _, h3, _⟩
    · exact h3 r hr
    · exact absurd rfl h3
  · have := k.cnt
    have h2 := List.length_filter_le isZ R
    simp at this
    omega
  · obtain ⟨p, h1, h2⟩ := h.leads b hb
    exact ⟨p, by omega, h2⟩
theorem CI.one {j w n m : Nat} {left found R : List (List Int)} {r : List Int} (h : CI j w n left found) (k : WI j w n (Eb n) m [r] R) : CI (j + 1) w (n - 1) (R.filter isZ) (found.map (red j (upR j r)) ++ [upR j r]) := by
  obtain ⟨n1, s1, s2, s3⟩ := k.done h.n4 (by simp) (by simp)
  obtain ⟨f1, f2⟩ := k.hS r (by simp)
  obtain ⟨u1, u2, u3⟩ := upR_ok f1 f2 (s1 r (by simp))
  obtain ⟨e1, e2⟩ := ech_snoc u1 u2 h.ech h.leads
  have hall := h.all
  have h4 := h.n4
  refine ⟨by omega, fun r hr => ?_, ?_, e1, e2, fun b hb => ?_, ?_⟩
  · have hr := (List.mem_filter.mp hr).1
    exact ⟨k.hR r hr, s2 r hr⟩
  · have h2 := List.length_filter_le isZ R
    omega
  · rcases List.mem_append.mp hb with z | z
    · obtain ⟨o, ho, eo⟩ := List.mem_map.mp z
      rw [← eo]
      have hn3 : n ≤ 3 := by
        have : 0 < found.length := List.length_pos_iff.mpr (List.ne_nil_of_mem ho)
        omega
      refine (red_small u1.1 (h.ech.len o ho) u2 Nat.one_le_two_pow Nat.one_le_two_pow u3 (h.fs o ho)).mono ?_
      rw [← Nat.pow_add, show (4 : Nat) = 2 ^ 2 from rfl, ← Nat.pow_add]
      exact Nat.pow_le_pow_right (by decide) (by have := Fb_next n1 h.n4 hn3; omega)
    · have ez : b = upR j r := by simpa using z
      rw [ez]
      exact u3.mono (Nat.pow_le_pow_right (by decide) (Eb_Fb n1 h.n4))
  · simp
    omega
/-- the basis: echelon form, not too large -/
structure Bas (w : Nat) (bs : List (List Int)) : Prop where
  ech : Ech w bs
  len : bs.length ≤ 4
  small : ∀ b ∈ bs, Small (2 ^ 6422) b
theorem Fb_le (n : Nat) : Fb n ≤ 6422 := by
  match n with
  | 0 => decide
  | 1 => decide
  | 2 => decide
  | 3 => decide
  | n + 4 => exact Nat.zero_le _
theorem CI.fin {j w n : Nat} {left found : List (List Int)} (h : CI j w n left found) : Bas w found :=
  ⟨h.ech, by have := h.all; omega, fun b hb => (h.fs b hb).mono (Nat.pow_le_pow_right (by decide) (Fb_le n))⟩
theorem CI.first {w : Nat} {rows : List (List Int)} (h : ∀ r ∈ rows, r.length = w ∧ ∀ y ∈ r, -20 ≤ y ∧ y ≤ 20) (h4 : rows.length ≤ 4) : CI 0 w 4 rows [] :=
  ⟨Nat.le_refl _, fun r hr => ⟨⟨(h r hr).1, fun i hi => absurd hi (Nat.not_lt_zero _)⟩, fun x hx => by
    have := (h r hr).2 x hx
    show x.natAbs ≤ 2 ^ 5
    omega⟩, h4, trivial, fun b hb => (by cases hb), fun b hb => (by cases hb), Nat.le_refl _⟩
end K26

set_option exponentiation.threshold 300
namespace K26
/-! sums of rows; what the law asks of a basis -/
def sumR (rows : List (List Int)) (ms : List Int) (w : Nat) : List Int := (List.range w).map fun j => ((ms.zip rows).map fun p => p.1 * at0 p.2 j).sum
theorem sumR_len {rows : List (List Int)} {ms : List Int} {w : Nat} : (sumR rows ms w).length = w := by simp [sumR]
theorem sumR_at {rows : List (List Int)} {ms : List Int} {w j : Nat} (h : j < w) : at0 (sumR rows ms w) j = ((ms.zip rows).map fun p => p.1 * at0 p.2 j).sum := by
  unfold sumR at0
  rw [List.getD_eq_getElem?_getD, List.getElem?_map, List.getElem?_range h]
  rfl
theorem row_ext' {w : Nat} {r o : List Int} (hr : r.length = w) (ho : o.length = w) (k : ∀ j, j < w → at0 r j = at0 o j) : r = o := by
  apply row_ext (by omega)
  intro j
  by_cases hj : j < w
  · exact k j hj
  · simp [at0, List.getD_eq_getElem?_getD, List.getElem?_eq_none (show r.length ≤ j by omega), List.getElem?_eq_none (show o.length ≤ j by omega)]
theorem addM_sum {w j : Nat} : ∀ {bs : List (List Int)} {ms v : List Int}, (∀ b ∈ bs, b.length = w) → v.length = w → at0 (addM bs ms v) j = at0 v j + ((ms.zip bs).map fun p => p.1 * at0 p.2 j).sum
  | [], ms, v, _, _ => by cases ms <;> simp [addM]
  | b :: t, [], v, _, _ => by simp [addM]
  | b :: t, m :: ms, v, h, hv => by
    have hb := h b List.mem_cons_self
    show at0 (addM t ms (plus v b m)) j = _
    rw [addM_sum (fun b' h' => h b' (List.mem_cons_of_mem _ h')) (by rw [plus_len (by omega)]; exact hv), plus_at (by omega), List.zip_cons_cons, List.map_cons, List.sum_cons]
    show at0 v j + m * at0 b j + _ = at0 v j + (m * at0 b j + _)
    omega
theorem sum_addM {w : Nat} {bs : List (List Int)} {ms : List Int} (e : Ech w bs) : sumR bs ms w = addM bs ms (zeros w) := by
  refine row_ext' sumR_len (addM_len e (by simp [zeros])) fun j hj => ?_
  rw [sumR_at hj, addM_sum e.len (by simp [zeros]), zeros_at, Int.zero_add]
/-- r + i -/
theorem sum_two {w : Nat} {r i : List Int} {x y : Int} (hr : r.length = w) (hi : i.length = w) (j : Nat) (hj : j < w) : at0 (sumR [r, i] [x, y] w) j = x * at0 r j + y * at0 i j := by
  rw [sumR_at hj]
  simp
theorem add_inside {w : Nat} {bs : List (List Int)} {ms r : List Int} (e : Ech w bs) (hr : r.length = w) : sumR [r, sumR bs ms w] [1, 1] w = addM bs ms r := by
  refine row_ext' sumR_len (addM_len e hr) fun j hj => ?_
  rw [sum_two hr sumR_len j hj, addM_sum e.len hr, sumR_at hj]
  omega
theorem sub_left {w : Nat} {bs : List (List Int)} {r : List Int} (e : Ech w bs) (hr : r.length = w) : sumR [r, leftOf bs r] [1, -1] w = addM bs (mults bs r) (zeros w) := by
  have hl := leftOf_len e hr
  refine row_ext' sumR_len (addM_len e (by simp [zeros])) fun j hj => ?_
  have h1 := addM_sum (j := j) (ms := mults bs r) (v := leftOf bs r) e.len hl
  rw [left_back e hr] at h1
  rw [sum_two hr hl j hj, addM_sum e.len (by simp [zeros]), zeros_at]
  omega
theorem zeros_lead (w : Nat) : leadFrom 0 (zeros w) = none := by
  rw [lead_none]
  intro x hx
  exact List.eq_of_mem_replicate hx
theorem lead_zeros {w : Nat} {v : List Int} (hv : v.length = w) (h : leadFrom 0 v = none) : v = zeros w := by
  rw [lead_none] at h
  exact row_ext' hv (by simp [zeros]) fun j hj => by rw [zeros_at]; exact h _ (at_mem (by omega))
theorem left_inside {w : Nat} {bs : List (List Int)} {ms : List Int} (e : Ech w bs) (hm : ms.length = bs.length) : leftOf bs (addM bs ms (zeros w)) = zeros w ∧ mults bs (addM bs ms (zeros w)) = ms := by
  obtain ⟨h1, h2⟩ := left_add (v := zeros w) e (by simp [zeros]) hm
  obtain ⟨h3, h4⟩ := left_zero e
  refine ⟨h1.trans h3, ?_⟩
  rw [h2, h4]
  apply List.ext_getElem
  · simp [hm]
  · intro i g1 g2
    simp

/-! sizes -/
theorem Bas.tail {w : Nat} {b : List Int} {t : List (List Int)} (h : Bas w (b :: t)) : Bas w t :=
  ⟨h.ech.2.2, by have := h.len; simp at this; omega, fun b' h' => h.small b' (List.mem_cons_of_mem _ h')⟩
theorem quo_small {w k : Nat} {b v : List Int} {p : Nat} (hp : leadFrom 0 b = some p) (h0 : at0 b p ≠ 0) (hv : Small (2 ^ k) v) : (quo b v).natAbs ≤ 2 ^ (k + 1) := by
  rw [quo_eq hp]
  have a1 := fdiv_size (a := at0 v p) h0
  have a3 := at_small hv p
  generalize (at0 v p).fdiv (at0 b p) = q at *
  have e1 : 1 ≤ 2 ^ k := Nat.one_le_two_pow
  rw [Nat.pow_succ]
  apply Nat.le_of_not_gt
  intro h
  have h : 2 ^ k + 2 ≤ q.natAbs ∨ q.natAbs = 2 ^ k + 1 := by omega
  rcases h with h | h
  · have a2 : (2 ^ k + 2) * (at0 b p).natAbs ≤ q.natAbs * (at0 b p).natAbs := Nat.mul_le_mul_right _ h
    rw [Nat.add_mul] at a2
    have a4 : 2 ^ k * 1 ≤ 2 ^ k * (at0 b p).natAbs := Nat.mul_le_mul_left _ (by omega)
    omega
  · omega
theorem plus_small {w k : Nat} {b v : List Int} {q : Int} (hb : b.length = w) (hv : v.length = w) (hbs : Small (2 ^ 6422) b) (hvs : Small (2 ^ k) v) (hq : q.natAbs ≤ 2 ^ (k + 1)) : Small (2 ^ (k + 6424)) (plus v b (-q)) := by
  intro x hx
  obtain ⟨i, hi, e⟩ := mem_at hx
  rw [plus_len (by omega)] at hi
  rw [plus_at (by omega)] at e
  rw [← e]
  have a1 := hbs _ (at_mem (j := i) (by omega))
  have a2 := hvs _ (at_mem (j := i) (by omega))
  have t1 : (at0 v i + -q * at0 b i).natAbs ≤ (at0 v i).natAbs + q.natAbs * (at0 b i).natAbs := by
    rw [← Int.natAbs_neg q, ← Int.natAbs_mul]; omega
  have t2 : q.natAbs * (at0 b i).natAbs ≤ 2 ^ (k + 1) * 2 ^ 6422 := Nat.mul_le_mul hq a1
  rw [← Nat.pow_add] at t2
  have t3 : 2 ^ (k + 6424) = 2 ^ (k + 1 + 6422) * 2 := by rw [← Nat.pow_succ]
  have t4 : 2 ^ k ≤ 2 ^ (k + 1 + 6422) := Nat.pow_le_pow_right (by decide) (by omega)
  omega
theorem left_sized {w : Nat} : ∀ {bs : List (List Int)} {v : List Int} {k : Nat}, Bas w bs → v.length = w → Small (2 ^ k) v → k < 100000 → (∀ m ∈ mults bs v, m.natAbs ≤ 2 ^ (k + 30000)) ∧ Small (2 ^ (k + 6424 * bs.length)) (leftOf bs v)
  | [], v, k, _, _, hs, _ => ⟨fun m h => (by cases h), hs⟩
  | b :: t, v, k, B, hv, hs, hk => by
    have hT := B.tail
    have hb4 := B.len
    rw [List.length_cons] at hb4
    obtain ⟨hb, ⟨p, hp, hpos, hz⟩, et⟩ := B.ech
    have q := quo_small (w := w) hp (by omega) hs
    have ps := plus_small hb hv (B.small b List.mem_cons_self) hs q
    have pl : (plus v b (-(quo b v))).length = w := by rw [plus_len (by omega)]; exact hv
    have rest : ∀ (t : List (List Int)) (v : List Int) (k : Nat), Bas w t → v.length = w → Small (2 ^ k) v → (∀ m ∈ mults t v, m.natAbs ≤ 2 ^ (k + 6424 * t.length + 1)) ∧ Small (2 ^ (k + 6424 * t.length)) (leftOf t v) := by
      intro t
      induction t with
      | nil => intro v k _ _ hs; exact ⟨fun m h => (by cases h), hs⟩
      | cons c t ih =>
        intro v k B hv hs
        obtain ⟨hb, ⟨p, hp, hpos, hz⟩, et⟩ := B.ech
        have q := quo_small (w := w) hp (by omega) hs
        obtain ⟨i1, i2⟩ := ih (plus v c (-(quo c v))) (k + 6424) B.tail (by rw [plus_len (by omega)]; exact hv) (plus_small hb hv (B.small c List.mem_cons_self) hs q)
        rw [List.length_cons]
        refine ⟨fun m hm => ?_, ?_⟩
        · rcases List.mem_cons.mp hm with z | z
          · rw [z]; exact Nat.le_trans q (Nat.pow_le_pow_right (by decide) (by omega))
          · rw [show k + 6424 * (t.length + 1) + 1 = k + 6424 + 6424 * t.length + 1 by omega]; exact i1 m z
        · rw [show k + 6424 * (t.length + 1) = k + 6424 + 6424 * t.length by omega]; exact i2
    obtain ⟨i1, i2⟩ := rest (b :: t) v k B hv hs
    rw [List.length_cons] at i1 i2 ⊢
    exact ⟨fun m hm => Nat.le_trans (i1 m hm) (Nat.pow_le_pow_right (by decide) (by omega)), i2⟩
theorem sum_abs {c : Nat} : ∀ {l : List Int}, (∀ x ∈ l, x.natAbs ≤ c) → l.sum.natAbs ≤ l.length * c
  | [], _ => by simp
  | x :: l, h => by
    have h1 := h x List.mem_cons_self
    have h2 := sum_abs fun y hy => h y (List.mem_cons_of_mem _ hy)
    rw [List.sum_cons, List.length_cons, Nat.add_mul]
    omega
theorem sum_small {a b w : Nat} {rows : List (List Int)} {ms : List Int} (h4 : rows.length ≤ 4) (hr : ∀ r ∈ rows, Small (2 ^ b) r) (hm : ∀ m ∈ ms, m.natAbs ≤ 2 ^ a) : Small (2 ^ (a + b + 2)) (sumR rows ms w) := by
  intro x hx
  obtain ⟨j, hj, e⟩ := mem_at hx
  rw [sumR_len] at hj
  rw [sumR_at hj] at e
  rw [← e]
  have h := sum_abs (c := 2 ^ a * 2 ^ b) (l := (ms.zip rows).map fun p => p.1 * at0 p.2 j) fun x hx => by
    obtain ⟨p, hp, e⟩ := List.mem_map.mp hx
    rw [← e, Int.natAbs_mul]
    exact Nat.mul_le_mul (hm _ (List.of_mem_zip hp).1) (at_small (hr _ (List.of_mem_zip hp).2) j)
  rw [List.length_map, List.length_zip] at h
  have e2 : 2 ^ (a + b + 2) = 4 * (2 ^ a * 2 ^ b) := by rw [Nat.pow_add, Nat.pow_add, Nat.mul_comm]
  rw [e2]
  exact Nat.le_trans h (Nat.mul_le_mul_right _ (by omega))
end K26

namespace K26
open PySem PySem.Spec L2 StX PyProof.Rows DL
def rowV (r : List Int) : Vl := .tup (r.map .int)
def leadV : Option Nat → Vl
  | some i => .int (i : Int)
  | none => .non
def c_lead : Ct := fun xs μ Q => ∃ (x : Vl) (r : List Int), xs = [x] ∧ sview μ x = some (r.map .int) ∧ Q (leadV (leadFrom 0 r)) μ
def b_lead : DS :=
    (dSeq (dFor (dEnum (dCons (dVar 0) dNil)) (dgTup 2 (dgCons (dgName 1) (dgCons (dgName 2) dgNil))) (dIf (dTest (dOp dNe (dVar 2) (dC (.int 0)))) (dRet (dVar 1)) dNext))
    (dRet (dC .non)))
def numF (k : Nat) : List Vl → List Vl
  | [] => []
  | x :: r => .tup [.int (k : Int), x] :: numF (k + 1) r
theorem numbered_eq (xs : List Vl) : numbered xs = numF 0 xs := by
  have : ∀ (xs : List Vl) (k : Nat), (xs.mapIdx fun i x => Vl.tup [.int ((i + k : Nat) : Int), x]) = numF k xs := by
    intro xs
    induction xs with
    | nil => intro k; rfl
    | cons x r ih =>
      intro k
      rw [List.mapIdx_cons, numF, ← ih (k + 1)]
      congr 1
      · simp
      · congr 1
        funext i x
        have e : i + 1 + k = i + (k + 1) := by omega
        rw [e]
  exact this xs 0
theorem pure_rt {μ : Mu} {Q : DK} {x : Vl} (b : rfb μ.length x = true) (h : Q x μ) : (pureEnds μ Q).rt x μ := ⟨b, ⟨[], by simp⟩, h⟩
theorem rfbs_ints {n : Nat} : ∀ r : List Int, rfbs n (r.map Vl.int) = true
  | [] => by rw [List.map_nil, rfbs]
  | x :: r => by
    rw [List.map_cons, rfbs, rfbs_ints r, rfb] <;> simp
theorem rfb_row {n : Nat} {r : List Int} : rfb n (rowV r) = true := by
  unfold rowV
  rw [rfb]
  exact rfbs_ints r
theorem rfb_lead {n : Nat} {o : Option Nat} : rfb n (leadV o) = true := by
  cases o <;> (unfold leadV; rw [rfb] <;> simp)
theorem l_lead : ∀ xs μ Q, c_lead xs μ Q → xs.length = 1 := by
  intro xs μ Q ⟨x, r, e, _⟩
  subst e; rfl
theorem lead_loop {G : Mu → Prop} {d : DEnds} {μ : Mu} {x : Option Vl} (hG : G μ) (hn : ∀ ρ, d.nx ρ μ → d.rt .non μ) : ∀ (r : List Int) (k : Nat) (o1 o2 : Option Vl), d.rt (leadV (leadFrom k r)) μ → (∀ ρ, d.rt .non μ → d.nx ρ μ) →
    forD G (dgTup 2 (dgCons (dgName 1) (dgCons (dgName 2) dgNil))) (dIf (dTest (dOp dNe (dVar 2) (dC (.int 0)))) (dRet (dVar 1)) dNext) d (numF k (r.map .int)) [x, o1, o2] μ
  | [], k, o1, o2, h, hx => ⟨hG, hx _ h⟩
  | y :: r, k, o1, o2, h, hx => by
    refine ⟨hG, rfl, ?_⟩
    by_cases hy : y = 0
    · subst hy
      refine ⟨rfl, ?_⟩
      exact lead_loop hG hn r (k + 1) _ _ h hx
    · refine ⟨rfl, ?_⟩
      have e : leadFrom k (y :: r) = some k := by rw [leadFrom, if_neg hy]
      rw [e] at h
      have e2 : (decide (y = 0) != true) = true := by simp [hy]
      show (match (decide (y = 0) != true) with
        | true => _
        | false => _)
      rw [e2]
      exact h
theorem r_lead : ∀ xs μ Q, c_lead xs μ Q → b_lead (pureEnds μ Q) (startD ["row", "place", "number"] xs) μ := by
  intro xs μ Q ⟨x, r, e, hx, q⟩
  subst e
  refine ⟨x, r.map .int, rfl, hx, ?_⟩
  rw [numbered_eq]
  have hG : asLong (r.map .int) x μ := by
    cases x with
    | ref k => exact mview_ref (by simpa [sview, lview, mview] using hx)
    | _ => trivial
  exact lead_loop (d := { pureEnds μ Q with nx := fun ρ' μ' => dRet (dC .non) (pureEnds μ Q) ρ' μ' }) hG (fun _ h => h) r 0 none none (pure_rt rfb_lead q) (fun _ h => h)

/-! plus -/
def c_plus : Ct := fun xs μ Q => ∃ (r o : List Int) (t : Int), xs = [rowV r, rowV o, .int t] ∧ (∀ y ∈ o, MulOk t y) ∧ Q (rowV (plus r o t)) μ
def b_plus : DS :=
    (dRet (dCB fTuple (dCons (dLc (dZip (dCons (dVar 0) (dCons (dVar 1) dNil))) (dgTup 2 (dgCons (dgName 3) (dgCons (dgName 4) dgNil))) dYes (dOp dAdd (dVar 3) (dOp dMul (dVar 2) (dVar 4))) [3, 4]) dNil)))
/-- a comprehension whose items are each made by a function -/
theorem lc_map {α : Type} {G : Mu → Prop} {g : DG} {de : DE} {ρ : Rho} {Q : List Vl → Mu → Prop} {μ : Mu} (hG : G μ) (it : α → Vl) (f : α → Vl) : ∀ (xs : List α) (acc : List Vl), (∀ x ∈ xs, ∀ P : DK, P (f x) μ → g (it x) ρ μ fun ρ2 μ2 => de ρ2 μ2 P) → Q (acc ++ xs.map f) μ →
    lcD G g dYes de ρ Q (xs.map it) acc μ
  | [], acc, _, q => ⟨hG, by simpa using q⟩
  | x :: xs, acc, h, q => by
    refine ⟨hG, ?_⟩
    refine h x List.mem_cons_self _ ?_
    exact lc_map hG it f xs (acc ++ [f x]) (fun y hy => h y (List.mem_cons_of_mem _ hy)) (by simpa using q)
theorem zip_rows (r o : List Int) : zipD (r.map .int) (o.map .int) = (r.zip o).map fun p => Vl.tup [.int p.1, .int p.2] := by
  unfold zipD
  rw [List.zip_map, List.map_map]
  rfl
theorem plus_zip (r o : List Int) (t : Int) : ([] : List Vl) ++ (r.zip o).map (fun p => Vl.int (p.1 + t * p.2)) = (plus r o t).map .int := by
  unfold plus
  rw [List.nil_append]
  induction r generalizing o with
  | nil => rfl
  | cons x r ih => cases o with
    | nil => rfl
    | cons y o => 
      rw [List.zip_cons_cons, List.map_cons, ih, List.zipWith_cons_cons, List.map_cons]
theorem r_plus : ∀ xs μ Q, c_plus xs μ Q → b_plus (pureEnds μ Q) (startD ["row", "other", "times", "one", "its"] xs) μ := by
  intro xs μ Q ⟨r, o, t, e, hm, q⟩
  subst e
  refine ⟨_, _, r.map .int, o.map .int, rfl, rfl, rfl, ?_⟩
  rw [zip_rows]
  refine lc_map ⟨trivial, trivial⟩ _ (fun p => Vl.int (p.1 + t * p.2)) _ _ (fun p hp P hP => ?_) ?_
  · exact ⟨rfl, rfl, hm p.2 (List.of_mem_zip hp).2, hP⟩
  · refine .inl ⟨_, _, rfl, rfl, ?_⟩
    have e := plus_zip r o t
    rw [e]
    exact pure_rt rfb_row q
end K26

namespace K26
open PySem PySem.Spec L2 StX PyProof.Rows DL
/-- an own law for for: a rest that is kept -/
theorem forD_inv {G : Mu → Prop} {g : DG} {body : DS} {d : DEnds} (I : List Vl → Rho → Mu → Prop) (hG : ∀ r ρ μ, I r ρ μ → G μ) (hn : ∀ ρ μ, I [] ρ μ → d.nx ρ μ)
    (hs : ∀ x r ρ μ, I (x :: r) ρ μ → ∀ D : DEnds, (∀ ρ' μ', I r ρ' μ' → D.nx ρ' μ') → D.rt = d.rt → (∀ ρ' μ', I r ρ' μ' → D.ct ρ' μ') → g x ρ μ fun ρ2 μ2 => body D ρ2 μ2) : ∀ (xs : List Vl) (ρ : Rho) (μ : Mu), I xs ρ μ → forD G g body d xs ρ μ
  | [], ρ, μ, h => ⟨hG _ _ _ h, hn _ _ h⟩
  | x :: r, ρ, μ, h => ⟨hG _ _ _ h, hs x r ρ μ h _ (fun ρ' μ' h' => forD_inv I hG hn hs r ρ' μ' h') rfl (fun ρ' μ' h' => forD_inv I hG hn hs r ρ' μ' h')⟩
def LeftOk : List (List Int) → List Int → Prop
  | [], _ => True
  | b :: t, v => (∃ p, leadFrom 0 b = some p ∧ p < v.length ∧ (at0 b p).natAbs.log2 < 9000 ∧ ∀ y ∈ b, MulOk (-(quo b v)) y) ∧ LeftOk t (plus v b (-(quo b v)))
theorem atI_at {r : List Int} {p : Nat} (h : p < r.length) : atI (r.map Vl.int) (p : Int) = some (.int (at0 r p)) := by
  unfold atI
  rw [List.length_map]
  unfold ixN
  rw [if_pos (by omega), if_pos (by omega)]
  simp [at0, List.getD_eq_getElem?_getD, List.getElem?_eq_getElem h]
def c_left_of : Ct := fun xs μ Q => ∃ (bs : List (List Int)) (r : List Int), xs = [.tup (bs.map rowV), rowV r] ∧ LeftOk bs r ∧ Q (rowV (leftOf bs r)) μ
def b_left_of : DS :=
    (dSeq (dAsg (dCB fTuple (dCons (dVar 1) dNil)) (dgName 2))
    (dSeq (dFor (dIter (dVar 0)) (dgName 3) (dSeq (dAsg (dCall c_lead (dCons (dVar 3) dNil)) (dgName 4))
    (dAsg (dCall c_plus (dCons (dVar 2) (dCons (dVar 3) (dCons (dNeg (dOp dFdiv (dOp dIx (dVar 2) (dVar 4)) (dOp dIx (dVar 3) (dVar 4)))) dNil)))) (dgName 2))))
    (dRet (dVar 2))))
theorem left_loop {μ : Mu} {d : DEnds} {x y : Option Vl} : ∀ (bs : List (List Int)) (v : List Int) (o3 o4 : Option Vl), LeftOk bs v → (∀ o3 o4, d.nx [x, y, some (rowV (leftOf bs v)), o3, o4] μ) →
    forD (fun _ => True) (dgName 3) (dSeq (dAsg (dCall c_lead (dCons (dVar 3) dNil)) (dgName 4))
    (dAsg (dCall c_plus (dCons (dVar 2) (dCons (dVar 3) (dCons (dNeg (dOp dFdiv (dOp dIx (dVar 2) (dVar 4)) (dOp dIx (dVar 3) (dVar 4)))) dNil)))) (dgName 2))) d (bs.map rowV) [x, y, some (rowV v), o3, o4] μ
  | [], v, o3, o4, _, h => ⟨trivial, h _ _⟩
  | b :: t, v, o3, o4, ⟨⟨p, hp, hl, h9, hm⟩, ht⟩, h => by
    obtain ⟨s1, s2, s3, s4⟩ := lead_spec b 0 p hp
    refine ⟨trivial, _, b, rfl, rfl, ?_⟩
    rw [hp]
    refine ⟨v.map .int, _, rfl, atI_at hl, b.map .int, _, rfl, atI_at (by omega), ⟨s3, h9⟩, ?_⟩
    have L := left_loop (d := d) (x := x) (y := y) t _ (some (rowV b)) (some (leadV (some p))) ht h
    rw [quo_eq (v := v) hp] at L hm
    exact ⟨v, b, _, rfl, hm, L⟩
theorem l_left_of : ∀ xs μ Q, c_left_of xs μ Q → xs.length = 2 := by
  intro xs μ Q ⟨bs, r, e, _⟩
  subst e; rfl
theorem r_left_of : ∀ xs μ Q, c_left_of xs μ Q → b_left_of (pureEnds μ Q) (startD ["basis", "row", "left", "held", "place"] xs) μ := by
  intro xs μ Q ⟨bs, r, e, h, q⟩
  subst e
  refine ⟨_, r.map .int, rfl, rfl, bs.map rowV, rfl, ?_⟩
  exact left_loop bs r _ _ h fun o3 o4 => pure_rt rfb_row q
def c_is_in : Ct := fun xs μ Q => ∃ (bs : List (List Int)) (r : List Int), xs = [.tup (bs.map rowV), rowV r] ∧ LeftOk bs r ∧ Q (.bl (leadFrom 0 (leftOf bs r)).isNone) μ
def b_is_in : DS :=
    (dRet (dOp (dIsN false) (dCall c_lead (dCons (dCall c_left_of (dCons (dVar 0) (dCons (dVar 1) dNil))) dNil)) (dC .non)))
theorem l_is_in : ∀ xs μ Q, c_is_in xs μ Q → xs.length = 2 := by
  intro xs μ Q ⟨bs, r, e, _⟩
  subst e; rfl
theorem rfb_bl {n : Nat} {b : Bool} : rfb n (.bl b) = true := by rw [rfb] <;> simp
theorem r_is_in : ∀ xs μ Q, c_is_in xs μ Q → b_is_in (pureEnds μ Q) (startD ["basis", "row"] xs) μ := by
  intro xs μ Q ⟨bs, r, e, h, q⟩
  subst e
  refine ⟨bs, r, rfl, h, _, leftOf bs r, rfl, rfl, ?_⟩
  cases hl : leadFrom 0 (leftOf bs r) <;> (rw [hl] at q; exact pure_rt rfb_bl q)
def multV (bs : List (List Int)) (r : List Int) : Vl := if (leadFrom 0 (leftOf bs r)).isNone then rowV (mults bs r) else .non
def c_multiples_of : Ct := fun xs μ Q => ∃ (bs : List (List Int)) (r : List Int), xs = [.tup (bs.map rowV), rowV r] ∧ bs.length < 2 ^ 20 ∧ LeftOk bs r ∧ Q (multV bs r) μ
def b_multiples_of : DS :=
    (dSeq (dPar 2 3 (dCons (dCB fTuple (dCons (dVar 1) dNil)) (dCons (dLst dNil) dNil)))
    (dSeq (dFor (dIter (dVar 0)) (dgName 4) (dSeq (dAsg (dCall c_lead (dCons (dVar 4) dNil)) (dgName 5))
    (dSeq (dDrop (dBM mAppend (dVar 3) (dCons (dOp dFdiv (dOp dIx (dVar 2) (dVar 5)) (dOp dIx (dVar 4) (dVar 5))) dNil)))
    (dAsg (dCall c_plus (dCons (dVar 2) (dCons (dVar 4) (dCons (dNeg (dOp dIx (dVar 3) (dNeg (dC (.int 1))))) dNil)))) (dgName 2)))))
    (dRet (dIfE (dTest (dOp (dIsN false) (dCall c_lead (dCons (dVar 2) dNil)) (dC .non))) (dCB fTuple (dCons (dVar 3) dNil)) (dC .non)))))
theorem atI_last {α : Type} (xs : List α) (x : α) : atI (xs ++ [x]) (-1) = some x := by
  unfold atI
  unfold ixN
  rw [List.length_append, List.length_singleton, if_neg (by omega), if_pos (by omega)]
  have e : ((-1 : Int) + ((xs.length + 1 : Nat) : Int)).toNat = xs.length := by omega
  rw [e]
  simp
theorem mult_loop {μ : Mu} {d : DEnds} {x y : Option Vl} : ∀ (bs : List (List Int)) (v : List Int) (ms : List Int) (o3 o4 : Option Vl), ms.length + bs.length < 2 ^ 20 → LeftOk bs v → (∀ o3 o4, d.nx [x, y, some (rowV (leftOf bs v)), some (.ref μ.length), o3, o4] (μ ++ [.lst ((ms ++ mults bs v).map .int)])) →
    forD (fun _ => True) (dgName 4) (dSeq (dAsg (dCall c_lead (dCons (dVar 4) dNil)) (dgName 5))
    (dSeq (dDrop (dBM mAppend (dVar 3) (dCons (dOp dFdiv (dOp dIx (dVar 2) (dVar 5)) (dOp dIx (dVar 4) (dVar 5))) dNil)))
    (dAsg (dCall c_plus (dCons (dVar 2) (dCons (dVar 4) (dCons (dNeg (dOp dIx (dVar 3) (dNeg (dC (.int 1))))) dNil)))) (dgName 2)))) d (bs.map rowV) [x, y, some (rowV v), some (.ref μ.length), o3, o4] (μ ++ [.lst (ms.map .int)])
  | [], v, ms, o3, o4, _, _, h => ⟨trivial, by simpa [mults, leftOf] using h o3 o4⟩
  | b :: t, v, ms, o3, o4, hn, ⟨⟨p, hp, hl, h9, hm⟩, ht⟩, h => by
    obtain ⟨s1, s2, s3, s4⟩ := lead_spec b 0 p hp
    have hat : (μ ++ [Mo.lst (ms.map Vl.int)])[μ.length]? = some (.lst (ms.map .int)) := by simp
    have hsl := sizeLine_eq
    refine ⟨trivial, _, b, rfl, rfl, ?_⟩
    rw [hp]
    refine ⟨by simp [lview], v.map .int, _, rfl, atI_at hl, b.map .int, _, rfl, atI_at (by omega), ⟨s3, h9⟩, ?_⟩
    refine ⟨_, _, .int (quo b v), rfl, by rw [quo_eq (v := v) hp] <;> rfl, hat, by rw [List.length_map]; omega, ?_⟩
    have e : (μ ++ [Mo.lst (ms.map Vl.int)]).set μ.length (.lst (ms.map Vl.int ++ [.int (quo b v)])) = μ ++ [.lst ((ms ++ [quo b v]).map .int)] := by
      rw [List.set_append_right _ _ (Nat.le_refl _), Nat.sub_self]
      simp
    rw [e]
    refine ⟨ms.map .int ++ [.int (quo b v)], _, by simp [sview, lview], atI_last _ _, ?_⟩
    refine ⟨v, b, _, rfl, hm, ?_⟩
    refine mult_loop t _ (ms ++ [quo b v]) _ _ (by simp at hn ⊢; omega) ht fun o3 o4 => ?_
    have := h o3 o4
    rw [mults, leftOf] at this
    simpa using this
theorem l_multiples_of : ∀ xs μ Q, c_multiples_of xs μ Q → xs.length = 2 := by
  intro xs μ Q ⟨bs, r, e, _⟩
  subst e; rfl
theorem rfb_non {n : Nat} : rfb n .non = true := by rw [rfb] <;> simp
theorem r_multiples_of : ∀ xs μ Q, c_multiples_of xs μ Q → b_multiples_of (pureEnds μ Q) (startD ["basis", "row", "left", "found", "held", "place"] xs) μ := by
  intro xs μ Q ⟨bs, r, e, hz, h, q⟩
  subst e
  have hsl := sizeLine_eq
  refine ⟨_, r.map .int, rfl, rfl, by show (0 : Nat) ≤ _; omega, .inr ?_⟩
  refine ⟨bs.map rowV, rfl, ?_⟩
  refine mult_loop bs r [] _ _ (by simpa using hz) h fun o3 o4 => ?_
  refine ⟨_, leftOf bs r, rfl, rfl, ?_⟩
  unfold multV at q
  cases hl : leadFrom 0 (leftOf bs r) with
  | none =>
    rw [hl] at q
    refine ⟨_, (mults bs r).map .int, rfl, by simp [sview, lview], ⟨rfb_row, ⟨_, rfl⟩, q⟩⟩
  | some p =>
    rw [hl] at q
    exact ⟨rfb_non, ⟨_, rfl⟩, q⟩
end K26

namespace K26
open PySem PySem.Spec L2 StX PyProof.Rows DL
theorem vw_ref {μ : Mu} {k : Nat} {xs : List Vl} (h : μ[k]? = some (.lst xs)) : sview μ (.ref k) = some xs := by
  show (match μ[k]? with
    | some (.lst xs) => some xs
    | _ => none) = _
  rw [h]
/-! _law_pick -/
def c__law_pick : Ct := fun xs μ Q => ∃ (k : Nat) (ns : List Int) (a l : Int) (x : Vl) (vs : List Vl), xs = [.ref k, x] ∧ (∀ μ, sview μ x = some vs) ∧ 0 < vs.length ∧ vs.length < 2 ^ 60 ∧ μ[k]? = some (penM ns a l) ∧ (0 ≤ a ∧ a ≤ 1000000) ∧ 0 ≤ l ∧
  ∀ v a' l', v ∈ vs → a ≤ a' → a' ≤ a + 1 → 0 ≤ l' → Q v (μ.set k (penM ns a' l'))
def c__law_draw : Ct := c_draw
def b__law_pick : DS :=
    (dRet (dOp dIx (dVar 1) (dCall c__law_draw (dCons (dVar 0) (dCons (dCB fLen (dCons (dVar 1) dNil)) dNil)))))
theorem l__law_pick : ∀ xs μ Q, c__law_pick xs μ Q → xs.length = 2 := by
  intro xs μ Q ⟨_, _, _, _, _, _, e, _⟩
  subst e; rfl
theorem atI_mem {vs : List Vl} {i : Int} (h1 : 0 ≤ i) (h2 : i < (vs.length : Int)) : ∃ x, x ∈ vs ∧ atI vs i = some x := by
  have hj : i.toNat < vs.length := by omega
  refine ⟨vs[i.toNat], List.getElem_mem hj, ?_⟩
  unfold atI
  unfold ixN
  rw [if_pos h1, if_pos h2]
  simp [hj]
theorem r__law_pick : ∀ xs μ Q, c__law_pick xs μ Q → b__law_pick (spEnds Q) (startD ["pen", "some"] xs) μ := by
  intro xs μ Q ⟨k, ns, a, l, x, vs, e, hx, hn, hn2, hk, ha, hl, q⟩
  subst e
  refine ⟨x, vs, rfl, hx μ, ?_⟩
  refine ⟨k, ns, a, l, (vs.length : Int), rfl, hk, ha, hl, by omega, fun d a' l' h1 h2 h3 h4 h5 => ?_⟩
  obtain ⟨v, hv, e⟩ := atI_mem (vs := vs) (i := d) h1 (by omega)
  exact ⟨vs, v, hx _, e, q v a' l' hv h3 h4 h5⟩
/-! _law_row -/
def c__law_row : Ct := fun xs μ Q => ∃ (k : Nat) (ns : List Int) (a l : Int) (w : Nat), xs = [.ref k, .int (w : Int)] ∧ w ≤ 100 ∧ μ[k]? = some (penM ns a l) ∧ (0 ≤ a ∧ a ≤ 900000) ∧ 0 ≤ l ∧
  ∀ r a' l', r.length = w → (∀ y ∈ r, -20 ≤ y ∧ y ≤ 20) → a ≤ a' → a' ≤ a + 2 * w → 0 ≤ l' → Q (rowV r) (μ.set k (penM ns a' l'))
def b__law_row : DS :=
    (dRet (dCB fTuple (dCons (dLc (dRange1 (dCons (dVar 1) dNil)) (dgName 2) dYes (dCall c__law_pick (dCons (dVar 0) (dCons (dLst (dCons (dC (.int 0)) (dCons (dC (.int 0)) (dCons (dC (.int 1)) (dCons (dC (.int 2)) (dCons (dC (.int 3)) (dCons (dC (.int 4)) (dCons (dC (.int 6)) (dCons (dNeg (dC (.int 1))) (dCons (dNeg (dC (.int 2))) (dCons (dNeg (dC (.int 3))) (dCons (dC (.int 12)) (dCons (dOp (dI0 fun i j => .int (i - j)) (dCall c__law_draw (dCons (dVar 0) (dCons (dC (.int 41)) dNil))) (dC (.int 20))) dNil))))))))))))) dNil))) [2]) dNil)))
theorem l__law_row : ∀ xs μ Q, c__law_row xs μ Q → xs.length = 2 := by
  intro xs μ Q ⟨_, _, _, _, _, e, _⟩
  subst e; rfl
theorem r__law_row : ∀ xs μ Q, c__law_row xs μ Q → b__law_row (spEnds Q) (startD ["pen", "width", "at"] xs) μ := by
  intro xs μ Q ⟨k, ns, a, l, w, e, hw, hk, ⟨ha, ha9⟩, hl, q⟩
  subst e
  have hsl := sizeLine_eq
  refine ⟨(w : Int), rfl, by omega, by omega, ?_⟩
  refine lcD_inv (fun rest acc μ' => ∃ (r : List Int) (a' l' : Int), acc = r.map .int ∧ (∀ y ∈ r, -20 ≤ y ∧ y ≤ 20) ∧ r.length + rest.length = w ∧ a ≤ a' ∧ a' ≤ a + 2 * (r.length : Int) ∧ 0 ≤ l' ∧ μ' = μ.set k (penM ns a' l')) (fun _ _ _ _ => trivial) (fun acc μ' h => ?_) (fun x rest acc μ' h D hD => ?_) _ _ _ ?_
  · obtain ⟨r, a', l', e1, h2, h3, h4, h5, h6, e2⟩ := h
    subst e1; subst e2
    refine .inl ⟨_, r.map .int, rfl, rfl, ?_⟩
    exact q r a' l' (by simpa using h3) h2 h4 (by simp at h3; omega) h6
  · obtain ⟨r, a', l', e1, h2, h3, h4, h5, h6, e2⟩ := h
    subst e1; subst e2
    rw [List.length_cons] at h3
    refine ⟨k, ns, a', l', 41, rfl, set_get hk, by omega, h6, by decide, fun d a2 l2 g1 g2 g3 g4 g5 => ?_⟩
    rw [set_set]
    refine ⟨by show 12 ≤ _; omega, .inl ?_⟩
    refine ⟨k, ns, a2, l2, _, _, rfl, fun _ => rfl, by show 0 < 12; omega, by show 12 < _; decide, set_get hk, by omega, g5, fun v a3 l3 f1 f2 f3 f4 => ?_⟩
    rw [set_set]
    have hv : ∃ y : Int, v = .int y ∧ -20 ≤ y ∧ y ≤ 20 := by
      simp only [List.mem_cons, List.not_mem_nil, or_false] at f1
      rcases f1 with f | f | f | f | f | f | f | f | f | f | f | f <;> (rw [f]; refine ⟨_, rfl, ?_⟩; omega)
    obtain ⟨y, ey, hy⟩ := hv
    subst ey
    refine hD _ _ ⟨r ++ [y], a3, l3, by simp, fun z hz => ?_, by simp; omega, by omega, by simp; omega, f4, rfl⟩
    rcases List.mem_append.mp hz with z1 | z1
    · exact h2 z z1
    · rw [List.mem_singleton.mp z1]; exact hy
  · exact ⟨[], a, l, rfl, by simp, by simp [rngD_len], by omega, by simp, hl, (set_same hk).symm⟩
/-! _law_sum -/
def c__law_sum : Ct := fun xs μ Q => ∃ (x y : Vl) (rows : List (List Int)) (ms : List Int) (w : Nat), xs = [x, y, .int (w : Int)] ∧ sview μ x = some (rows.map rowV) ∧ asLong (rows.map rowV) x μ ∧ sview μ y = some (ms.map .int) ∧ asLong (ms.map .int) y μ ∧ w ≤ 100 ∧ (∀ r ∈ rows, r.length = w) ∧ (∀ m ∈ ms, ∀ r ∈ rows, ∀ z ∈ r, MulOk m z) ∧ Q (rowV (sumR rows ms w)) μ
def b__law_sum : DS :=
    (dRet (dCB fTuple (dCons (dLc (dRange1 (dCons (dVar 2) dNil)) (dgName 3) dYes (dCB fSum (dCons (dLc (dZip (dCons (dVar 1) (dCons (dVar 0) dNil))) (dgTup 2 (dgCons (dgName 4) (dgCons (dgName 5) dgNil))) dYes (dOp dMul (dVar 4) (dOp dIx (dVar 5) (dVar 3))) [4, 5]) dNil)) [3]) dNil)))
theorem l__law_sum : ∀ xs μ Q, c__law_sum xs μ Q → xs.length = 3 := by
  intro xs μ Q ⟨_, _, _, _, _, e, _⟩
  subst e; rfl
theorem rngD_map (w : Nat) : rngD 0 w = (List.range w).map fun (i : Nat) => Vl.int (i : Int) := by
  unfold rngD
  congr 1
  funext i
  rw [Int.zero_add]
theorem r__law_sum : ∀ xs μ Q, c__law_sum xs μ Q → b__law_sum (pureEnds μ Q) (startD ["rows", "multiples", "width", "at", "times", "row"] xs) μ := by
  intro xs μ Q ⟨x, y, rows, ms, w, e, hx, gx, hy, gy, hw, hl, hm, q⟩
  subst e
  refine ⟨(w : Int), rfl, by omega, by omega, ?_⟩
  rw [Int.toNat_natCast, rngD_map]
  refine lc_map trivial _ (fun j => Vl.int (((ms.zip rows).map fun p => p.1 * at0 p.2 j).sum)) _ _ (fun j hj P hP => ?_) (.inl ?_)
  · have hj : j < w := List.mem_range.mp hj
    refine ⟨y, x, _, _, rfl, hy, hx, ?_⟩
    have ez : zipD (ms.map Vl.int) (rows.map rowV) = (ms.zip rows).map fun p => Vl.tup [.int p.1, rowV p.2] := by
      unfold zipD
      rw [List.zip_map, List.map_map]
      rfl
    rw [ez]
    refine lc_map ⟨gy, gx⟩ _ (fun p => Vl.int (p.1 * at0 p.2 j)) _ _ (fun p hp P2 hP2 => ?_) (.inl ?_)
    · have hr : p.2 ∈ rows := (List.of_mem_zip hp).2
      refine ⟨rfl, rfl, _, _, rfl, atI_at (by rw [hl _ hr]; exact hj), ?_⟩
      exact ⟨hm _ (List.of_mem_zip hp).1 _ hr _ (at_mem (by rw [hl _ hr]; exact hj)), hP2⟩
    · refine ⟨_, (ms.zip rows).map fun p => p.1 * at0 p.2 j, rfl, ?_, hP⟩
      rw [List.nil_append, List.map_map]
      rfl
  · refine ⟨_, (sumR rows ms w).map .int, rfl, ?_, pure_rt rfb_row q⟩
    unfold sumR
    rw [List.nil_append, List.map_map]
    rfl
end K26

namespace K26
open PySem PySem.Spec L2 StX PyProof.Rows DL
/-! where numbers other than 0 stand -/
def spots (k : Nat) : List Int → List Nat
  | [] => []
  | x :: r => if x = 0 then spots (k + 1) r else k :: spots (k + 1) r
theorem spots_head : ∀ (r : List Int) (k : Nat), (spots k r).head? = leadFrom k r
  | [], k => rfl
  | x :: r, k => by
    rw [spots, leadFrom]
    by_cases h : x = 0
    · rw [if_pos h, if_pos h, spots_head r]
    · rw [if_neg h, if_neg h]; rfl
theorem spots_loop {G : Mu → Prop} {dt : DT} {de : DE} {g : DG} {ρ : Rho} {Q : List Vl → Mu → Prop} {μ : Mu} (hG : G μ)
    (hs : ∀ (k : Nat) (y : Int) (P : Bool → Mu → Prop) (R : DK), (¬ y = 0 → R (.int (k : Int)) μ) → (y = 0 → P false μ) → g (.tup [.int (k : Int), .int y]) ρ μ fun ρ2 μ2 => dt ρ2 μ2 fun b μ3 => match b with
      | true => de ρ2 μ3 R
      | false => P false μ3) : ∀ (r : List Int) (k : Nat) (acc : List Vl), Q (acc ++ (spots k r).map fun (i : Nat) => Vl.int (i : Int)) μ → lcD G g dt de ρ Q (numF k (r.map .int)) acc μ
  | [], k, acc, q => ⟨hG, by simpa [spots] using q⟩
  | y :: r, k, acc, q => by
    refine ⟨hG, ?_⟩
    refine hs k y (fun _ μ3 => lcD G g dt de ρ Q (numF (k + 1) (r.map .int)) acc μ3) _ (fun e => ?_) (fun e => ?_)
    · refine spots_loop hG hs r (k + 1) (acc ++ [.int (k : Int)]) ?_
      rw [spots, if_neg e] at q
      simpa using q
    · refine spots_loop hG hs r (k + 1) acc ?_
      rw [spots, if_pos e] at q
      exact q
def c__law_lead : Ct := fun xs μ Q => ∃ r : List Int, xs = [rowV r] ∧ Q (leadV (leadFrom 0 r)) μ
def b__law_lead : DS :=
    (dSeq (dAsg (dLc (dEnum (dCons (dVar 0) dNil)) (dgTup 2 (dgCons (dgName 2) (dgCons (dgName 3) dgNil))) (dTest (dOp dNe (dVar 3) (dC (.int 0)))) (dVar 2) [2, 3]) (dgName 1))
    (dRet (dIfE (dTest (dOp dNe (dVar 1) (dLst dNil))) (dOp dIx (dVar 1) (dC (.int 0))) (dC .non))))
theorem l__law_lead : ∀ xs μ Q, c__law_lead xs μ Q → xs.length = 1 := by
  intro xs μ Q ⟨_, e, _⟩
  subst e; rfl
theorem spots_ints (k : Nat) (r : List Int) : (spots k r).map (fun (i : Nat) => Vl.int (i : Int)) = ((spots k r).map fun (i : Nat) => (i : Int)).map .int := by
  rw [List.map_map]; rfl
theorem r__law_lead : ∀ xs μ Q, c__law_lead xs μ Q → b__law_lead (pureEnds μ Q) (startD ["row", "some", "at", "number"] xs) μ := by
  intro xs μ Q ⟨r, e, q⟩
  subst e
  refine ⟨_, r.map .int, rfl, rfl, ?_⟩
  rw [numbered_eq]
  refine spots_loop trivial (fun k y P R h1 h2 => ?_) r 0 [] (.inl ?_)
  · exact ⟨rfl, rfl, dec_splitN (p := y = 0) h1 h2⟩
  rw [List.nil_append, spots_ints]
  have hh := spots_head r 0
  generalize spots 0 r = sp at hh
  refine ⟨by show 0 ≤ _; omega, .inl ?_⟩
  refine eq_lstI (s := []) ?_
  refine dec_splitN (p := (sp.map fun (i : Nat) => (i : Int)) = []) (fun h => ?_) (fun h => ?_)
  · cases sp with
    | nil => exact absurd rfl h
    | cons p t =>
      rw [← hh] at q
      refine ⟨_, .int (p : Int), rfl, ?_, pure_rt (rfb_lead (o := some p)) q⟩
      show atI ((((p : Int) :: t.map fun (i : Nat) => (i : Int))).map Vl.int) 0 = _
      unfold atI
      unfold ixN
      rw [if_pos (by omega), if_pos (by simp)]
      rfl
  · have e : sp = [] := by simpa using h
    subst e
    rw [← hh] at q
    exact pure_rt (rfb_lead (o := none)) q
/-! _law_is_in -/
def c__law_is_in : Ct := fun xs μ Q => ∃ (bs : List (List Int)) (r : List Int), xs = [.tup (bs.map rowV), rowV r] ∧ LeftOk bs r ∧ (∀ b ∈ bs, b.length = r.length) ∧ Q (.bl (leadFrom 0 (leftOf bs r)).isNone) μ
def b__law_is_in : DS :=
    (dSeq (dAsg (dCB fList (dCons (dVar 1) dNil)) (dgName 2))
    (dSeq (dFor (dIter (dVar 0)) (dgName 3) (dSeq (dAsg (dOp dIx (dLc (dEnum (dCons (dVar 3) dNil)) (dgTup 2 (dgCons (dgName 8) (dgCons (dgName 6) dgNil))) (dTest (dOp dNe (dVar 6) (dC (.int 0)))) (dVar 8) [8, 6]) (dC (.int 0))) (dgName 4))
    (dSeq (dAsg (dOp dFdiv (dOp dIx (dVar 2) (dVar 4)) (dOp dIx (dVar 3) (dVar 4))) (dgName 5))
    (dAsg (dLc (dZip (dCons (dVar 2) (dCons (dVar 3) dNil))) (dgTup 2 (dgCons (dgName 6) (dgCons (dgName 7) dgNil))) dYes (dOp (dI0 fun i j => .int (i - j)) (dVar 6) (dOp dMul (dVar 5) (dVar 7))) [6, 7]) (dgName 2)))))
    (dRet (dOp dEq (dLc (dIter (dVar 2)) (dgName 6) (dTest (dOp dNe (dVar 6) (dC (.int 0)))) (dVar 6) [6]) (dLst dNil)))))
theorem l__law_is_in : ∀ xs μ Q, c__law_is_in xs μ Q → xs.length = 2 := by
  intro xs μ Q ⟨_, _, e, _⟩
  subst e; rfl
theorem mulok_neg {i j : Int} (h : DL.MulOk (-i) j) : DL.MulOk i j := by
  unfold DL.MulOk at h ⊢
  rw [Int.natAbs_neg] at h
  exact h
theorem minus_zip (r o : List Int) (t : Int) : ([] : List Vl) ++ (r.zip o).map (fun p => Vl.int (p.1 - t * p.2)) = (plus r o (-t)).map .int := by
  rw [← plus_zip]
  congr 1
  congr 1
  funext p
  rw [Int.neg_mul, ← Int.sub_eq_add_neg]
theorem isin_loop {μ : Mu} {d : DEnds} {x y : Option Vl} : ∀ (bs : List (List Int)) (v : List Int) (o3 o4 o5 o6 o7 o8 : Option Vl), LeftOk bs v → (∀ b ∈ bs, b.length = v.length) → (∀ o3 o4 o5 o6 o7 o8, d.nx [x, y, some (.lst ((leftOf bs v).map .int)), o3, o4, o5, o6, o7, o8] μ) →
    forD (fun _ => True) (dgName 3) (dSeq (dAsg (dOp dIx (dLc (dEnum (dCons (dVar 3) dNil)) (dgTup 2 (dgCons (dgName 8) (dgCons (dgName 6) dgNil))) (dTest (dOp dNe (dVar 6) (dC (.int 0)))) (dVar 8) [8, 6]) (dC (.int 0))) (dgName 4))
    (dSeq (dAsg (dOp dFdiv (dOp dIx (dVar 2) (dVar 4)) (dOp dIx (dVar 3) (dVar 4))) (dgName 5))
    (dAsg (dLc (dZip (dCons (dVar 2) (dCons (dVar 3) dNil))) (dgTup 2 (dgCons (dgName 6) (dgCons (dgName 7) dgNil))) dYes (dOp (dI0 fun i j => .int (i - j)) (dVar 6) (dOp dMul (dVar 5) (dVar 7))) [6, 7]) (dgName 2)))) d (bs.map rowV) [x, y, some (.lst (v.map .int)), o3, o4, o5, o6, o7, o8] μ
  | [], v, o3, o4, o5, o6, o7, o8, _, _, h => ⟨trivial, h _ _ _ _ _ _⟩
  | b :: t, v, o3, o4, o5, o6, o7, o8, ⟨⟨p, hp, hl, h9, hm⟩, ht⟩, hlen, h => by
    obtain ⟨s1, s2, s3, s4⟩ := lead_spec b 0 p hp
    refine ⟨trivial, _, b.map .int, rfl, rfl, ?_⟩
    rw [numbered_eq]
    refine spots_loop trivial (fun k y P R h1 h2 => ?_) b 0 [] (.inl ?_)
    · exact ⟨rfl, rfl, dec_splitN (p := y = 0) h1 h2⟩
    rw [List.nil_append, spots_ints]
    have hh := spots_head b 0
    rw [hp] at hh
    refine ⟨_, .int (p : Int), rfl, ?_, ?_⟩
    · cases hs : spots 0 b with
      | nil => rw [hs] at hh; cases hh
      | cons p' t' =>
        rw [hs] at hh
        have e : p' = p := Option.some.inj hh
        rw [e]
        show atI ((((p : Int) :: t'.map fun (i : Nat) => (i : Int))).map Vl.int) 0 = _
        unfold atI
        unfold ixN
        rw [if_pos (by omega), if_pos (by simp)]
        rfl
    refine ⟨v.map .int, _, rfl, atI_at hl, b.map .int, _, rfl, atI_at (by omega), ⟨s3, h9⟩, ?_⟩
    have L := isin_loop (d := d) (x := x) (y := y) t (plus v b (-(quo b v))) (some (rowV b)) (some (.int (p : Int))) (some (.int (quo b v))) o6 o7 o8 ht (fun b' hb' => by rw [plus_len (hlen b List.mem_cons_self).symm]; exact hlen b' (List.mem_cons_of_mem _ hb')) h
    rw [quo_eq (v := v) hp] at L hm
    refine ⟨_, _, v.map .int, b.map .int, rfl, rfl, rfl, ?_⟩
    rw [zip_rows]
    refine lc_map ⟨trivial, trivial⟩ _ (fun p' => Vl.int (p'.1 - (at0 v p).fdiv (at0 b p) * p'.2)) _ _ (fun p' hp' P hP => ?_) (.inl ?_)
    · exact ⟨rfl, rfl, mulok_neg (hm p'.2 (List.of_mem_zip hp').2), hP⟩
    · rw [minus_zip]
      exact L
theorem keep_nil (r : List Int) : (r.filter fun x => decide (¬ x = 0)) = [] ↔ leadFrom 0 r = none := by
  rw [lead_none, List.filter_eq_nil_iff]
  simp
theorem r__law_is_in : ∀ xs μ Q, c__law_is_in xs μ Q → b__law_is_in (pureEnds μ Q) (startD ["basis", "row", "left", "held", "at", "by", "number", "its", "spot"] xs) μ := by
  intro xs μ Q ⟨bs, r, e, h, hl, q⟩
  subst e
  refine ⟨_, r.map .int, rfl, rfl, .inl ?_⟩
  refine ⟨bs.map rowV, rfl, ?_⟩
  refine isin_loop bs r _ _ _ _ _ _ h hl fun o3 o4 o5 o6 o7 o8 => ?_
  refine ⟨(leftOf bs r).map .int, rfl, ?_⟩
  refine lc_filter trivial _ (fun x => decide (¬ x = 0)) Vl.int _ _ (fun x hx P R h1 h2 => ?_) (.inl ?_)
  · exact dec_splitN (p := x = 0) (fun e => h1 (by simpa using e)) (fun e => h2 (by simpa using e))
  refine ⟨by show 0 ≤ _; have := sizeLine_eq; omega, .inl ?_⟩
  refine eq_lstI (s := []) ?_
  have e : (decide ((leftOf bs r).filter (fun x => decide (¬ x = 0)) = []) != false) = (leadFrom 0 (leftOf bs r)).isNone := by
    by_cases hz : (leftOf bs r).filter (fun x => decide (¬ x = 0)) = []
    · rw [decide_eq_true hz, (keep_nil _).mp hz]; rfl
    · rw [decide_eq_false hz]
      cases hq : leadFrom 0 (leftOf bs r) with
      | none => exact absurd ((keep_nil _).mpr hq) hz
      | some p => rfl
  rw [← e] at q
  exact pure_rt rfb_bl q
end K26

set_option exponentiation.threshold 300
namespace K26
open PySem PySem.Spec L2 StX PyProof.Rows DL
def rowL (r : List Int) : Vl := .lst (r.map .int)
/-! what was there stays at the front -/
def Pre (μ μ' : Mu) : Prop := ∃ ex, μ' = μ ++ ex
theorem Pre.refl (μ : Mu) : Pre μ μ := ⟨[], by simp⟩
theorem Pre.add {μ μ' : Mu} (h : Pre μ μ') (ex : Mu) : Pre μ (μ' ++ ex) := by
  obtain ⟨e, h⟩ := h
  exact ⟨e ++ ex, by rw [h, List.append_assoc]⟩
theorem Pre.set {μ μ' : Mu} {k : Nat} {m : Mo} (h : Pre μ μ') (hk : μ.length ≤ k) : Pre μ (μ'.set k m) := by
  obtain ⟨e, h⟩ := h
  exact ⟨e.set (k - μ.length) m, by rw [h, List.set_append_right _ _ hk]⟩
theorem Pre.len {μ μ' : Mu} (h : Pre μ μ') : μ.length ≤ μ'.length := by
  obtain ⟨e, h⟩ := h
  rw [h, List.length_append]; omega
theorem get_add {μ : Mu} {k : Nat} {m : Mo} (h : μ[k]? = some m) (ex : Mu) : (μ ++ ex)[k]? = some m := by
  rw [List.getElem?_append_left (List.getElem?_eq_some_iff.mp h).1]; exact h
theorem get_new (μ : Mu) (m : Mo) : (μ ++ [m])[μ.length]? = some m := by simp
theorem get_lt {μ : Mu} {k : Nat} {m : Mo} (h : μ[k]? = some m) : k < μ.length := (List.getElem?_eq_some_iff.mp h).1
theorem get_other {μ : Mu} {k i : Nat} {m m' : Mo} (h : μ[k]? = some m) (hi : i ≠ k) : (μ.set i m')[k]? = some m := by
  rw [List.getElem?_set_ne hi]; exact h
theorem mulok_small {i j : Int} {a b : Nat} (hi : i.natAbs ≤ 2 ^ a) (hj : j.natAbs ≤ 2 ^ b) (h : a + b < 134000000) : DL.MulOk i j := by
  have l : ∀ {x a : Nat}, x ≤ 2 ^ a → x.log2 ≤ a := fun {x a} h => by
    by_cases hz : x = 0
    · rw [hz]; exact Nat.zero_le _
    · have := (Nat.log2_lt hz).mpr (show x < 2 ^ (a + 1) by rw [Nat.pow_succ]; have := Nat.one_le_two_pow (n := a); omega)
      omega
  exact .inr (.inr (by have := l hi; have := l hj; omega))
theorem log_le {x a : Nat} (h : x ≤ 2 ^ a) (ha : a < 9000) : x.log2 < 9000 := by
  by_cases hz : x = 0
  · rw [hz]; decide
  · have := (Nat.log2_lt hz).mpr (show x < 2 ^ (a + 1) by rw [Nat.pow_succ]; have := Nat.one_le_two_pow (n := a); omega)
    omega
theorem atI_nat {vs : List Vl} {i : Nat} {v : Vl} (h : vs[i]? = some v) : atI vs (i : Int) = some v := by
  have hl := (List.getElem?_eq_some_iff.mp h).1
  unfold atI
  unfold ixN
  rw [if_pos (by omega), if_pos (by omega)]
  simpa using h
theorem lv_ref {μ : Mu} {k : Nat} {xs : List Vl} (h : μ[k]? = some (.lst xs)) : lview μ (.ref k) = some xs := by
  show (match μ[k]? with
    | some (.lst xs) => some xs
    | _ => none) = _
  rw [h]
theorem mv_ref {μ : Mu} {k : Nat} {xs : List Vl} (h : μ[k]? = some (.lst xs)) : mview μ (.ref k) = some xs := by
  show (match μ[k]? with
    | some (.lst xs) => some xs
    | _ => none) = _
  rw [h]
def hTurn : DS :=
  (dSeq (dAsg (dOp dFdiv (dOp dIx (dVar 11) (dVar 4)) (dOp dIx (dVar 10) (dVar 4))) (dgName 12))
    (dSeq (dAsg (dLc (dZip (dCons (dVar 11) (dCons (dVar 10) dNil))) (dgTup 2 (dgCons (dgName 13) (dgCons (dgName 14) dgNil))) dYes (dOp (dI0 fun i j => .int (i - j)) (dVar 13) (dOp dMul (dVar 12) (dVar 14))) [13, 14]) (dgName 11))
    (dIf (dTest (dOp dNe (dOp dIx (dVar 11) (dVar 4)) (dC (.int 0)))) (dDrop (dBM mAppend (dVar 8) (dCons (dVar 11) dNil))) (dDrop (dBM mAppend (dVar 6) (dCons (dVar 11) dNil))))))
theorem turn_loop {μ : Mu} {d : DEnds} {x0 x1 o2 o3 o5 o7 o9 : Option Vl} {j w kr kl : Nat} {f : List Int} (hne : kl ≠ kr) (hkr : μ.length ≤ kr) (hkl : μ.length ≤ kl) (hj : j < w) (hf : f.length = w) (f0 : at0 f j ≠ 0) (f9 : (at0 f j).natAbs.log2 < 9000) :
    ∀ (T L R : List (List Int)) (μ' : Mu) (o11 o12 o13 o14 o15 : Option Vl), (∀ r ∈ T, r.length = w ∧ ∀ y ∈ f, DL.MulOk ((at0 r j).fdiv (at0 f j)) y) → μ'[kl]? = some (.lst (L.map rowL)) → μ'[kr]? = some (.lst (R.map rowL)) → Pre μ μ' → L.length + R.length + T.length < 1000 →
      (∀ (μ2 : Mu) (o11 o12 o13 o14 o15 : Option Vl), μ2[kl]? = some (.lst ((L ++ (T.map (red j f)).filter (isN j)).map rowL)) → μ2[kr]? = some (.lst ((R ++ (T.map (red j f)).filter fun r => !isN j r).map rowL)) → Pre μ μ2 →
        d.nx [x0, x1, o2, o3, some (.int (j : Int)), o5, some (.ref kr), o7, some (.ref kl), o9, some (rowL f), o11, o12, o13, o14, o15] μ2) →
      forD (fun _ => True) (dgName 11) hTurn d (T.map rowL) [x0, x1, o2, o3, some (.int (j : Int)), o5, some (.ref kr), o7, some (.ref kl), o9, some (rowL f), o11, o12, o13, o14, o15] μ'
  | [], L, R, μ', o11, o12, o13, o14, o15, hT, hL, hR, hp, hz, q => ⟨trivial, q μ' o11 o12 o13 o14 o15 (by simpa using hL) (by simpa using hR) hp⟩
  | r :: T, L, R, μ', o11, o12, o13, o14, o15, hT, hL, hR, hp, hz, q => by
    obtain ⟨hr, hm⟩ := hT r List.mem_cons_self
    have hT' := fun r' h' => hT r' (List.mem_cons_of_mem r h')
    have hsl := sizeLine_eq
    rw [List.length_cons] at hz
    refine ⟨trivial, r.map .int, _, rfl, atI_at (by omega), f.map .int, _, rfl, atI_at (by omega), ⟨f0, f9⟩, ?_⟩
    refine ⟨_, _, r.map .int, f.map .int, rfl, rfl, rfl, ?_⟩
    rw [zip_rows]
    refine lc_map ⟨trivial, trivial⟩ _ (fun p' => Vl.int (p'.1 - (at0 r j).fdiv (at0 f j) * p'.2)) _ _ (fun p' hp' P hP => ?_) (.inl ?_)
    · exact ⟨rfl, rfl, hm p'.2 (List.of_mem_zip hp').2, hP⟩
    rw [minus_zip]
    have hrl := red_len (j := j) hf hr
    refine ⟨(red j f r).map .int, _, rfl, atI_at (by omega), ?_⟩
    refine dec_splitN (p := at0 (red j f r) j = 0) (fun h0 => ?_) (fun h0 => ?_)
    · refine ⟨(by show (lview μ' (.ref kl)).isSome = true; rw [lv_ref hL]; rfl), kl, L.map rowL, rowL (red j f r), rfl, rfl, hL, by rw [List.length_map]; omega, ?_⟩
      refine turn_loop hne hkr hkl hj hf f0 f9 T (L ++ [red j f r]) R _ _ _ _ _ _ hT' ?_ (get_other hR hne) (hp.set hkl) (by simp; omega) fun μ2 p11 p12 p13 p14 p15 g1 g2 g3 => ?_
      · rw [set_get hL]; simp
      · have e1 : isN j (red j f r) = true := by simpa [isN] using h0
        refine q μ2 p11 p12 p13 p14 p15 ?_ ?_ g3
        · rw [List.map_cons, List.filter_cons_of_pos e1]; simpa using g1
        · rw [List.map_cons, List.filter_cons_of_neg (by rw [e1]; simp)]; exact g2
    · refine ⟨(by show (lview μ' (.ref kr)).isSome = true; rw [lv_ref hR]; rfl), kr, R.map rowL, rowL (red j f r), rfl, rfl, hR, by rw [List.length_map]; omega, ?_⟩
      refine turn_loop hne hkr hkl hj hf f0 f9 T L (R ++ [red j f r]) _ _ _ _ _ _ hT' (get_other hL hne.symm) ?_ (hp.set hkr) (by simp; omega) fun μ2 p11 p12 p13 p14 p15 g1 g2 g3 => ?_
      · rw [set_get hR]; simp
      · have e1 : isN j (red j f r) = false := by simpa [isN] using h0
        refine q μ2 p11 p12 p13 p14 p15 ?_ ?_ g3
        · rw [List.map_cons, List.filter_cons_of_neg (by rw [e1]; simp)]; exact g1
        · rw [List.map_cons, List.filter_cons_of_pos (by rw [e1]; rfl)]; simpa using g2
theorem least_place {m : Int} : ∀ {ns : List Int}, m ∈ ns → ∃ s : Nat, ns[s]? = some m ∧ ∀ i : Nat, i < s → ns[i]? ≠ some m
  | [], h => by cases h
  | x :: ns, h => by
    by_cases hx : x = m
    · exact ⟨0, by simp [hx], fun i hi => by omega⟩
    · rcases List.mem_cons.mp h with z | z
      · exact absurd z.symm hx
      · obtain ⟨s, h1, h2⟩ := least_place z
        refine ⟨s + 1, by simpa using h1, fun i hi => ?_⟩
        cases i with
        | zero => simpa using hx
        | succ i => simpa using h2 i (by omega)
theorem cut_take (xs : List Vl) (s : Nat) : DL.cutD xs none (some (s : Int)) = xs.take s := by
  unfold DL.cutD
  rw [HT.sIx_none, HT.sIx_nat, List.drop_zero, Nat.sub_zero]
  by_cases h : s ≤ xs.length
  · rw [Nat.min_eq_left h]
  · rw [Nat.min_eq_right (by omega), List.take_of_length_le (by omega), List.take_of_length_le (by omega)]
theorem cut_drop (xs : List Vl) (s : Nat) : DL.cutD xs (some (s : Int)) none = xs.drop s := by
  unfold DL.cutD
  rw [HT.sIx_none, HT.sIx_nat]
  by_cases h : s ≤ xs.length
  · rw [Nat.min_eq_left h, List.take_of_length_le (by rw [List.length_drop]; omega)]
  · rw [Nat.min_eq_right (by omega), List.drop_of_length_le (Nat.le_refl _), List.drop_of_length_le (by omega), List.take_nil]
def hWhile : DS :=
  (dWhile (dTest (dOp dGt (dCB fLen (dCons (dVar 5) dNil)) (dC (.int 1)))) (dSeq (dPar 7 8 (dCons (dLc (dIter (dVar 5)) (dgName 11) dYes (dCB fAbs (dCons (dOp dIx (dVar 11) (dVar 4)) dNil)) [11]) (dCons (dLst dNil) dNil)))
    (dSeq (dAsg (dBM mIndex (dVar 7) (dCons (dCB fMin (dCons (dVar 7) dNil)) dNil)) (dgName 9))
    (dSeq (dAsg (dOp dIx (dVar 5) (dVar 9)) (dgName 10))
    (dSeq (dFor (dIter (dOp dAdd (dSl (dVar 5) dNoPart (dPart (dVar 9))) (dSl (dVar 5) (dPart (dOp dAdd (dVar 9) (dC (.int 1)))) dNoPart))) (dgName 11) hTurn)
    (dAsg (dOp dAdd (dLst (dCons (dVar 10) dNil)) (dVar 8)) (dgName 5)))))))
theorem small_log {j w n m : Nat} {S R : List (List Int)} (h : WI j w n (Eb n) m S R) (h4 : n ≤ 4) : ∀ r ∈ S, (at0 r j).natAbs ≤ 2 ^ 2934 ∧ ∀ y ∈ r, y.natAbs ≤ 2 ^ 40000 := by
  obtain ⟨_, ⟨M, hM, hb⟩, _⟩ := h.sized
  have he : Eb n ≤ 2934 := by
    match n, h4 with
    | 0, _ => decide
    | 1, _ => decide
    | 2, _ => decide
    | 3, _ => decide
    | 4, _ => decide
  intro r hr
  obtain ⟨h1, h2⟩ := hb r hr
  refine ⟨Nat.le_trans h1 (Nat.le_trans hM (Nat.pow_le_pow_right (by decide) he)), fun y hy => ?_⟩
  have h0 := (h.hS r hr).2
  have := h2 y hy
  have g : y.natAbs * 1 ≤ y.natAbs * M := Nat.mul_le_mul_left _ (by omega)
  have p : Pp n (Eb n) m ≤ 2 ^ 40000 := by
    refine Nat.le_trans Pp_le (Nat.pow_le_pow_right (by decide) ?_)
    unfold Nn
    have := Nat.mul_le_mul h4 (show Eb n + 1 ≤ 2935 by omega)
    omega
  omega
theorem while_walk {μ : Mu} {d : DEnds} {x0 x1 o2 o3 : Option Vl} {j w n kr : Nat} (hkr : μ.length ≤ kr) (hj : j < w) (h4 : n ≤ 4) {S R : List (List Int)} {μ1 : Mu} {o7 o8 o9 o10 o11 o12 o13 o14 o15 : Option Vl} {m : Nat}
    (hW : WI j w n (Eb n) m S R) (hR : μ1[kr]? = some (.lst (R.map rowL))) (hp : Pre μ μ1)
    (q : ∀ (S R : List (List Int)) (m : Nat) (μ1 : Mu) (o7 o8 o9 o10 o11 o12 o13 o14 o15 : Option Vl), WI j w n (Eb n) m S R → S.length ≤ 1 → μ1[kr]? = some (.lst (R.map rowL)) → Pre μ μ1 →
      d.nx [x0, x1, o2, o3, some (.int (j : Int)), some (.lst (S.map rowL)), some (.ref kr), o7, o8, o9, o10, o11, o12, o13, o14, o15] μ1) :
    hWhile d [x0, x1, o2, o3, some (.int (j : Int)), some (.lst (S.map rowL)), some (.ref kr), o7, o8, o9, o10, o11, o12, o13, o14, o15] μ1 := by
  refine ⟨fun m ρ μ1 => ∃ (S R : List (List Int)) (o7 o8 o9 o10 o11 o12 o13 o14 o15 : Option Vl), WI j w n (Eb n) m S R ∧ μ1[kr]? = some (.lst (R.map rowL)) ∧ Pre μ μ1 ∧ ρ = [x0, x1, o2, o3, some (.int (j : Int)), some (.lst (S.map rowL)), some (.ref kr), o7, o8, o9, o10, o11, o12, o13, o14, o15],
    ⟨m, S, R, o7, o8, o9, o10, o11, o12, o13, o14, o15, hW, hR, hp, rfl⟩, ?_⟩
  intro m ρ μ1 ⟨S, R, o7, o8, o9, o10, o11, o12, o13, o14, o15, hW, hR, hp, e⟩
  subst e
  have hsl := sizeLine_eq
  refine ⟨_, S.map rowL, rfl, rfl, ?_⟩
  refine dec_split (p := (1 : Int) < ((S.map rowL).length : Int)) (fun h => ?_) (fun h => ?_)
  · rw [List.length_map] at h
    refine ⟨S.map rowL, rfl, ?_⟩
    refine lc_map trivial _ (fun r => Vl.int (if at0 r j < 0 then -(at0 r j) else at0 r j)) _ _ (fun r hr P hP => ?_) (.inl ?_)
    · exact ⟨r.map .int, _, rfl, atI_at (by rw [(hW.hS r hr).1.1]; exact hj), hP⟩
    refine ⟨by show 0 ≤ _; omega, .inr ?_⟩
    refine ⟨rfl, ?_⟩
    have eab : ([] : List Vl) ++ S.map (fun r => Vl.int (if at0 r j < 0 then -(at0 r j) else at0 r j)) = (S.map fun r => if at0 r j < 0 then -(at0 r j) else at0 r j).map .int := by
      rw [List.nil_append, List.map_map]; rfl
    refine ⟨_, S.map (fun r => if at0 r j < 0 then -(at0 r j) else at0 r j), rfl, by show some _ = some _; rw [eab], by rw [List.length_map]; omega, fun v hv hmin => ?_⟩
    obtain ⟨s, hs, hs2⟩ := least_place hv
    refine ⟨_, v, s, by show some _ = some _; rw [eab], rfl, hs, hs2, ?_⟩
    rw [List.getElem?_map] at hs
    cases hf : S[s]? with
    | none => rw [hf] at hs; cases hs
    | some f =>
    rw [hf] at hs
    have hs := Option.some.inj hs
    have hsS : s < S.length := (List.getElem?_eq_some_iff.mp hf).1
    refine ⟨S.map rowL, rowL f, rfl, atI_nat (by rw [List.getElem?_map, hf]; rfl), ?_⟩
    refine ⟨S.map rowL, rfl, .inl ?_⟩
    refine ⟨S.map rowL, rfl, .inl ?_⟩
    have hcnt := hW.cnt
    refine ⟨_, _, rfl, rfl, ?_, .inl ?_⟩
    · have l1 := DL.cutD_length (S.map rowL) none (some (s : Int))
      have l2 := DL.cutD_length (S.map rowL) (some ((s : Int) + 1)) none
      rw [List.length_map] at l1 l2
      omega
    have eS : S = S.take s ++ f :: S.drop (s + 1) := by
      have e1 : S.drop s = f :: S.drop (s + 1) := by
        rw [List.drop_eq_getElem_cons hsS]
        congr 1
        exact (List.getElem?_eq_some_iff.mp hf).2
      rw [← e1, List.take_append_drop]
    have eT : DL.cutD (S.map rowL) none (some (s : Int)) ++ DL.cutD (S.map rowL) (some ((s : Int) + 1)) none = (S.take s ++ S.drop (s + 1)).map rowL := by
      rw [show (s : Int) + 1 = ((s + 1 : Nat) : Int) by omega, cut_take, cut_drop, List.map_append, List.map_take, List.map_drop]
    refine ⟨(S.take s ++ S.drop (s + 1)).map rowL, by show some _ = some _; rw [eT], ?_⟩
    have hmin' : ∀ r ∈ S, (at0 f j).natAbs ≤ (at0 r j).natAbs := fun r hr => by
      have h1 := hmin _ (List.mem_map_of_mem hr)
      rw [← hs] at h1
      have this : (if at0 f j < 0 then -(at0 f j) else at0 f j) ≤ (if at0 r j < 0 then -(at0 r j) else at0 r j) := h1
      split at this <;> split at this <;> omega
    have hfS : f ∈ S := List.mem_of_getElem? hf
    have hfj := hW.hS f hfS
    have hTm : ∀ r ∈ S.take s ++ S.drop (s + 1), r ∈ S := fun r hr => by
      rcases List.mem_append.mp hr with z | z
      · exact List.mem_of_mem_take z
      · exact List.mem_of_mem_drop z
    have hlen : (S.take s ++ S.drop (s + 1)).length + 1 = S.length := by
      rw [List.length_append, List.length_take, List.length_drop]; omega
    have hsm := small_log hW h4
    have hkr1 := get_lt hR
    rw [eS] at hW
    obtain ⟨m', hm', hW'⟩ := hW.turn (by rw [← eS]; exact hmin') (by omega)
    refine turn_loop (kl := μ1.length) (kr := kr) (μ := μ) (by omega) hkr hp.len hj hfj.1.1 hfj.2 (log_le (hsm f hfS).1 (by decide)) _ [] R _ _ _ _ _ _ (fun r hr => ?_) (get_new _ _) (get_add hR _) (hp.add _) (by simp at hlen ⊢; omega) fun μ2 o11 o12 o13 o14 o15 g1 g2 g3 => ?_
    · refine ⟨(hW.hS r (by rw [← eS]; exact hTm r hr)).1.1, fun y hy => ?_⟩
      have a1 := fdiv_size (a := at0 r j) hfj.2
      have a2 : ((at0 r j).fdiv (at0 f j)).natAbs * 1 ≤ ((at0 r j).fdiv (at0 f j)).natAbs * (at0 f j).natAbs := Nat.mul_le_mul_left _ (by have := hfj.2; omega)
      have a3 := (hsm r (hTm r hr)).1
      have a4 := (hsm f hfS).1
      refine mulok_small (a := 2935) (b := 40000) ?_ ((hsm f hfS).2 y hy) (by decide)
      rw [show 2935 = 2934 + 1 from rfl, Nat.pow_succ]
      omega
    · rw [List.nil_append] at g1
      refine ⟨by show 1 ≤ _; omega, .inl ?_⟩
      refine ⟨[rowL f], _, rfl, mv_ref g1, ?_, .inl ?_⟩
      · have := List.length_filter_le (isN j) ((S.take s ++ S.drop (s + 1)).map (red j f))
        rw [List.length_map] at this
        rw [List.length_map, List.length_singleton]
        omega
      · exact ⟨m', hm', _, _, _, _, _, _, _, _, _, _, _, hW', g2, g3, rfl⟩
  · rw [List.length_map] at h
    exact q S R m μ1 o7 o8 o9 o10 o11 o12 o13 o14 o15 hW (by omega) hR hp
/-! the whole of it -/
def hCol : DS := (dSeq (dAsg (dLc (dIter (dVar 2)) (dgName 11) (dTest (dOp dNe (dOp dIx (dVar 11) (dVar 4)) (dC (.int 0)))) (dVar 11) [11]) (dgName 5))
    (dSeq (dAsg (dLc (dIter (dVar 2)) (dgName 11) (dTest (dOp dEq (dOp dIx (dVar 11) (dVar 4)) (dC (.int 0)))) (dVar 11) [11]) (dgName 6))
    (dSeq hWhile
    (dSeq (dIf (dTest (dOp dNe (dVar 5) (dLst dNil))) (dSeq (dAsg (dIfE (dTest (dOp dGt (dOp dIx (dOp dIx (dVar 5) (dC (.int 0))) (dVar 4)) (dC (.int 0)))) (dOp dIx (dVar 5) (dC (.int 0))) (dLc (dIter (dOp dIx (dVar 5) (dC (.int 0)))) (dgName 13) dYes (dNeg (dVar 13)) [13])) (dgName 11))
    (dAsg (dOp dAdd (dLc (dIter (dVar 3)) (dgName 15) dYes (dLc (dZip (dCons (dVar 15) (dCons (dVar 11) dNil))) (dgTup 2 (dgCons (dgName 13) (dgCons (dgName 14) dgNil))) dYes (dOp (dI0 fun i j => .int (i - j)) (dVar 13) (dOp dMul (dOp dFdiv (dOp dIx (dVar 15) (dVar 4)) (dOp dIx (dVar 11) (dVar 4))) (dVar 14))) [13, 14]) [15]) (dLst (dCons (dVar 11) dNil))) (dgName 3))) dNext)
    (dAsg (dLc (dIter (dVar 6)) (dgName 11) (dTest (dOp dNe (dLc (dIter (dVar 11)) (dgName 13) (dTest (dOp dNe (dVar 13) (dC (.int 0)))) (dVar 13) [13]) (dLst dNil))) (dVar 11) [11]) (dgName 2))))))
def b__law_hermite : DS :=
    (dSeq (dPar 2 3 (dCons (dLc (dIter (dVar 0)) (dgName 11) dYes (dCB fList (dCons (dVar 11) dNil)) [11]) (dCons (dLst dNil) dNil)))
    (dSeq (dFor (dRange1 (dCons (dVar 1) dNil)) (dgName 4) hCol)
    (dRet (dCB fTuple (dCons (dLc (dIter (dVar 3)) (dgName 11) dYes (dCB fTuple (dCons (dVar 11) dNil)) [11]) dNil)))))
def c__law_hermite : Ct := fun xs μ Q => ∃ (x : Vl) (rows : List (List Int)) (w : Nat), xs = [x, .int (w : Int)] ∧ sview μ x = some (rows.map rowV) ∧ asLong (rows.map rowV) x μ ∧ w ≤ 100 ∧ rows.length ≤ 4 ∧ (∀ r ∈ rows, r.length = w ∧ ∀ y ∈ r, -20 ≤ y ∧ y ≤ 20) ∧
  ∀ bs, Bas w bs → Q (.tup (bs.map rowV)) μ
theorem l__law_hermite : ∀ xs μ Q, c__law_hermite xs μ Q → xs.length = 2 := by
  intro xs μ Q ⟨_, _, _, e, _⟩
  subst e; rfl
theorem plainVs_rows : ∀ S : List (List Int), plainVs (S.map rowL) = true
  | [] => rfl
  | r :: S => by rw [List.map_cons, plainVs, plainVs_rows S, rowL, plainV, plainVs_ints]; rfl
theorem depVs_rows : ∀ S : List (List Int), depVs (S.map rowL) ≤ 1
  | [] => by rw [List.map_nil, depVs]; omega
  | r :: S => by
    rw [List.map_cons, depVs, rowL, depV, depVs_ints]
    have := depVs_rows S
    omega
/-- rows against none -/
theorem eq_rows {neg : Bool} {μ : Mu} {S : List (List Int)} {Q : DK} (q : Q (.bl (decide (S = []) != neg)) μ) : dEqN neg (.lst (S.map rowL)) (.lst []) μ Q := by
  refine datEq_plain (by rw [plainV]; exact plainVs_rows S) rfl (by rw [depV]; have := depVs_rows S; omega) (by decide) ?_
  have e : PyData.eqv (dataV (.lst (S.map rowL))) (dataV (.lst [])) = decide (S = []) := by
    cases S with
    | nil => rfl
    | cons r S => rfl
  rw [e]; exact q
theorem get_snoc (μ : Mu) (m : Mo) : (μ ++ [m])[μ.length]? = some m := by simp
theorem col_walk {μ μ1 : Mu} {d : DEnds} {x0 x1 : Option Vl} {o4 o5 o6 o7 o8 o9 o10 o11 o12 o13 o14 o15 : Option Vl} {j w n : Nat} {left found : List (List Int)} (hj : j < w) (hC : CI j w n left found) (hp : Pre μ μ1)
    (q : ∀ (n : Nat) (left found : List (List Int)) (μ1 : Mu) (o4 o5 o6 o7 o8 o9 o10 o11 o12 o13 o14 o15 : Option Vl), CI (j + 1) w n left found → Pre μ μ1 →
      d.nx [x0, x1, some (.lst (left.map rowL)), some (.lst (found.map rowL)), o4, o5, o6, o7, o8, o9, o10, o11, o12, o13, o14, o15] μ1) :
    hCol d [x0, x1, some (.lst (left.map rowL)), some (.lst (found.map rowL)), some (.int (j : Int)), o5, o6, o7, o8, o9, o10, o11, o12, o13, o14, o15] μ1 := by
  have hsl := sizeLine_eq
  have hleft := hC.lft
  refine ⟨left.map rowL, rfl, ?_⟩
  refine lc_filter trivial _ (isN j) rowL _ _ (fun r hr P K h1 h2 => ?_) (.inl ?_)
  · refine ⟨r.map .int, _, rfl, atI_at (by rw [(hleft r hr).1.1]; exact hj), ?_⟩
    exact dec_splitN (p := at0 r j = 0) (fun e => h1 (by simpa [isN] using e)) (fun e => h2 (by simpa [isN] using e))
  refine ⟨left.map rowL, rfl, ?_⟩
  refine lc_filter trivial _ (fun r => !isN j r) rowL _ _ (fun r hr P K h1 h2 => ?_) (.inr ?_)
  · refine ⟨r.map .int, _, rfl, atI_at (by rw [(hleft r hr).1.1]; exact hj), ?_⟩
    exact dec_splitE (p := at0 r j = 0) (fun e => h1 (by simpa [isN] using e)) (fun e => h2 (by simpa [isN] using e))
  rw [List.nil_append, List.nil_append]
  refine while_walk (μ := μ) (kr := μ1.length) hp.len hj hC.n4 hC.start (get_snoc _ _) (hp.add _) fun S R m μ2 p7 p8 p9 p10 p11 p12 p13 p14 p15 hW h1 hR hp2 => ?_
  have last : ∀ (n : Nat) (found : List (List Int)) (o11 o15 : Option Vl), CI (j + 1) w n (R.filter isZ) found → (dAsg (dLc (dIter (dVar 6)) (dgName 11) (dTest (dOp dNe (dLc (dIter (dVar 11)) (dgName 13) (dTest (dOp dNe (dVar 13) (dC (.int 0)))) (dVar 13) [13]) (dLst dNil))) (dVar 11) [11]) (dgName 2)) d
      [x0, x1, some (.lst (left.map rowL)), some (.lst (found.map rowL)), some (.int (j : Int)), some (.lst (S.map rowL)), some (.ref μ1.length), p7, p8, p9, p10, o11, p12, p13, p14, o15] μ2 := by
    intro n found o11 o15 hC'
    refine ⟨R.map rowL, vw_ref hR, ?_⟩
    have hG : asLong (R.map rowL) (.ref μ1.length) μ2 := mview_ref (mv_ref hR)
    refine lc_filter hG _ isZ rowL _ _ (fun r hr P K h1 h2 => ?_) (.inl ?_)
    · refine ⟨r.map .int, rfl, ?_⟩
      refine lc_filter trivial _ (fun x => decide (¬ x = 0)) Vl.int _ _ (fun x hx P2 K2 g1 g2 => ?_) (.inl ?_)
      · exact dec_splitN (p := x = 0) (fun e => g1 (by simpa using e)) (fun e => g2 (by simpa using e))
      refine ⟨by show 0 ≤ _; omega, .inl ?_⟩
      refine eq_lstI (s := []) ?_
      exact dec_splitN (p := (r.filter fun x => decide (¬ x = 0)) = []) (fun e => h1 (decide_eq_true e)) (fun e => h2 (decide_eq_false (fun k => k e)))
    · exact q n _ found μ2 _ _ _ _ _ _ _ _ _ _ _ _ hC' hp2
  refine ⟨by show 0 ≤ _; omega, .inl ?_⟩
  refine eq_rows ?_
  refine dec_splitN (p := S = []) (fun hne => ?_) (fun hnil => ?_)
  · obtain ⟨r, eS⟩ : ∃ r, S = [r] := by
      match S, hne, h1 with
      | [r], _, _ => exact ⟨r, rfl⟩
    subst eS
    have hr := hW.hS r (by simp)
    have hone := hC.one hW
    obtain ⟨n1, s1, _, _⟩ := hW.done hC.n4 (by simp) (by simp)
    obtain ⟨u1, u2, u3⟩ := upR_ok hr.1 hr.2 (s1 r (by simp))
    have he1 : Eb (n - 1) ≤ 2934 := by
      have := hC.n4
      match n, this, n1 with
      | 1, _, _ => decide
      | 2, _, _ => decide
      | 3, _, _ => decide
      | 4, _, _ => decide
    have he2 : 2 ^ Eb (n - 1) ≤ 2 ^ 2934 := Nat.pow_le_pow_right (by decide) he1
    have go : (dAsg (dOp dAdd (dLc (dIter (dVar 3)) (dgName 15) dYes (dLc (dZip (dCons (dVar 15) (dCons (dVar 11) dNil))) (dgTup 2 (dgCons (dgName 13) (dgCons (dgName 14) dgNil))) dYes (dOp (dI0 fun i j => .int (i - j)) (dVar 13) (dOp dMul (dOp dFdiv (dOp dIx (dVar 15) (dVar 4)) (dOp dIx (dVar 11) (dVar 4))) (dVar 14))) [13, 14]) [15]) (dLst (dCons (dVar 11) dNil))) (dgName 3))
        { d with nx := fun ρ μ => (dAsg (dLc (dIter (dVar 6)) (dgName 11) (dTest (dOp dNe (dLc (dIter (dVar 11)) (dgName 13) (dTest (dOp dNe (dVar 13) (dC (.int 0)))) (dVar 13) [13]) (dLst dNil))) (dVar 11) [11]) (dgName 2)) d ρ μ }
        [x0, x1, some (.lst (left.map rowL)), some (.lst (found.map rowL)), some (.int (j : Int)), some (.lst ([r].map rowL)), some (.ref μ1.length), p7, p8, p9, p10, some (rowL (upR j r)), p12, p13, p14, p15] μ2 := by
      refine ⟨found.map rowL, rfl, ?_⟩
      refine lc_map trivial _ (fun b => rowL (red j (upR j r) b)) _ _ (fun b hb P hP => ?_) (.inl ?_)
      · have hbl := hC.ech.len b hb
        refine ⟨_, _, b.map .int, (upR j r).map .int, rfl, rfl, rfl, ?_⟩
        rw [zip_rows]
        refine lc_map ⟨trivial, trivial⟩ _ (fun p' => Vl.int (p'.1 - (at0 b j).fdiv (at0 (upR j r) j) * p'.2)) _ _ (fun p' hp' P hP => ?_) (.inl ?_)
        · refine ⟨rfl, rfl, b.map .int, _, rfl, atI_at (by omega), (upR j r).map .int, _, rfl, atI_at (by rw [u1.1]; exact hj), ⟨by omega, log_le (Nat.le_trans (at_small u3 j) he2) (by decide)⟩, ?_, hP⟩
          have a1 := fdiv_size (a := at0 b j) (show at0 (upR j r) j ≠ 0 by omega)
          have a2 : ((at0 b j).fdiv (at0 (upR j r) j)).natAbs * 1 ≤ ((at0 b j).fdiv (at0 (upR j r) j)).natAbs * (at0 (upR j r) j).natAbs := Nat.mul_le_mul_left _ (by omega)
          have a3 := at_small (hC.fs b hb) j
          have a4 := at_small u3 j
          have a5 : 2 ^ Fb n ≤ 2 ^ 6422 := Nat.pow_le_pow_right (by decide) (Fb_le n)
          have a6 : 2 ^ 2934 ≤ 2 ^ 6422 := Nat.pow_le_pow_right (by decide) (by decide)
          refine mulok_small (a := 6423) (b := 2934) ?_ (Nat.le_trans (u3 _ (List.of_mem_zip hp').2) he2) (by decide)
          rw [show 6423 = 6422 + 1 from rfl, Nat.pow_succ]
          omega
        · rw [minus_zip]
          exact hP
      · refine ⟨by show 1 ≤ _; omega, .inl ?_⟩
        refine ⟨_, [rowL (upR j r)], rfl, rfl, ?_, .inl ?_⟩
        · have := hC.all
          simp; omega
        · have e : ([] : List Vl) ++ found.map (fun b => rowL (red j (upR j r) b)) ++ [rowL (upR j r)] = (found.map (red j (upR j r)) ++ [upR j r]).map rowL := by
            rw [List.nil_append, List.map_append, List.map_map]; rfl
          rw [e]
          exact last (n - 1) _ _ _ hone
    refine ⟨[rowL r], rowL r, rfl, rfl, r.map .int, .int (at0 r j), rfl, atI_at (by rw [hr.1.1]; exact hj), ?_⟩
    unfold upR at go
    refine dec_split (p := 0 < at0 r j) (fun hpos => ?_) (fun hpos => ?_)
    · rw [if_pos hpos] at go
      exact ⟨[rowL r], rowL r, rfl, rfl, go⟩
    · rw [if_neg hpos] at go
      refine ⟨[rowL r], rowL r, rfl, rfl, r.map .int, rfl, ?_⟩
      refine lc_map trivial _ (fun x => Vl.int (-x)) _ _ (fun x hx P hP => hP) (.inl ?_)
      have e : ([] : List Vl) ++ r.map (fun x => Vl.int (-x)) = (neg r).map .int := by
        unfold neg
        rw [List.nil_append, List.map_map]; rfl
      rw [e]
      exact go
  · subst hnil
    exact last n found _ _ (hC.none hW)
theorem r__law_hermite : ∀ xs μ Q, c__law_hermite xs μ Q → b__law_hermite (pureEnds μ Q) (startD ["rows", "width", "left", "found", "at", "some", "rest", "sizes", "later", "spot", "first", "row", "by", "number", "its", "one"] xs) μ := by
  intro xs μ Q ⟨x, rows, w, e, hx, gx, hw, h4, hr, q⟩
  subst e
  have hsl := sizeLine_eq
  refine ⟨rows.map rowV, hx, ?_⟩
  refine lc_map gx _ rowL _ _ (fun r hr P hP => ?_) (.inl ?_)
  · exact ⟨rowV r, r.map .int, rfl, rfl, .inl hP⟩
  rw [List.nil_append]
  refine ⟨by show 0 ≤ _; omega, .inl ?_⟩
  refine ⟨(w : Int), rfl, by omega, by omega, ?_⟩
  refine forD_inv (fun rest ρ μ1 => ∃ (j n : Nat) (left found : List (List Int)) (o4 o5 o6 o7 o8 o9 o10 o11 o12 o13 o14 o15 : Option Vl), j ≤ w ∧ rest = (List.range' j (w - j)).map (fun (i : Nat) => Vl.int (i : Int)) ∧ CI j w n left found ∧ Pre μ μ1 ∧
    ρ = [some x, some (.int (w : Int)), some (.lst (left.map rowL)), some (.lst (found.map rowL)), o4, o5, o6, o7, o8, o9, o10, o11, o12, o13, o14, o15]) (fun _ _ _ _ => trivial) (fun ρ μ1 h => ?_) (fun y rest ρ μ1 h D hD hrt _ => ?_) _ _ _ ?_
  · obtain ⟨j, n, left, found, o4, o5, o6, o7, o8, o9, o10, o11, o12, o13, o14, o15, hj, hrest, hC, hp, eρ⟩ := h
    subst eρ
    refine ⟨found.map rowL, rfl, ?_⟩
    refine lc_map trivial _ rowV _ _ (fun r hr P hP => ?_) (.inl ?_)
    · exact ⟨rowL r, r.map .int, rfl, rfl, hP⟩
    rw [List.nil_append]
    refine ⟨_, found.map rowV, rfl, rfl, ?_, hp, q found hC.fin⟩
    rw [rfb]
    have : ∀ S : List (List Int), rfbs μ.length (S.map rowV) = true := by
      intro S
      induction S with
      | nil => rw [List.map_nil, rfbs]
      | cons r S ih => rw [List.map_cons, rfbs, ih, rfb_row]; rfl
    exact this found
  · obtain ⟨j, n, left, found, o4, o5, o6, o7, o8, o9, o10, o11, o12, o13, o14, o15, hj, hrest, hC, hp, eρ⟩ := h
    subst eρ
    have hjw : j < w := by
      apply Nat.lt_of_le_of_ne hj
      intro e
      rw [e, Nat.sub_self] at hrest
      cases hrest
    rw [show w - j = (w - (j + 1)) + 1 by omega, List.range'_succ, List.map_cons] at hrest
    injection hrest with e1 e2
    subst e1
    refine col_walk (o4 := none) hjw hC hp fun n left found μ1 p4 p5 p6 p7 p8 p9 p10 p11 p12 p13 p14 p15 hC' hp' => ?_
    exact hD _ _ ⟨j + 1, n, left, found, p4, p5, p6, p7, p8, p9, p10, p11, p12, p13, p14, p15, by omega, e2, hC', hp', rfl⟩
  · refine ⟨0, 4, rows, [], none, none, none, none, none, none, none, none, none, none, none, none, by omega, ?_, CI.first hr h4, Pre.refl μ, rfl⟩
    rw [Int.toNat_natCast, rngD_map, List.range_eq_range', Nat.sub_zero]
end K26

set_option exponentiation.threshold 300
namespace K26
open PySem PySem.Spec L2 StX PyProof.Rows DL
/-! what is left of a row: no step is too large -/
theorem leftOk_of {w : Nat} : ∀ {bs : List (List Int)} {v : List Int} {k : Nat}, Bas w bs → v.length = w → Small (2 ^ k) v → k + 6424 * bs.length < 200000 → LeftOk bs v
  | [], v, k, _, _, _, _ => trivial
  | b :: t, v, k, B, hv, hs, hk => by
    obtain ⟨hb, ⟨p, hp, hpos, hz⟩, et⟩ := B.ech
    rw [List.length_cons] at hk
    obtain ⟨s1, s2, s3, s4⟩ := lead_spec b 0 p hp
    have q := quo_small (w := w) hp (by omega) hs
    have hbs := B.small b List.mem_cons_self
    refine ⟨⟨p, hp, by omega, log_le (at_small hbs p) (by decide), fun y hy => mulok_small (a := k + 1) (b := 6422) (by rw [Int.natAbs_neg]; exact q) (hbs y hy) (by omega)⟩, ?_⟩
    exact leftOk_of (k := k + 6424) B.tail (by rw [plus_len (by omega)]; exact hv) (plus_small hb hv hbs hs q) (by omega)
theorem small20 {r : List Int} (h : ∀ y ∈ r, -20 ≤ y ∧ y ≤ 20) : Small (2 ^ 5) r := fun x hx => by
  have := h x hx
  show x.natAbs ≤ 32
  omega
abbrev pM (μ : Mu) (ns : List Int) (a l : Int) : Mu := μ ++ [penM ns a l]
theorem pM_get {μ : Mu} {ns : List Int} {a l : Int} : (pM μ ns a l)[μ.length]? = some (penM ns a l) := get_new _ _
theorem pM_set {μ : Mu} {ns : List Int} {a l a' l' : Int} : (pM μ ns a l).set μ.length (penM ns a' l') = pM μ ns a' l' := by
  unfold pM
  rw [List.set_append_right _ _ (Nat.le_refl _), Nat.sub_self]; rfl
theorem zeros_rep (w : Nat) : (List.replicate (w : Int).toNat [Vl.int 0]).flatten = (zeros w).map .int := by
  unfold zeros
  rw [Int.toNat_natCast, List.map_replicate]
  induction w with
  | zero => rfl
  | succ w ih => rw [List.replicate_succ, List.flatten_cons, ih, List.replicate_succ]; rfl
def c__law_pen : Ct := c_pen
def lTail : DS := (dSeq (dIf (dTest (dOp dNe (dCB fRepr (dCons (dLst (dCons (dCall c_left_of (dCons (dVar 4) (dCons (dVar 7) dNil))) (dCons (dCall c_is_in (dCons (dVar 4) (dCons (dVar 7) dNil))) (dCons (dCall c_multiples_of (dCons (dVar 4) (dCons (dVar 7) dNil))) dNil)))) dNil)) (dCB fRepr (dCons (dLst (dCons (dOp dMul (dTup (dCons (dC (.int 0)) dNil)) (dVar 3)) (dCons (dC (.bl true)) (dCons (dVar 6) dNil)))) dNil)))) (dRet (dC (.bl false))) dNext)
    (dSeq (dAsg (dCallK c_left_of 0 2 [0, 1] dNil (dCons (dVar 4) (dCons (dVar 8) dNil))) (dgName 9))
    (dSeq (dIf (dTest (dOp dNe (dLc (dIter (dVar 4)) (dgName 12) (dNotT (dTest (dChain dLe dLt (dC (.int 0)) (dOp dIx (dVar 9) (dCall c__law_lead (dCons (dVar 12) dNil))) (dOp dIx (dVar 12) (dCall c__law_lead (dCons (dVar 12) dNil)))))) (dC (.int 1)) [12]) (dLst dNil))) (dRet (dC (.bl false))) dNext)
    (dSeq (dIf (dOrT (dNotT (dTest (dCall c__law_is_in (dCons (dVar 4) (dCons (dCall c__law_sum (dCons (dLst (dCons (dVar 8) (dCons (dVar 9) dNil))) (dCons (dLst (dCons (dC (.int 1)) (dCons (dNeg (dC (.int 1))) dNil))) (dCons (dVar 3) dNil)))) dNil))))) (dTest (dOp dNe (dCall c_left_of (dCons (dVar 4) (dCons (dCall c__law_sum (dCons (dLst (dCons (dVar 8) (dCons (dVar 7) dNil))) (dCons (dLst (dCons (dC (.int 1)) (dCons (dC (.int 1)) dNil))) (dCons (dVar 3) dNil)))) dNil))) (dVar 9)))) (dRet (dC (.bl false))) dNext)
    (dSeq (dAsg (dCall c__law_is_in (dCons (dVar 4) (dCons (dVar 8) dNil))) (dgName 10))
    (dSeq (dAsg (dCallK c_multiples_of 0 2 [0, 1] dNil (dCons (dVar 4) (dCons (dVar 8) dNil))) (dgName 11))
    (dSeq (dIf (dOrT (dTest (dOp dNe (dCB fRepr (dCons (dCallK c_is_in 0 2 [0, 1] dNil (dCons (dVar 4) (dCons (dVar 8) dNil))) dNil)) (dCB fRepr (dCons (dVar 10) dNil)))) (dOrT (dTest (dOp dNe (dOp (dIsN true) (dVar 11) (dC .non)) (dVar 10))) (dAndT (dTest (dVar 10)) (dTest (dOp dNe (dCall c__law_sum (dCons (dVar 4) (dCons (dVar 11) (dCons (dVar 3) dNil)))) (dVar 8)))))) (dRet (dC (.bl false))) dNext)
    (dIf (dTest (dOp dNe (dCall c_is_in (dCons (dVar 4) (dCons (dCB fTuple (dCons (dLc (dIter (dVar 8)) (dgName 13) dYes (dOp dMul (dC (.int 2)) (dVar 13)) [13]) dNil)) dNil))) (dCall c__law_is_in (dCons (dVar 4) (dCons (dCB fTuple (dCons (dLc (dIter (dVar 8)) (dgName 13) dYes (dOp dMul (dC (.int 2)) (dVar 13)) [13]) dNil)) dNil))))) (dRet (dC (.bl false))) dNext))))))))
def lTail2 : DS := (dSeq (dAsg (dCallK c_left_of 0 2 [0, 1] dNil (dCons (dVar 4) (dCons (dVar 8) dNil))) (dgName 9))
    (dSeq (dIf (dTest (dOp dNe (dLc (dIter (dVar 4)) (dgName 12) (dNotT (dTest (dChain dLe dLt (dC (.int 0)) (dOp dIx (dVar 9) (dCall c__law_lead (dCons (dVar 12) dNil))) (dOp dIx (dVar 12) (dCall c__law_lead (dCons (dVar 12) dNil)))))) (dC (.int 1)) [12]) (dLst dNil))) (dRet (dC (.bl false))) dNext)
    (dSeq (dIf (dOrT (dNotT (dTest (dCall c__law_is_in (dCons (dVar 4) (dCons (dCall c__law_sum (dCons (dLst (dCons (dVar 8) (dCons (dVar 9) dNil))) (dCons (dLst (dCons (dC (.int 1)) (dCons (dNeg (dC (.int 1))) dNil))) (dCons (dVar 3) dNil)))) dNil))))) (dTest (dOp dNe (dCall c_left_of (dCons (dVar 4) (dCons (dCall c__law_sum (dCons (dLst (dCons (dVar 8) (dCons (dVar 7) dNil))) (dCons (dLst (dCons (dC (.int 1)) (dCons (dC (.int 1)) dNil))) (dCons (dVar 3) dNil)))) dNil))) (dVar 9)))) (dRet (dC (.bl false))) dNext)
    (dSeq (dAsg (dCall c__law_is_in (dCons (dVar 4) (dCons (dVar 8) dNil))) (dgName 10))
    (dSeq (dAsg (dCallK c_multiples_of 0 2 [0, 1] dNil (dCons (dVar 4) (dCons (dVar 8) dNil))) (dgName 11))
    (dSeq (dIf (dOrT (dTest (dOp dNe (dCB fRepr (dCons (dCallK c_is_in 0 2 [0, 1] dNil (dCons (dVar 4) (dCons (dVar 8) dNil))) dNil)) (dCB fRepr (dCons (dVar 10) dNil)))) (dOrT (dTest (dOp dNe (dOp (dIsN true) (dVar 11) (dC .non)) (dVar 10))) (dAndT (dTest (dVar 10)) (dTest (dOp dNe (dCall c__law_sum (dCons (dVar 4) (dCons (dVar 11) (dCons (dVar 3) dNil)))) (dVar 8)))))) (dRet (dC (.bl false))) dNext)
    (dIf (dTest (dOp dNe (dCall c_is_in (dCons (dVar 4) (dCons (dCB fTuple (dCons (dLc (dIter (dVar 8)) (dgName 13) dYes (dOp dMul (dC (.int 2)) (dVar 13)) [13]) dNil)) dNil))) (dCall c__law_is_in (dCons (dVar 4) (dCons (dCB fTuple (dCons (dLc (dIter (dVar 8)) (dgName 13) dYes (dOp dMul (dC (.int 2)) (dVar 13)) [13]) dNil)) dNil))))) (dRet (dC (.bl false))) dNext)))))))
def lTail3 : DS := (dSeq (dAsg (dCall c__law_is_in (dCons (dVar 4) (dCons (dVar 8) dNil))) (dgName 10))
    (dSeq (dAsg (dCallK c_multiples_of 0 2 [0, 1] dNil (dCons (dVar 4) (dCons (dVar 8) dNil))) (dgName 11))
    (dSeq (dIf (dOrT (dTest (dOp dNe (dCB fRepr (dCons (dCallK c_is_in 0 2 [0, 1] dNil (dCons (dVar 4) (dCons (dVar 8) dNil))) dNil)) (dCB fRepr (dCons (dVar 10) dNil)))) (dOrT (dTest (dOp dNe (dOp (dIsN true) (dVar 11) (dC .non)) (dVar 10))) (dAndT (dTest (dVar 10)) (dTest (dOp dNe (dCall c__law_sum (dCons (dVar 4) (dCons (dVar 11) (dCons (dVar 3) dNil)))) (dVar 8)))))) (dRet (dC (.bl false))) dNext)
    (dIf (dTest (dOp dNe (dCall c_is_in (dCons (dVar 4) (dCons (dCB fTuple (dCons (dLc (dIter (dVar 8)) (dgName 13) dYes (dOp dMul (dC (.int 2)) (dVar 13)) [13]) dNil)) dNil))) (dCall c__law_is_in (dCons (dVar 4) (dCons (dCB fTuple (dCons (dLc (dIter (dVar 8)) (dgName 13) dYes (dOp dMul (dC (.int 2)) (dVar 13)) [13]) dNil)) dNil))))) (dRet (dC (.bl false))) dNext))))
def lLap : DS := (dSeq (dAsg (dCB fTuple (dCons (dLc (dIter (dVar 4)) (dgName 8) dYes (dOp (dI0 fun i j => .int (i - j)) (dCall c__law_draw (dCons (dVar 1) (dCons (dC (.int 21)) dNil))) (dC (.int 10))) [8]) dNil)) (dgName 6))
    (dSeq (dPar 7 8 (dCons (dCall c__law_sum (dCons (dVar 4) (dCons (dVar 6) (dCons (dVar 3) dNil)))) (dCons (dCall c__law_row (dCons (dVar 1) (dCons (dVar 3) dNil))) dNil)))
    (dSeq (dIf (dTest (dOp dNe (dCB fRepr (dCons (dLst (dCons (dCall c_left_of (dCons (dVar 4) (dCons (dVar 7) dNil))) (dCons (dCall c_is_in (dCons (dVar 4) (dCons (dVar 7) dNil))) (dCons (dCall c_multiples_of (dCons (dVar 4) (dCons (dVar 7) dNil))) dNil)))) dNil)) (dCB fRepr (dCons (dLst (dCons (dOp dMul (dTup (dCons (dC (.int 0)) dNil)) (dVar 3)) (dCons (dC (.bl true)) (dCons (dVar 6) dNil)))) dNil)))) (dRet (dC (.bl false))) dNext)
    (dSeq (dAsg (dCallK c_left_of 0 2 [0, 1] dNil (dCons (dVar 4) (dCons (dVar 8) dNil))) (dgName 9))
    (dSeq (dIf (dTest (dOp dNe (dLc (dIter (dVar 4)) (dgName 12) (dNotT (dTest (dChain dLe dLt (dC (.int 0)) (dOp dIx (dVar 9) (dCall c__law_lead (dCons (dVar 12) dNil))) (dOp dIx (dVar 12) (dCall c__law_lead (dCons (dVar 12) dNil)))))) (dC (.int 1)) [12]) (dLst dNil))) (dRet (dC (.bl false))) dNext)
    (dSeq (dIf (dOrT (dNotT (dTest (dCall c__law_is_in (dCons (dVar 4) (dCons (dCall c__law_sum (dCons (dLst (dCons (dVar 8) (dCons (dVar 9) dNil))) (dCons (dLst (dCons (dC (.int 1)) (dCons (dNeg (dC (.int 1))) dNil))) (dCons (dVar 3) dNil)))) dNil))))) (dTest (dOp dNe (dCall c_left_of (dCons (dVar 4) (dCons (dCall c__law_sum (dCons (dLst (dCons (dVar 8) (dCons (dVar 7) dNil))) (dCons (dLst (dCons (dC (.int 1)) (dCons (dC (.int 1)) dNil))) (dCons (dVar 3) dNil)))) dNil))) (dVar 9)))) (dRet (dC (.bl false))) dNext)
    (dSeq (dAsg (dCall c__law_is_in (dCons (dVar 4) (dCons (dVar 8) dNil))) (dgName 10))
    (dSeq (dAsg (dCallK c_multiples_of 0 2 [0, 1] dNil (dCons (dVar 4) (dCons (dVar 8) dNil))) (dgName 11))
    (dSeq (dIf (dOrT (dTest (dOp dNe (dCB fRepr (dCons (dCallK c_is_in 0 2 [0, 1] dNil (dCons (dVar 4) (dCons (dVar 8) dNil))) dNil)) (dCB fRepr (dCons (dVar 10) dNil)))) (dOrT (dTest (dOp dNe (dOp (dIsN true) (dVar 11) (dC .non)) (dVar 10))) (dAndT (dTest (dVar 10)) (dTest (dOp dNe (dCall c__law_sum (dCons (dVar 4) (dCons (dVar 11) (dCons (dVar 3) dNil)))) (dVar 8)))))) (dRet (dC (.bl false))) dNext)
    (dIf (dTest (dOp dNe (dCall c_is_in (dCons (dVar 4) (dCons (dCB fTuple (dCons (dLc (dIter (dVar 8)) (dgName 13) dYes (dOp dMul (dC (.int 2)) (dVar 13)) [13]) dNil)) dNil))) (dCall c__law_is_in (dCons (dVar 4) (dCons (dCB fTuple (dCons (dLc (dIter (dVar 8)) (dgName 13) dYes (dOp dMul (dC (.int 2)) (dVar 13)) [13]) dNil)) dNil))))) (dRet (dC (.bl false))) dNext))))))))))
abbrev lSt (μ : Mu) (w : Nat) (bs : List (List Int)) (o0 o2 o5 : Option Vl) (ms i r : Option Vl) (o9 o10 o11 o12 o13 : Option Vl) : Rho := [o0, some (.ref μ.length), o2, some (.int (w : Int)), some (.tup (bs.map rowV)), o5, ms, i, r, o9, o10, o11, o12, o13]
def lTail5 : DS := (dIf (dTest (dOp dNe (dCall c_is_in (dCons (dVar 4) (dCons (dCB fTuple (dCons (dLc (dIter (dVar 8)) (dgName 13) dYes (dOp dMul (dC (.int 2)) (dVar 13)) [13]) dNil)) dNil))) (dCall c__law_is_in (dCons (dVar 4) (dCons (dCB fTuple (dCons (dLc (dIter (dVar 8)) (dgName 13) dYes (dOp dMul (dC (.int 2)) (dVar 13)) [13]) dNil)) dNil))))) (dRet (dC (.bl false))) dNext)
theorem tail5_walk {μ0 μ : Mu} {d : DEnds} {w : Nat} {bs : List (List Int)} {o0 o2 o5 o6 o7 o9 o10 o11 o12 o13 : Option Vl} {r : List Int} (hw5 : w ≤ 5) (B : Bas w bs) (hr : r.length = w) (hs : Small (2 ^ 5) r)
    (q : d.nx (lSt μ0 w bs o0 o2 o5 o6 o7 (some (rowV r)) o9 o10 o11 o12 o13) μ) :
    lTail5 d (lSt μ0 w bs o0 o2 o5 o6 o7 (some (rowV r)) o9 o10 o11 o12 o13) μ := by
  have hlen := B.len
  have e2 : ([] : List Vl) ++ r.map (fun x => Vl.int (2 * x)) = (r.map fun x => 2 * x).map .int := by
    rw [List.nil_append, List.map_map]; rfl
  have l2 : (r.map fun x => 2 * x).length = w := by rw [List.length_map]; exact hr
  have s2 : Small (2 ^ 6) (r.map fun x => 2 * x) := fun x hx => by
    obtain ⟨y, hy, e⟩ := List.mem_map.mp hx
    have := hs y hy
    have e6 : (2 : Nat) ^ 6 = 2 ^ 5 * 2 := rfl
    omega
  have ok : LeftOk bs (r.map fun x => 2 * x) := leftOk_of B l2 s2 (by omega)
  refine ⟨r.map .int, rfl, ?_⟩
  refine lc_map trivial _ (fun x => Vl.int (2 * x)) _ _ (fun x hx P hP => ⟨.inl (by decide), hP⟩) (.inl ?_)
  rw [e2]
  refine ⟨_, (r.map fun x => 2 * x).map .int, rfl, rfl, bs, r.map fun x => 2 * x, rfl, ok, ?_⟩
  refine ⟨r.map .int, rfl, ?_⟩
  refine lc_map trivial _ (fun x => Vl.int (2 * x)) _ _ (fun x hx P hP => ⟨.inl (by decide), hP⟩) (.inl ?_)
  rw [e2]
  refine ⟨_, (r.map fun x => 2 * x).map .int, rfl, rfl, bs, r.map fun x => 2 * x, rfl, ok, fun b hb => by rw [l2]; exact B.ech.len b hb, ?_⟩
  exact dec_splitN (p := (leadFrom 0 (leftOf bs (r.map fun x => 2 * x))).isNone = (leadFrom 0 (leftOf bs (r.map fun x => 2 * x))).isNone) (fun k => absurd rfl k) (fun _ => q)
def lTail4 : DS := (dSeq (dIf (dOrT (dTest (dOp dNe (dCB fRepr (dCons (dCallK c_is_in 0 2 [0, 1] dNil (dCons (dVar 4) (dCons (dVar 8) dNil))) dNil)) (dCB fRepr (dCons (dVar 10) dNil)))) (dOrT (dTest (dOp dNe (dOp (dIsN true) (dVar 11) (dC .non)) (dVar 10))) (dAndT (dTest (dVar 10)) (dTest (dOp dNe (dCall c__law_sum (dCons (dVar 4) (dCons (dVar 11) (dCons (dVar 3) dNil)))) (dVar 8)))))) (dRet (dC (.bl false))) dNext)
    (dIf (dTest (dOp dNe (dCall c_is_in (dCons (dVar 4) (dCons (dCB fTuple (dCons (dLc (dIter (dVar 8)) (dgName 13) dYes (dOp dMul (dC (.int 2)) (dVar 13)) [13]) dNil)) dNil))) (dCall c__law_is_in (dCons (dVar 4) (dCons (dCB fTuple (dCons (dLc (dIter (dVar 8)) (dgName 13) dYes (dOp dMul (dC (.int 2)) (dVar 13)) [13]) dNil)) dNil))))) (dRet (dC (.bl false))) dNext))
theorem bl_facts (b : Bool) : plainV (.bl b) = true ∧ shortV (.bl b) = true ∧ depV (.bl b) ≤ 64 ∧ 1932 * nodV (.bl b) ≤ sizeLine := by
  have := sizeLine_eq
  refine ⟨rfl, rfl, by show 0 ≤ _; omega, by show 1932 * 1 ≤ _; omega⟩
theorem tail4_walk {μ0 μ : Mu} {d : DEnds} {w : Nat} {bs : List (List Int)} {o0 o2 o5 o6 o7 o9 o12 o13 : Option Vl} {r : List Int} {du : Bool} {tv : Vl} (hw5 : w ≤ 5) (B : Bas w bs) (hr : r.length = w) (hs : Small (2 ^ 5) r) (hdu : (leadFrom 0 (leftOf bs r)).isNone = du) (htv : tv = if du then rowV (mults bs r) else .non)
    (q : ∀ (o9 o10 o11 o12 o13 : Option Vl), d.nx (lSt μ0 w bs o0 o2 o5 o6 o7 (some (rowV r)) o9 o10 o11 o12 o13) μ) :
    lTail4 d (lSt μ0 w bs o0 o2 o5 o6 o7 (some (rowV r)) o9 (some (.bl du)) (some tv) o12 o13) μ := by
  have hlen := B.len
  have okr : LeftOk bs r := leftOk_of B hr hs (by omega)
  obtain ⟨p1, p2, p3, p4⟩ := bl_facts (leadFrom 0 (leftOf bs r)).isNone
  obtain ⟨g1, g2, g3, g4⟩ := bl_facts du
  have five : ∀ o9 o10 o11 o12 o13, lTail5 d (lSt μ0 w bs o0 o2 o5 o6 o7 (some (rowV r)) o9 o10 o11 o12 o13) μ := fun o9 o10 o11 o12 o13 => tail5_walk hw5 B hr hs (q _ _ _ _ _)
  refine ⟨rfl, rfl, bs, r, rfl, okr, ?_⟩
  refine ⟨_, dataV _, rfl, datM_plain p1, shaped_plain p1 p3, (short_show _ p1 p2).1, shown_le p1 p2 p4, ?_⟩
  refine ⟨_, dataV _, rfl, datM_plain g1, shaped_plain g1 g3, (short_show _ g1 g2).1, shown_le g1 g2 g4, ?_⟩
  refine dec_splitN (p := (dataV (.bl (leadFrom 0 (leftOf bs r)).isNone)).shown = (dataV (.bl du)).shown) (fun h => absurd (by rw [hdu]) h) (fun _ => ?_)
  cases du with
  | false =>
    subst htv
    exact five _ _ _ _ _
  | true =>
    subst htv
    have hq : leadFrom 0 (leftOf bs r) = none := by simpa using hdu
    have back : sumR bs (mults bs r) w = r := by
      rw [sum_addM B.ech, ← lead_zeros (leftOf_len B.ech hr) hq, left_back B.ech hr]
    refine ⟨_, _, bs, mults bs r, w, rfl, rfl, trivial, rfl, trivial, by omega, B.ech.len, fun m hm b hb z hz => ?_, ?_⟩
    · exact mulok_small (a := 5 + 30000) (b := 6422) ((left_sized B hr hs (by omega)).1 m hm) (B.small b hb z hz) (by decide)
    · refine dVar_at (x := rowV r) rfl ?_
      refine eq_tupI ?_
      exact dec_splitN (p := sumR bs (mults bs r) w = r) (fun k => absurd back k) (fun _ => five _ _ _ _ _)
theorem tail3_walk {μ0 μ : Mu} {d : DEnds} {w : Nat} {bs : List (List Int)} {o0 o2 o5 o6 o7 o9 o10 o11 o12 o13 : Option Vl} {r : List Int} (hw5 : w ≤ 5) (B : Bas w bs) (hr : r.length = w) (hs : Small (2 ^ 5) r)
    (q : ∀ (o9 o10 o11 o12 o13 : Option Vl), d.nx (lSt μ0 w bs o0 o2 o5 o6 o7 (some (rowV r)) o9 o10 o11 o12 o13) μ) :
    lTail3 d (lSt μ0 w bs o0 o2 o5 o6 o7 (some (rowV r)) o9 o10 o11 o12 o13) μ := by
  have hlen := B.len
  have okr : LeftOk bs r := leftOk_of B hr hs (by omega)
  refine ⟨bs, r, rfl, okr, fun b hb => by rw [hr]; exact B.ech.len b hb, ?_⟩
  refine ⟨rfl, rfl, bs, r, rfl, by omega, okr, ?_⟩
  exact tail4_walk hw5 B hr hs rfl (by unfold multV; rfl) q
theorem tail2_walk {μ0 μ : Mu} {d : DEnds} {w : Nat} {bs : List (List Int)} {o0 o2 o5 o6 o9 o10 o11 o12 o13 : Option Vl} {ms r : List Int} (hw5 : w ≤ 5) (B : Bas w bs) (hm : ms.length = bs.length) (hm10 : ∀ m ∈ ms, m.natAbs ≤ 10) (hr : r.length = w) (hs : Small (2 ^ 5) r)
    (q : ∀ (o9 o10 o11 o12 o13 : Option Vl), d.nx (lSt μ0 w bs o0 o2 o5 o6 (some (rowV (sumR bs ms w))) (some (rowV r)) o9 o10 o11 o12 o13) μ) :
    lTail2 d (lSt μ0 w bs o0 o2 o5 o6 (some (rowV (sumR bs ms w))) (some (rowV r)) o9 o10 o11 o12 o13) μ := by
  have hsl := sizeLine_eq
  have hlen := B.len
  have okr : LeftOk bs r := leftOk_of B hr hs (by omega)
  refine ⟨rfl, rfl, bs, r, rfl, okr, ?_⟩
  have hll := leftOf_len B.ech hr
  refine ⟨bs.map rowV, rfl, ?_⟩
  refine lc_filter trivial _ (fun _ => false) (fun _ => Vl.int 1) _ _ (fun b hb P K h1 h2 => ?_) (.inl ?_)
  · obtain ⟨p, hp⟩ : ∃ p, leadFrom 0 b = some p := by
      clear h1 h2
      have : ∀ {bs : List (List Int)}, Ech w bs → ∀ b ∈ bs, ∃ p, leadFrom 0 b = some p := by
        intro bs
        induction bs with
        | nil => intro _ b h; cases h
        | cons c t ih =>
          intro e b h
          rcases List.mem_cons.mp h with z | z
          · rw [z]; obtain ⟨p, hp, _⟩ := e.2.1; exact ⟨p, hp⟩
          · exact ih e.2.2 b z
      exact this B.ech b hb
    obtain ⟨g1, g2⟩ := left_small B.ech hr b hb p hp
    have hbl := B.ech.len b hb
    obtain ⟨s1, s2, s3, s4⟩ := lead_spec b 0 p hp
    refine ⟨b, rfl, ?_⟩
    rw [hp]
    refine ⟨(leftOf bs r).map .int, _, rfl, atI_at (by omega), ?_⟩
    refine bl_split (p := 0 ≤ at0 (leftOf bs r) p) (fun _ => ?_) (fun k => absurd g1 k)
    refine ⟨b, rfl, ?_⟩
    rw [hp]
    refine ⟨b.map .int, _, rfl, atI_at (by omega), ?_⟩
    exact dec_splitB (p := at0 (leftOf bs r) p < at0 b p) (fun k => absurd g2 k) (fun _ => h2 rfl)
  refine ⟨by show 0 ≤ _; omega, .inl ?_⟩
  have e0 : ([] : List Vl) ++ (bs.filter fun _ => false).map (fun _ => Vl.int 1) = [] := by simp
  rw [e0]
  refine eq_lstI (r := []) (s := []) ?_
  have szL := (left_sized B hr hs (by omega)).2
  have hL : Small (2 ^ 30000) (leftOf bs r) := szL.mono (Nat.pow_le_pow_right (by decide) (by omega))
  have two : ∀ {x y : List Int} (h1 : x.length = w) (h2 : y.length = w), ∀ z ∈ [x, y], z.length = w := fun h1 h2 z hz => by
    rcases List.mem_cons.mp hz with e | e
    · rw [e]; exact h1
    · rw [List.mem_singleton.mp e]; exact h2
  have twoS : ∀ {x y : List Int} {k : Nat} (h1 : Small (2 ^ k) x) (h2 : Small (2 ^ k) y), ∀ z ∈ [x, y], Small (2 ^ k) z := fun h1 h2 z hz => by
    rcases List.mem_cons.mp hz with e | e
    · rw [e]; exact h1
    · rw [List.mem_singleton.mp e]; exact h2
  have ones : ∀ m ∈ ([1, -1] : List Int), m.natAbs ≤ 2 ^ 0 := by decide
  have ones' : ∀ m ∈ ([1, 1] : List Int), m.natAbs ≤ 2 ^ 0 := by decide
  have hrb : Small (2 ^ 30000) r := hs.mono (Nat.pow_le_pow_right (by decide) (by decide))
  have szI : Small (2 ^ 6428) (sumR bs ms w) := sum_small (a := 4) (b := 6422) hlen B.small fun m h => by have := hm10 m h; show m.natAbs ≤ 16; omega
  have dS : Small (2 ^ (0 + 30000 + 2)) (sumR [r, leftOf bs r] [1, -1] w) := sum_small (by show 2 ≤ 4; omega) (twoS hrb hL) ones
  have aS : Small (2 ^ (0 + 6428 + 2)) (sumR [r, sumR bs ms w] [1, 1] w) := sum_small (by show 2 ≤ 4; omega) (twoS (hs.mono (Nat.pow_le_pow_right (by decide) (by decide))) szI) ones'
  have okd : LeftOk bs (sumR [r, leftOf bs r] [1, -1] w) := leftOk_of B sumR_len dS (by omega)
  have oka : LeftOk bs (sumR [r, sumR bs ms w] [1, 1] w) := leftOk_of B sumR_len aS (by omega)
  have zd : leadFrom 0 (leftOf bs (sumR [r, leftOf bs r] [1, -1] w)) = none := by
    rw [sub_left B.ech hr, (left_inside B.ech mults_len).1]
    exact zeros_lead w
  have za : leftOf bs (sumR [r, sumR bs ms w] [1, 1] w) = leftOf bs r := by
    rw [add_inside B.ech hr, (left_add B.ech hr hm).1]
  refine ⟨by show 2 ≤ _; omega, .inl ?_⟩
  refine ⟨by show 2 ≤ _; omega, .inl ?_⟩
  refine ⟨_, _, [r, leftOf bs r], [1, -1], w, rfl, rfl, trivial, rfl, trivial, by omega, two hr hll, fun m h _ _ _ _ => .inl (by have := ones m h; omega), ?_⟩
  refine ⟨bs, _, rfl, okd, fun b hb => by rw [sumR_len]; exact B.ech.len b hb, ?_⟩
  refine bool_splitB (b := (leadFrom 0 (leftOf bs (sumR [r, leftOf bs r] [1, -1] w))).isNone) (fun k => by rw [zd] at k; cases k) (fun _ => ?_)
  refine ⟨by show 2 ≤ _; omega, .inl ?_⟩
  refine ⟨by show 2 ≤ _; omega, .inl ?_⟩
  refine ⟨_, _, [r, sumR bs ms w], [1, 1], w, rfl, rfl, trivial, rfl, trivial, by omega, two hr sumR_len, fun m h _ _ _ _ => .inl (by have := ones' m h; omega), ?_⟩
  refine ⟨bs, _, rfl, oka, ?_⟩
  refine dVar_at (x := rowV (leftOf bs r)) rfl ?_
  refine eq_tupI ?_
  refine dec_splitN (p := leftOf bs (sumR [r, sumR bs ms w] [1, 1] w) = leftOf bs r) (fun k => absurd za k) (fun _ => ?_)
  exact tail3_walk hw5 B hr hs q
theorem tail_walk {μ0 μ : Mu} {d : DEnds} {w : Nat} {bs : List (List Int)} {o0 o2 o5 o9 o10 o11 o12 o13 : Option Vl} {ms r : List Int} (hw1 : 1 ≤ w) (hw5 : w ≤ 5) (B : Bas w bs) (hm : ms.length = bs.length) (hm10 : ∀ m ∈ ms, m.natAbs ≤ 10) (hr : r.length = w) (hs : Small (2 ^ 5) r)
    (q : ∀ (o9 o10 o11 o12 o13 : Option Vl), d.nx (lSt μ0 w bs o0 o2 o5 (some (rowV ms)) (some (rowV (sumR bs ms w))) (some (rowV r)) o9 o10 o11 o12 o13) μ) :
    lTail d (lSt μ0 w bs o0 o2 o5 (some (rowV ms)) (some (rowV (sumR bs ms w))) (some (rowV r)) o9 o10 o11 o12 o13) μ := by
  have hsl := sizeLine_eq
  have hlen := B.len
  have eI := sum_addM (ms := ms) B.ech
  obtain ⟨l1, l2⟩ := left_inside (ms := ms) B.ech hm
  rw [← eI] at l1 l2
  have hI : Small (2 ^ (4 + 6422 + 2)) (sumR bs ms w) := sum_small hlen B.small fun m h => by have := hm10 m h; show m.natAbs ≤ 16; omega
  have ok : LeftOk bs (sumR bs ms w) := leftOk_of B sumR_len hI (by omega)
  have hlead : leadFrom 0 (leftOf bs (sumR bs ms w)) = none := by rw [l1]; exact zeros_lead w
  have ex : Vl.lst [rowV (leftOf bs (sumR bs ms w)), .bl (leadFrom 0 (leftOf bs (sumR bs ms w))).isNone, multV bs (sumR bs ms w)] = .lst [rowV (zeros w), .bl true, rowV ms] := by
    unfold multV
    rw [hlead, l1, l2]; rfl
  have ey : Vl.lst [.tup (List.replicate (w : Int).toNat [Vl.int 0]).flatten, .bl true, rowV ms] = .lst [rowV (zeros w), .bl true, rowV ms] := by
    rw [zeros_rep]; rfl
  have fact : ∀ x, x = Vl.lst [rowV (zeros w), .bl true, rowV ms] → plainV x = true ∧ shortV x = true ∧ depV x ≤ 64 ∧ 1932 * nodV x ≤ sizeLine := by
    intro x e
    subst e
    refine ⟨?_, ?_, ?_, ?_⟩
    · simp [plainV, plainVs, rowV, plainVs_ints]
    · simp only [shortV, shortVs, rowV, shortVs_ints, Bool.and_true, Bool.true_and, Bool.and_eq_true, List.all_eq_true, decide_eq_true_eq]
      refine ⟨fun y hy => ?_, fun y hy => ?_⟩
      · rw [List.eq_of_mem_replicate hy]; decide
      · have h1 := hm10 y hy
        have h2 : y.natAbs ≤ 2 ^ 4 := by omega
        by_cases hz : y.natAbs = 0
        · rw [hz]; decide
        · have := (Nat.log2_lt hz).mpr (show y.natAbs < 2 ^ 5 by omega)
          omega
    · simp [depV, depVs, rowV, depVs_ints]
    · simp only [nodV, nodVs, rowV, nodVs_ints]
      have : (zeros w).length = w := by simp [zeros]
      omega
  refine ⟨bs, sumR bs ms w, rfl, ok, bs, sumR bs ms w, rfl, ok, bs, sumR bs ms w, rfl, by omega, ok, by show 3 ≤ _; omega, .inl ?_⟩
  obtain ⟨p1, p2, p3, p4⟩ := fact _ ex
  refine ⟨_, dataV _, rfl, datM_plain p1, shaped_plain p1 p3, (short_show _ p1 p2).1, shown_le p1 p2 p4, ?_⟩
  refine ⟨by show 1 ≤ _; omega, by simp, by omega, by omega, by decide, by show 3 ≤ _; omega, .inl ?_⟩
  obtain ⟨p1, p2, p3, p4⟩ := fact _ ey
  refine ⟨_, dataV _, rfl, datM_plain p1, shaped_plain p1 p3, (short_show _ p1 p2).1, shown_le p1 p2 p4, ?_⟩
  refine dec_splitN (p := (dataV (Vl.lst [rowV (leftOf bs (sumR bs ms w)), .bl (leadFrom 0 (leftOf bs (sumR bs ms w))).isNone, multV bs (sumR bs ms w)])).shown = (dataV (Vl.lst [.tup (List.replicate (w : Int).toNat [Vl.int 0]).flatten, .bl true, rowV ms])).shown) (fun h => absurd (by rw [ex, ey]) h) (fun _ => ?_)
  exact tail2_walk hw5 B hm hm10 hr hs q
theorem lap_walk {μ : Mu} {ns : List Int} {a l : Int} {d : DEnds} {o0 o2 o5 o6 o7 o8 o9 o10 o11 o12 o13 : Option Vl} {w : Nat} {bs : List (List Int)} (hw1 : 1 ≤ w) (hw5 : w ≤ 5) (B : Bas w bs) (ha : 0 ≤ a ∧ a ≤ 800000) (hl : 0 ≤ l)
    (q : ∀ (a' l' : Int) (o6 o7 o8 o9 o10 o11 o12 o13 : Option Vl), a ≤ a' → a' ≤ a + 20 → 0 ≤ l' → d.nx [o0, some (.ref μ.length), o2, some (.int (w : Int)), some (.tup (bs.map rowV)), o5, o6, o7, o8, o9, o10, o11, o12, o13] (pM μ ns a' l')) :
    lLap d [o0, some (.ref μ.length), o2, some (.int (w : Int)), some (.tup (bs.map rowV)), o5, o6, o7, o8, o9, o10, o11, o12, o13] (pM μ ns a l) := by
  have hsl := sizeLine_eq
  have hlen := B.len
  have hech := B.ech
  refine ⟨bs.map rowV, rfl, ?_⟩
  refine lcD_inv (fun rest acc μ' => ∃ (ms : List Int) (a' l' : Int), acc = ms.map .int ∧ (∀ m ∈ ms, m.natAbs ≤ 10) ∧ ms.length + rest.length = bs.length ∧ a ≤ a' ∧ a' ≤ a + (ms.length : Int) ∧ 0 ≤ l' ∧ μ' = pM μ ns a' l') (fun _ _ _ _ => trivial) (fun acc μ' h => ?_) (fun x rest acc μ' h D hD => ?_) _ _ _ ⟨[], a, l, rfl, by simp, by simp, by omega, by simp, hl, rfl⟩
  · obtain ⟨ms, a1, l1, e1, hms, hml, ha1, ha2, hl1, e2⟩ := h
    subst e1; subst e2
    have hml : ms.length = bs.length := by simpa using hml
    refine .inl ⟨_, ms.map .int, rfl, rfl, ?_⟩
    refine ⟨_, _, bs, ms, w, rfl, rfl, trivial, rfl, trivial, by omega, hech.len, fun m hm _ _ _ _ => .inl (by have := hms m hm; omega), ?_⟩
    refine ⟨μ.length, ns, a1, l1, w, rfl, by omega, pM_get, by omega, hl1, fun r a2 l2 hr hr20 ha3 ha4 hl2 => ?_⟩
    rw [pM_set]
    exact tail_walk hw1 hw5 B hml hms hr (small20 hr20) fun o9 o10 o11 o12 o13 => q a2 l2 _ _ _ _ _ _ _ _ (by omega) (by omega) hl2
  · obtain ⟨ms, a1, l1, e1, hms, hml, ha1, ha2, hl1, e2⟩ := h
    subst e1; subst e2
    rw [List.length_cons] at hml
    refine ⟨μ.length, ns, a1, l1, 21, rfl, pM_get, by omega, hl1, by decide, fun dd a2 l2 g1 g2 g3 g4 g5 => ?_⟩
    rw [pM_set]
    refine hD _ _ ⟨ms ++ [dd - 10], a2, l2, by simp, fun m hm => ?_, by simp; omega, by omega, by simp; omega, g5, rfl⟩
    rcases List.mem_append.mp hm with z | z
    · exact hms m z
    · rw [List.mem_singleton.mp z]; omega
end K26

set_option exponentiation.threshold 300
namespace K26
open PySem PySem.Spec L2 StX PyProof.Rows DL
def b_law : DS :=
    (dSeq (dAsg (dCall c__law_pen (dCons (dVar 0) dNil)) (dgName 1))
    (dSeq (dFor (dRange1 (dCons (dC (.int 8)) dNil)) (dgName 2) (dSeq (dAsg (dOp dAdd (dC (.int 1)) (dCall c__law_draw (dCons (dVar 1) (dCons (dC (.int 5)) dNil)))) (dgName 3))
    (dSeq (dAsg (dCall c__law_hermite (dCons (dLc (dRange1 (dCons (dCall c__law_draw (dCons (dVar 1) (dCons (dC (.int 5)) dNil))) dNil)) (dgName 5) dYes (dCall c__law_row (dCons (dVar 1) (dCons (dVar 3) dNil))) [5]) (dCons (dVar 3) dNil))) (dgName 4))
    (dFor (dRange1 (dCons (dC (.int 6)) dNil)) (dgName 5) lLap))))
    (dRet (dAndV (dOp dEq (dCall c_left_of (dCons (dTup dNil) (dCons (dTup (dCons (dC (.int 3)) (dCons (dNeg (dC (.int 4))) dNil))) dNil))) (dTup (dCons (dC (.int 3)) (dCons (dNeg (dC (.int 4))) dNil)))) (dAndV (dOp (dIsB false) (dCall c_is_in (dCons (dTup dNil) (dCons (dTup (dCons (dC (.int 0)) (dCons (dC (.int 0)) dNil))) dNil))) (dC (.bl true))) (dAndV (dOp (dIsN false) (dCall c_multiples_of (dCons (dTup dNil) (dCons (dTup (dCons (dC (.int 0)) (dCons (dC (.int 1)) dNil))) dNil))) (dC .non)) (dOp dEq (dCall c_multiples_of (dCons (dTup dNil) (dCons (dTup (dCons (dC (.int 0)) dNil)) dNil))) (dTup dNil))))))))
def c_law : Ct := fun xs μ Q => ∃ ns : List Int, xs = [.frl (ns.map .int)] ∧ ns.length ≤ 63 ∧ ∀ μ', Q (.bl true) μ'
theorem l_law : ∀ xs μ Q, c_law xs μ Q → xs.length = 1 := by
  intro xs μ Q ⟨_, e, _⟩
  subst e; rfl
theorem law_all : ∀ ns : List Int, ns.length ≤ 63 → c_law [.frl (ns.map .int)] [] fun v _ => v = .bl true := fun ns h => ⟨ns, rfl, h, fun _ => rfl⟩
theorem r_law : ∀ xs μ Q, c_law xs μ Q → b_law (spEnds Q) (startD ["script", "pen", "turn", "width", "basis", "lap", "multiples", "inside", "row", "left", "due", "told", "held", "one"] xs) μ := by
  intro xs μ Q ⟨ns, e, hn, q⟩
  subst e
  have hsl := sizeLine_eq
  refine ⟨ns, rfl, hn, ?_⟩
  refine ⟨8, rfl, by decide, by decide, ?_⟩
  refine forD_inv (fun rest ρ μ1 => ∃ (a l : Int) (o2 o3 o4 o5 o6 o7 o8 o9 o10 o11 o12 o13 : Option Vl), rest.length ≤ 8 ∧ 0 ≤ a ∧ a ≤ (8 - (rest.length : Int)) * 1000 ∧ 0 ≤ l ∧ μ1 = pM μ ns a l ∧
    ρ = [some (.frl (ns.map .int)), some (.ref μ.length), o2, o3, o4, o5, o6, o7, o8, o9, o10, o11, o12, o13]) (fun _ _ _ _ => trivial) (fun ρ μ1 h => ?_) (fun y rest ρ μ1 h D hD hrt _ => ?_) _ _ _ ?_
  · obtain ⟨a, l, o2, o3, o4, o5, o6, o7, o8, o9, o10, o11, o12, o13, _, _, _, _, e1, e2⟩ := h
    subst e1; subst e2
    refine ⟨by show 0 ≤ _; omega, by show 2 ≤ _; omega, [], [3, -4], rfl, trivial, ?_⟩
    refine ⟨by show 2 ≤ _; omega, ?_⟩
    refine eq_tupI (r := [3, -4]) (s := [3, -4]) ?_
    refine ⟨by show 0 ≤ _; omega, by show 2 ≤ _; omega, [], [0, 0], rfl, trivial, ?_⟩
    refine ⟨by show 0 ≤ _; omega, by show 2 ≤ _; omega, [], [0, 1], rfl, by decide, trivial, ?_⟩
    refine ⟨by show 0 ≤ _; omega, by show 1 ≤ _; omega, [], [0], rfl, by decide, trivial, ?_⟩
    refine ⟨by show 0 ≤ _; omega, ?_⟩
    refine eq_tupI (r := []) (s := []) ?_
    exact q _
  · obtain ⟨a, l, o2, o3, o4, o5, o6, o7, o8, o9, o10, o11, o12, o13, hlen, ha0, ha1, hl, e1, e2⟩ := h
    subst e1; subst e2
    rw [List.length_cons] at hlen ha1
    refine ⟨μ.length, ns, a, l, 5, rfl, pM_get, by omega, hl, by decide, fun dw a1 l1 g1 g2 g3 g4 g5 => ?_⟩
    rw [pM_set]
    refine ⟨μ.length, ns, a1, l1, 5, rfl, pM_get, by omega, g5, by decide, fun dn a2 l2 f1 f2 f3 f4 f5 => ?_⟩
    rw [pM_set]
    obtain ⟨w, hw, hw1, hw5⟩ : ∃ w : Nat, 1 + dw = (w : Int) ∧ 1 ≤ w ∧ w ≤ 5 := ⟨(1 + dw).toNat, by omega, by omega, by omega⟩
    rw [hw]
    refine ⟨dn, rfl, by omega, by omega, ?_⟩
    refine lcD_inv (fun rest' acc μ' => ∃ (rows : List (List Int)) (a' l' : Int), acc = rows.map rowV ∧ (∀ r ∈ rows, r.length = w ∧ ∀ y ∈ r, -20 ≤ y ∧ y ≤ 20) ∧ rows.length + rest'.length ≤ 4 ∧ a2 ≤ a' ∧ a' ≤ a2 + 10 * (rows.length : Int) ∧ 0 ≤ l' ∧ μ' = pM μ ns a' l') (fun _ _ _ _ => trivial) (fun acc μ' h => ?_) (fun x rest' acc μ' h D' hD' => ?_) _ _ _ ?_
    · obtain ⟨rows, a3, l3, e1, hrows, hr4, ha3, ha4, hl3, e2⟩ := h
      subst e1; subst e2
      refine .inl ⟨_, rows, w, rfl, rfl, trivial, by omega, by simp at hr4; omega, hrows, fun bs B => ?_⟩
      refine ⟨6, rfl, by decide, by decide, ?_⟩
      refine forD_inv (fun rest' ρ μ1 => ∃ (a l : Int) (o5 o6 o7 o8 o9 o10 o11 o12 o13 : Option Vl), rest'.length ≤ 6 ∧ a3 ≤ a ∧ a ≤ a3 + (6 - (rest'.length : Int)) * 20 ∧ 0 ≤ l ∧ μ1 = pM μ ns a l ∧
        ρ = [some (.frl (ns.map .int)), some (.ref μ.length), some y, some (.int (w : Int)), some (.tup (bs.map rowV)), o5, o6, o7, o8, o9, o10, o11, o12, o13]) (fun _ _ _ _ => trivial) (fun ρ μ1 h => ?_) (fun y' rest' ρ μ1 h D2 hD2 hrt2 _ => ?_) _ _ _ ?_
      · obtain ⟨a, l, o5, o6, o7, o8, o9, o10, o11, o12, o13, hl6, ha5, ha6, hl0, e1, e2⟩ := h
        subst e1; subst e2
        refine hD _ _ ⟨a, l, _, _, _, _, _, _, _, _, _, _, _, _, by omega, by omega, ?_, hl0, rfl, rfl⟩
        simp at ha6 hr4
        omega
      · obtain ⟨a, l, o5, o6, o7, o8, o9, o10, o11, o12, o13, hl6, ha5, ha6, hl0, e1, e2⟩ := h
        subst e1; subst e2
        rw [List.length_cons] at hl6 ha6
        refine lap_walk hw1 hw5 B (by omega) hl0 fun a' l' p6 p7 p8 p9 p10 p11 p12 p13 h1 h2 h3 => ?_
        exact hD2 _ _ ⟨a', l', _, _, _, _, _, _, _, _, _, by omega, by omega, by omega, h3, rfl, rfl⟩
      · exact ⟨a3, l3, _, _, _, _, _, _, _, _, _, by rw [rngD_len]; decide, by omega, by rw [rngD_len]; simp, hl3, rfl, rfl⟩
    · obtain ⟨rows, a3, l3, e1, hrows, hr4, ha3, ha4, hl3, e2⟩ := h
      subst e1; subst e2
      rw [List.length_cons] at hr4
      refine ⟨μ.length, ns, a3, l3, w, rfl, by omega, pM_get, by omega, hl3, fun r a4 l4 c1 c2 c3 c4 c5 => ?_⟩
      rw [pM_set]
      refine hD' _ _ ⟨rows ++ [r], a4, l4, by simp, fun z hz => ?_, by simp; omega, by omega, by simp; omega, c5, rfl⟩
      rcases List.mem_append.mp hz with k | k
      · exact hrows z k
      · rw [List.mem_singleton.mp k]; exact ⟨c1, c2⟩
    · exact ⟨[], a2, l2, rfl, fun r h => (by cases h), by rw [rngD_len]; simp; omega, by omega, by simp, f5, rfl⟩
  · exact ⟨0, 0, _, _, _, _, _, _, _, _, _, _, _, _, by rw [rngD_len]; decide, by omega, by rw [rngD_len]; decide, by omega, rfl, rfl⟩
end K26

/-! the defs of the text, each as terms over data (printed by gen.py) -/
namespace K26
open PySem PySem.Spec L2 StX PyProof.Rows DL
def topS (i : Nat) : Stmt := PySem.Challenge.pw_allmoduli_k26_what_is_left_of_rows.main.body.getD i (.Pass ⟨0, 0, 0, 0⟩)
abbrev s_lead : Stmt := topS 1
abbrev s_plus : Stmt := topS 2
abbrev s_left_of : Stmt := topS 3
abbrev s_is_in : Stmt := topS 4
abbrev s_multiples_of : Stmt := topS 5
abbrev s__law_pen : Stmt := topS 7
abbrev s__law_draw : Stmt := topS 8
abbrev s__law_pick : Stmt := topS 9
abbrev s__law_hermite : Stmt := topS 10
abbrev s__law_is_in : Stmt := topS 11
abbrev s__law_row : Stmt := topS 12
abbrev s__law_sum : Stmt := topS 13
abbrev s__law_lead : Stmt := topS 14
abbrev s_law : Stmt := topS 15
theorem sc_lead : FnScope ["row", "place", "number"] ["row"] (defScope s_lead) := ⟨rfl, rfl, rfl, by decide +kernel, rfl, by decide +kernel, by decide +kernel⟩
theorem sc_plus : FnScope ["row", "other", "times", "one", "its"] ["row", "other", "times"] (defScope s_plus) := ⟨rfl, rfl, rfl, by decide +kernel, rfl, by decide +kernel, by decide +kernel⟩
theorem sc_left_of : FnScope ["basis", "row", "left", "held", "place"] ["basis", "row"] (defScope s_left_of) := ⟨rfl, rfl, rfl, by decide +kernel, rfl, by decide +kernel, by decide +kernel⟩
theorem sc_is_in : FnScope ["basis", "row"] ["basis", "row"] (defScope s_is_in) := ⟨rfl, rfl, rfl, by decide +kernel, rfl, by decide +kernel, by decide +kernel⟩
theorem sc_multiples_of : FnScope ["basis", "row", "left", "found", "held", "place"] ["basis", "row"] (defScope s_multiples_of) := ⟨rfl, rfl, rfl, by decide +kernel, rfl, by decide +kernel, by decide +kernel⟩
theorem sc__law_pen : FnScope ["script"] ["script"] (defScope s__law_pen) := ⟨rfl, rfl, rfl, by decide +kernel, rfl, by decide +kernel, by decide +kernel⟩
theorem sc__law_draw : FnScope ["pen", "many", "digit", "at", "cell", "great", "mixed"] ["pen", "many"] (defScope s__law_draw) := ⟨rfl, rfl, rfl, by decide +kernel, rfl, by decide +kernel, by decide +kernel⟩
theorem sc__law_pick : FnScope ["pen", "some"] ["pen", "some"] (defScope s__law_pick) := ⟨rfl, rfl, rfl, by decide +kernel, rfl, by decide +kernel, by decide +kernel⟩
theorem sc__law_hermite : FnScope ["rows", "width", "left", "found", "at", "some", "rest", "sizes", "later", "spot", "first", "row", "by", "number", "its", "one"] ["rows", "width"] (defScope s__law_hermite) := ⟨rfl, rfl, rfl, by decide +kernel, rfl, by decide +kernel, by decide +kernel⟩
theorem sc__law_is_in : FnScope ["basis", "row", "left", "held", "at", "by", "number", "its", "spot"] ["basis", "row"] (defScope s__law_is_in) := ⟨rfl, rfl, rfl, by decide +kernel, rfl, by decide +kernel, by decide +kernel⟩
theorem sc__law_row : FnScope ["pen", "width", "at"] ["pen", "width"] (defScope s__law_row) := ⟨rfl, rfl, rfl, by decide +kernel, rfl, by decide +kernel, by decide +kernel⟩
theorem sc__law_sum : FnScope ["rows", "multiples", "width", "at", "times", "row"] ["rows", "multiples", "width"] (defScope s__law_sum) := ⟨rfl, rfl, rfl, by decide +kernel, rfl, by decide +kernel, by decide +kernel⟩
theorem sc__law_lead : FnScope ["row", "some", "at", "number"] ["row"] (defScope s__law_lead) := ⟨rfl, rfl, rfl, by decide +kernel, rfl, by decide +kernel, by decide +kernel⟩
theorem sc_law : FnScope ["script", "pen", "turn", "width", "basis", "lap", "multiples", "inside", "row", "left", "due", "told", "held", "one"] ["script"] (defScope s_law) := ⟨rfl, rfl, rfl, by decide +kernel, rfl, by decide +kernel, by decide +kernel⟩
structure Tx (K : PySem.W.Frag) (mg : Str → Option Value) where
  a_lead : Addr
  d_lead : FuncData
  F_lead : Fun K "lead" "lead" s_lead a_lead d_lead
  m_lead : mg "lead" = some (.ref a_lead)
  b_lead : Binds K d_lead ["row"] []
  a_plus : Addr
  d_plus : FuncData
  F_plus : Fun K "plus" "plus" s_plus a_plus d_plus
  m_plus : mg "plus" = some (.ref a_plus)
  b_plus : Binds K d_plus ["row", "other", "times"] []
  a_left_of : Addr
  d_left_of : FuncData
  F_left_of : Fun K "left_of" "left_of" s_left_of a_left_of d_left_of
  m_left_of : mg "left_of" = some (.ref a_left_of)
  b_left_of : Binds K d_left_of ["basis", "row"] []
  a_is_in : Addr
  d_is_in : FuncData
  F_is_in : Fun K "is_in" "is_in" s_is_in a_is_in d_is_in
  m_is_in : mg "is_in" = some (.ref a_is_in)
  b_is_in : Binds K d_is_in ["basis", "row"] []
  a_multiples_of : Addr
  d_multiples_of : FuncData
  F_multiples_of : Fun K "multiples_of" "multiples_of" s_multiples_of a_multiples_of d_multiples_of
  m_multiples_of : mg "multiples_of" = some (.ref a_multiples_of)
  b_multiples_of : Binds K d_multiples_of ["basis", "row"] []
  a__law_pen : Addr
  d__law_pen : FuncData
  F__law_pen : Fun K "_law_pen" "_law_pen" s__law_pen a__law_pen d__law_pen
  m__law_pen : mg "_law_pen" = some (.ref a__law_pen)
  b__law_pen : Binds K d__law_pen ["script"] []
  a__law_draw : Addr
  d__law_draw : FuncData
  F__law_draw : Fun K "_law_draw" "_law_draw" s__law_draw a__law_draw d__law_draw
  m__law_draw : mg "_law_draw" = some (.ref a__law_draw)
  b__law_draw : Binds K d__law_draw ["pen", "many"] []
  a__law_pick : Addr
  d__law_pick : FuncData
  F__law_pick : Fun K "_law_pick" "_law_pick" s__law_pick a__law_pick d__law_pick
  m__law_pick : mg "_law_pick" = some (.ref a__law_pick)
  b__law_pick : Binds K d__law_pick ["pen", "some"] []
  a__law_hermite : Addr
  d__law_hermite : FuncData
  F__law_hermite : Fun K "_law_hermite" "_law_hermite" s__law_hermite a__law_hermite d__law_hermite
  m__law_hermite : mg "_law_hermite" = some (.ref a__law_hermite)
  b__law_hermite : Binds K d__law_hermite ["rows", "width"] []
  a__law_is_in : Addr
  d__law_is_in : FuncData
  F__law_is_in : Fun K "_law_is_in" "_law_is_in" s__law_is_in a__law_is_in d__law_is_in
  m__law_is_in : mg "_law_is_in" = some (.ref a__law_is_in)
  b__law_is_in : Binds K d__law_is_in ["basis", "row"] []
  a__law_row : Addr
  d__law_row : FuncData
  F__law_row : Fun K "_law_row" "_law_row" s__law_row a__law_row d__law_row
  m__law_row : mg "_law_row" = some (.ref a__law_row)
  b__law_row : Binds K d__law_row ["pen", "width"] []
  a__law_sum : Addr
  d__law_sum : FuncData
  F__law_sum : Fun K "_law_sum" "_law_sum" s__law_sum a__law_sum d__law_sum
  m__law_sum : mg "_law_sum" = some (.ref a__law_sum)
  b__law_sum : Binds K d__law_sum ["rows", "multiples", "width"] []
  a__law_lead : Addr
  d__law_lead : FuncData
  F__law_lead : Fun K "_law_lead" "_law_lead" s__law_lead a__law_lead d__law_lead
  m__law_lead : mg "_law_lead" = some (.ref a__law_lead)
  b__law_lead : Binds K d__law_lead ["row"] []
  a_law : Addr
  d_law : FuncData
  F_law : Fun K "law" "law" s_law a_law d_law
  m_law : mg "law" = some (.ref a_law)
  b_law : Binds K d_law ["script"] []
  z_abs : mg "abs" = none
  z_enumerate : mg "enumerate" = none
  z_int : mg "int" = none
  z_len : mg "len" = none
  z_list : mg "list" = none
  z_min : mg "min" = none
  z_range : mg "range" = none
  z_repr : mg "repr" = none
  z_sum : mg "sum" = none
  z_tuple : mg "tuple" = none
  z_zip : mg "zip" = none
  k_is_in_0_01 : BindsK K d_is_in ["basis", "row"] ["basis", "row"] 0 [0, 1]
  k_left_of_0_01 : BindsK K d_left_of ["basis", "row"] ["basis", "row"] 0 [0, 1]
  k_multiples_of_0_01 : BindsK K d_multiples_of ["basis", "row"] ["basis", "row"] 0 [0, 1]
end K26

namespace K26
open PySem PySem.Spec L2 StX PyProof.Rows DL
def b__law_pen : DS := b_pen
theorem l__law_pen : ∀ xs μ Q, c__law_pen xs μ Q → xs.length = 1 := l_pen
theorem r__law_pen : ∀ xs μ Q, c__law_pen xs μ Q → b__law_pen (spEnds Q) (startD ["script"] xs) μ := r_pen
def b__law_draw : DS :=
    (dSeq (dIf (dTest (dOp dLt (dVar 1) (dC (.int 2)))) (dRet (dC (.int 0))) dNext)
    (dSeq (dIf (dTest (dOp dGt (dOp dIx (dVar 0) (dC (.int 2))) (dC (.int 0)))) (dSeq (dAsg (dOp dMod (dCB fInt (dCons (dOp dIx (dVar 0) (dC (.int 2))) dNil)) (dVar 1)) (dgName 2))
    (dSeq (dAsg (dOp dFdiv (dCB fInt (dCons (dOp dIx (dVar 0) (dC (.int 2))) dNil)) (dVar 1)) (dgIx (dVar 0) (dC (.int 2))))
    (dRet (dVar 2)))) dNext)
    (dSeq (dAsg (dOp dIx (dVar 0) (dC (.int 1))) (dgName 3))
    (dSeq (dAsg (dOp dAdd (dVar 3) (dC (.int 1))) (dgIx (dVar 0) (dC (.int 1))))
    (dSeq (dAsg (dOp dAdd (dOp dMul (dC (.int 71895)) (dVar 3)) (dC (.int 9677))) (dgName 4))
    (dSeq (dIf (dTest (dOp dNe (dOp dIx (dVar 0) (dC (.int 0))) (dLst dNil))) (dAsg (dOp dIx (dOp dIx (dVar 0) (dC (.int 0))) (dOp dMod (dCB fInt (dCons (dVar 3) dNil)) (dCB fLen (dCons (dOp dIx (dVar 0) (dC (.int 0))) dNil)))) (dgName 4)) dNext)
    (dSeq (dIf (dAndT (dTest (dOp dLt (dVar 3) (dCB fLen (dCons (dOp dIx (dVar 0) (dC (.int 0))) dNil)))) (dTest (dOp dGe (dCB fAbs (dCons (dVar 4) dNil)) (dOp dPow (dC (.int 10)) (dC (.int 18)))))) (dSeq (dAsg (dOp dAdd (dOp dMul (dC (.int 2)) (dOp (dI0 fun i j => .int (i - j)) (dCB fAbs (dCons (dVar 4) dNil)) (dOp dPow (dC (.int 10)) (dC (.int 18))))) (dCB fInt (dCons (dOp dLt (dVar 4) (dC (.int 0))) dNil))) (dgName 5))
    (dSeq (dAsg (dOp dFdiv (dCB fInt (dCons (dVar 5) dNil)) (dVar 1)) (dgIx (dVar 0) (dC (.int 2))))
    (dRet (dOp dMod (dCB fInt (dCons (dVar 5) dNil)) (dVar 1))))) dNext)
    (dSeq (dAsg (dOp dMod (dCB fInt (dCons (dOp dPow (dOp dAdd (dOp dAdd (dOp dMod (dCB fInt (dCons (dVar 4) dNil)) (dC (.int 2147483549))) (dOp dMul (dC (.int 34521)) (dVar 3))) (dC (.int 9677))) (dC (.int 3))) dNil)) (dC (.int 2147483629))) (dgName 6))
    (dSeq (dAsg (dOp dMod (dCB fInt (dCons (dOp dPow (dOp dAdd (dOp dAdd (dOp dMul (dVar 6) (dOp dAdd (dOp dMul (dC (.int 2)) (dVar 3)) (dC (.int 6673)))) (dOp dMul (dOp dMul (dC (.int 71895)) (dVar 3)) (dVar 3))) (dC (.int 34521))) (dC (.int 5))) dNil)) (dC (.int 2147483563))) (dgName 6))
    (dRet (dOp dMod (dCB fInt (dCons (dOp dFdiv (dVar 6) (dC (.int 16))) dNil)) (dVar 1))))))))))))
theorem l_plus : ∀ xs μ Q, c_plus xs μ Q → xs.length = 3 := by
  intro xs μ Q ⟨_, _, _, e, _⟩
  subst e; rfl
theorem l__law_draw : ∀ xs μ Q, c__law_draw xs μ Q → xs.length = 2 := l_draw
theorem r__law_draw : ∀ xs μ Q, c__law_draw xs μ Q → b__law_draw (spEnds Q) (startD ["pen", "many", "digit", "at", "cell", "great", "mixed"] xs) μ := r_draw (by decide) (by decide) (by decide) (by decide)
section
variable {P : Program} {w : World} {K : PySem.W.Frag} {mg : Str → Option Value} {base : Heap}
set_option maxHeartbeats 2000000 in
theorem ok_lead (T : Tx K mg) : FnG P w K mg base 1 T.a_lead T.d_lead ["row"] c_lead := by
  have SC := sc_lead
  exact Fun.okP (k := 0) (ds := b_lead) T.F_lead sc_lead l_lead (fun cdv A outer s H hr am => ⟨_, (qss_cons (qs_for PassesOwn.never rfl (qi_enum T.z_enumerate (qa_cons (qv 0) qa_nil)) (qg_tup rfl (qgs_cons (qg_name (i := 1) SC.nd) (qgs_cons (qg_name (i := 2) SC.nd) qgs_nil))) (qss_one (qs_if (qt_ne hr (qv 2) q_int) (qss_one (qs_ret (qv 1))) qss_nil)))
    (qss_one (qs_ret q_non)))⟩) r_lead
set_option maxHeartbeats 2000000 in
theorem ok_plus (T : Tx K mg) : FnG P w K mg base 1 T.a_plus T.d_plus ["row", "other", "times"] c_plus := by
  have SC := sc_plus
  exact Fun.okP (k := 0) (ds := b_plus) T.F_plus sc_plus l_plus (fun cdv A outer s H hr am => ⟨_, (qss_one (qs_ret (q_tuple T.z_tuple (qa_cons (q_lc [("one", 3), ("its", 4)] rfl SC.nd (qi_zip T.z_zip (qa_cons (qv 0) (qa_cons (qv 1) qa_nil))) (blkOk_by (by kernel_rfl)) (fun _ _ _ _ _ => ⟨_, (qg_tup rfl (qgs_cons (qg_name (i := 3) SC.nd) (qgs_cons (qg_name (i := 4) SC.nd) qgs_nil))), (is_tup (is_cons (is_name (by decide)) (is_cons (is_name (by decide)) is_nil)))⟩) (fun _ _ _ _ _ => ⟨_, qts_nil⟩) (fun _ _ _ _ _ => ⟨_, (q_add (qv 3) (q_mul (qv 2) (qv 4)))⟩)) qa_nil))))⟩) r_plus
set_option maxHeartbeats 2000000 in
theorem ok_left_of (T : Tx K mg) : FnG P w K mg base 2 T.a_left_of T.d_left_of ["basis", "row"] c_left_of := by
  have SC := sc_left_of
  have F_lead := (ok_lead (P := P) (w := w) (base := base) T).mono (k := 1) (by decide)
  have F_plus := (ok_plus (P := P) (w := w) (base := base) T).mono (k := 1) (by decide)
  exact Fun.okP (k := 1) (ds := b_left_of) T.F_left_of sc_left_of l_left_of (fun cdv A outer s H hr am => ⟨_, (qss_cons (qs_set 2 SC.nd (q_tuple T.z_tuple (qa_cons (qv 1) qa_nil)))
    (qss_cons (qs_for PassesOwn.never rfl (qi_seq (qv 0)) (qg_name (i := 3) SC.nd) (qss_cons (qs_set 4 SC.nd (q_call F_lead am hr T.m_lead T.F_lead.kp T.b_lead (qa_cons (qv 3) qa_nil)))
    (qss_one (qs_set 2 SC.nd (q_call F_plus am hr T.m_plus T.F_plus.kp T.b_plus (qa_cons (qv 2) (qa_cons (qv 3) (qa_cons (q_neg (q_fdiv (q_ix (qv 2) (qv 4)) (q_ix (qv 3) (qv 4)))) qa_nil))))))))
    (qss_one (qs_ret (qv 2)))))⟩) r_left_of
set_option maxHeartbeats 2000000 in
theorem ok_is_in (T : Tx K mg) : FnG P w K mg base 3 T.a_is_in T.d_is_in ["basis", "row"] c_is_in := by
  have SC := sc_is_in
  have F_lead := (ok_lead (P := P) (w := w) (base := base) T).mono (k := 2) (by decide)
  have F_left_of := (ok_left_of (P := P) (w := w) (base := base) T).mono (k := 2) (by decide)
  exact Fun.okP (k := 2) (ds := b_is_in) T.F_is_in sc_is_in l_is_in (fun cdv A outer s H hr am => ⟨_, (qss_one (qs_ret (q_isN (q_call F_lead am hr T.m_lead T.F_lead.kp T.b_lead (qa_cons (q_call F_left_of am hr T.m_left_of T.F_left_of.kp T.b_left_of (qa_cons (qv 0) (qa_cons (qv 1) qa_nil))) qa_nil)) q_non)))⟩) r_is_in
set_option maxHeartbeats 2000000 in
theorem ok_multiples_of (T : Tx K mg) : FnG P w K mg base 2 T.a_multiples_of T.d_multiples_of ["basis", "row"] c_multiples_of := by
  have SC := sc_multiples_of
  have F_lead := (ok_lead (P := P) (w := w) (base := base) T).mono (k := 1) (by decide)
  have F_plus := (ok_plus (P := P) (w := w) (base := base) T).mono (k := 1) (by decide)
  exact Fun.okP (k := 1) (ds := b_multiples_of) T.F_multiples_of sc_multiples_of l_multiples_of (fun cdv A outer s H hr am => ⟨_, (qss_cons (qs_par 2 3 rfl SC.nd (qa_cons (q_tuple T.z_tuple (qa_cons (qv 1) qa_nil)) (qa_cons (q_lst qa_nil) qa_nil)))
    (qss_cons (qs_for PassesOwn.never rfl (qi_seq (qv 0)) (qg_name (i := 4) SC.nd) (qss_cons (qs_set 5 SC.nd (q_call F_lead am hr T.m_lead T.F_lead.kp T.b_lead (qa_cons (qv 4) qa_nil)))
    (qss_cons (qs_expr (q_append (qv 3) (qa_cons (q_fdiv (q_ix (qv 2) (qv 5)) (q_ix (qv 4) (qv 5))) qa_nil)))
    (qss_one (qs_set 2 SC.nd (q_call F_plus am hr T.m_plus T.F_plus.kp T.b_plus (qa_cons (qv 2) (qa_cons (qv 4) (qa_cons (q_neg (q_ix (qv 3) (q_neg q_int))) qa_nil)))))))))
    (qss_one (qs_ret (q_ifE (qt_isN (q_call F_lead am hr T.m_lead T.F_lead.kp T.b_lead (qa_cons (qv 2) qa_nil)) q_non) (q_tuple T.z_tuple (qa_cons (qv 3) qa_nil)) q_non)))))⟩) r_multiples_of
set_option maxHeartbeats 2000000 in
theorem ok__law_pen (T : Tx K mg) : FnG P w K mg base 1 T.a__law_pen T.d__law_pen ["script"] c__law_pen := by
  have SC := sc__law_pen
  exact Fun.okD (k := 0) (ds := b__law_pen) T.F__law_pen sc__law_pen l__law_pen (fun cdv A outer s H hr am => ⟨_, (qss_one (qs_ret (q_lst (qa_cons (q_list T.z_list (qa_cons (q_sl (qv 0) qo_none (qo_some q_int)) qa_nil)) (qa_cons q_int (qa_cons q_int qa_nil))))))⟩) r__law_pen
set_option maxHeartbeats 2000000 in
theorem ok__law_draw (T : Tx K mg) : FnG P w K mg base 1 T.a__law_draw T.d__law_draw ["pen", "many"] c__law_draw := by
  have SC := sc__law_draw
  exact Fun.okD (k := 0) (ds := b__law_draw) T.F__law_draw sc__law_draw l__law_draw (fun cdv A outer s H hr am => ⟨_, (qss_cons (qs_if (qt_lt (qv 1) q_int) (qss_one (qs_ret q_int)) qss_nil)
    (qss_cons (qs_if (qt_gt (q_ix (qv 0) q_int) q_int) (qss_cons (qs_set 2 SC.nd (q_mod (q_intC T.z_int (qa_cons (q_ix (qv 0) q_int) qa_nil)) (qv 1)))
    (qss_cons (qs_asg (q_fdiv (q_intC T.z_int (qa_cons (q_ix (qv 0) q_int) qa_nil)) (qv 1)) (qg_ix (qv 0) q_int))
    (qss_one (qs_ret (qv 2))))) qss_nil)
    (qss_cons (qs_set 3 SC.nd (q_ix (qv 0) q_int))
    (qss_cons (qs_asg (q_add (qv 3) q_int) (qg_ix (qv 0) q_int))
    (qss_cons (qs_set 4 SC.nd (q_add (q_mul q_int (qv 3)) q_int))
    (qss_cons (qs_if (qt_ne hr (q_ix (qv 0) q_int) (q_lst qa_nil)) (qss_one (qs_set 4 SC.nd (q_ix (q_ix (qv 0) q_int) (q_mod (q_intC T.z_int (qa_cons (qv 3) qa_nil)) (q_len T.z_len (qa_cons (q_ix (qv 0) q_int) qa_nil)))))) qss_nil)
    (qss_cons (qs_if ((qw_and (qt_lt (qv 3) (q_len T.z_len (qa_cons (q_ix (qv 0) q_int) qa_nil))) (qw_and1 (qt_ge (q_abs T.z_abs (qa_cons (qv 4) qa_nil)) (q_pow q_int q_int))))).t (qss_cons (qs_set 5 SC.nd (q_add (q_mul q_int (q_sub (q_abs T.z_abs (qa_cons (qv 4) qa_nil)) (q_pow q_int q_int))) (q_intC T.z_int (qa_cons (q_lt (qv 4) q_int) qa_nil))))
    (qss_cons (qs_asg (q_fdiv (q_intC T.z_int (qa_cons (qv 5) qa_nil)) (qv 1)) (qg_ix (qv 0) q_int))
    (qss_one (qs_ret (q_mod (q_intC T.z_int (qa_cons (qv 5) qa_nil)) (qv 1)))))) qss_nil)
    (qss_cons (qs_set 6 SC.nd (q_mod (q_intC T.z_int (qa_cons (q_pow (q_add (q_add (q_mod (q_intC T.z_int (qa_cons (qv 4) qa_nil)) q_int) (q_mul q_int (qv 3))) q_int) q_int) qa_nil)) q_int))
    (qss_cons (qs_set 6 SC.nd (q_mod (q_intC T.z_int (qa_cons (q_pow (q_add (q_add (q_mul (qv 6) (q_add (q_mul q_int (qv 3)) q_int)) (q_mul (q_mul q_int (qv 3)) (qv 3))) q_int) q_int) qa_nil)) q_int))
    (qss_one (qs_ret (q_mod (q_intC T.z_int (qa_cons (q_fdiv (qv 6) q_int) qa_nil)) (qv 1)))))))))))))⟩) r__law_draw
set_option maxHeartbeats 2000000 in
theorem ok__law_pick (T : Tx K mg) : FnG P w K mg base 2 T.a__law_pick T.d__law_pick ["pen", "some"] c__law_pick := by
  have SC := sc__law_pick
  have F__law_draw := (ok__law_draw (P := P) (w := w) (base := base) T).mono (k := 1) (by decide)
  exact Fun.okD (k := 1) (ds := b__law_pick) T.F__law_pick sc__law_pick l__law_pick (fun cdv A outer s H hr am => ⟨_, (qss_one (qs_ret (q_ix (qv 1) (q_call F__law_draw am hr T.m__law_draw T.F__law_draw.kp T.b__law_draw (qa_cons (qv 0) (qa_cons (q_len T.z_len (qa_cons (qv 1) qa_nil)) qa_nil))))))⟩) r__law_pick
set_option maxHeartbeats 2000000 in
theorem ok__law_hermite (T : Tx K mg) : FnG P w K mg base 1 T.a__law_hermite T.d__law_hermite ["rows", "width"] c__law_hermite := by
  have SC := sc__law_hermite
  exact Fun.okP (k := 0) (ds := b__law_hermite) T.F__law_hermite sc__law_hermite l__law_hermite (fun cdv A outer s H hr am => ⟨_, (qss_cons (qs_par 2 3 rfl SC.nd (qa_cons (q_lc [("row", 11)] rfl SC.nd (qi_seq (qv 0)) (blkOk_by (by kernel_rfl)) (fun _ _ _ _ _ => ⟨_, (qg_name (i := 11) SC.nd), (is_name (by decide))⟩) (fun _ _ _ _ _ => ⟨_, qts_nil⟩) (fun _ _ _ _ _ => ⟨_, (q_list T.z_list (qa_cons (qv 11) qa_nil))⟩)) (qa_cons (q_lst qa_nil) qa_nil)))
    (qss_cons (qs_for PassesOwn.never rfl (qi_range1 T.z_range (qa_cons (qv 1) qa_nil)) (qg_name (i := 4) SC.nd) (qss_cons (qs_setLc 5 [("row", 11)] rfl SC.nd (qi_seq (qv 2)) (blkOk_by (by kernel_rfl)) (fun _ _ _ _ _ => ⟨_, (qg_name (i := 11) SC.nd), (is_name (by decide))⟩) (fun _ _ _ _ _ => ⟨_, (qts_one (qt_ne hr (q_ix (qv 11) (qv 4)) q_int))⟩) (fun _ _ _ _ _ => ⟨_, (qv 11)⟩))
    (qss_cons (qs_setLc 6 [("row", 11)] rfl SC.nd (qi_seq (qv 2)) (blkOk_by (by kernel_rfl)) (fun _ _ _ _ _ => ⟨_, (qg_name (i := 11) SC.nd), (is_name (by decide))⟩) (fun _ _ _ _ _ => ⟨_, (qts_one (qt_eq hr (q_ix (qv 11) (qv 4)) q_int))⟩) (fun _ _ _ _ _ => ⟨_, (qv 11)⟩))
    (qss_cons (qs_while PassesOwn.never (qt_gt (q_len T.z_len (qa_cons (qv 5) qa_nil)) q_int) (qss_cons (qs_par 7 8 rfl SC.nd (qa_cons (q_lc [("row", 11)] rfl SC.nd (qi_seq (qv 5)) (blkOk_by (by kernel_rfl)) (fun _ _ _ _ _ => ⟨_, (qg_name (i := 11) SC.nd), (is_name (by decide))⟩) (fun _ _ _ _ _ => ⟨_, qts_nil⟩) (fun _ _ _ _ _ => ⟨_, (q_abs T.z_abs (qa_cons (q_ix (qv 11) (qv 4)) qa_nil))⟩)) (qa_cons (q_lst qa_nil) qa_nil)))
    (qss_cons (qs_set 9 SC.nd (q_index (qv 7) (qa_cons (q_min rfl T.z_min (qa_cons (qv 7) qa_nil)) qa_nil)))
    (qss_cons (qs_set 10 SC.nd (q_ix (qv 5) (qv 9)))
    (qss_cons (qs_for PassesOwn.never rfl (qi_seq (q_add (q_sl (qv 5) qo_none (qo_some (qv 9))) (q_sl (qv 5) (qo_some (q_add (qv 9) q_int)) qo_none))) (qg_name (i := 11) SC.nd) (qss_cons (qs_set 12 SC.nd (q_fdiv (q_ix (qv 11) (qv 4)) (q_ix (qv 10) (qv 4))))
    (qss_cons (qs_set 11 SC.nd (q_lc [("number", 13), ("its", 14)] rfl SC.nd (qi_zip T.z_zip (qa_cons (qv 11) (qa_cons (qv 10) qa_nil))) (blkOk_by (by kernel_rfl)) (fun _ _ _ _ _ => ⟨_, (qg_tup rfl (qgs_cons (qg_name (i := 13) SC.nd) (qgs_cons (qg_name (i := 14) SC.nd) qgs_nil))), (is_tup (is_cons (is_name (by decide)) (is_cons (is_name (by decide)) is_nil)))⟩) (fun _ _ _ _ _ => ⟨_, qts_nil⟩) (fun _ _ _ _ _ => ⟨_, (q_sub (qv 13) (q_mul (qv 12) (qv 14)))⟩)))
    (qss_one (qs_if (qt_ne hr (q_ix (qv 11) (qv 4)) q_int) (qss_one (qs_expr (q_append (qv 8) (qa_cons (qv 11) qa_nil)))) (qss_one (qs_expr (q_append (qv 6) (qa_cons (qv 11) qa_nil)))))))))
    (qss_one (qs_set 5 SC.nd (q_add (q_lst (qa_cons (qv 10) qa_nil)) (qv 8)))))))))
    (qss_cons (qs_if (qt_ne hr (qv 5) (q_lst qa_nil)) (qss_cons (qs_set 11 SC.nd (q_ifE (qt_gt (q_ix (q_ix (qv 5) q_int) (qv 4)) q_int) (q_ix (qv 5) q_int) (q_lc [("number", 13)] rfl SC.nd (qi_seq (q_ix (qv 5) q_int)) (blkOk_by (by kernel_rfl)) (fun _ _ _ _ _ => ⟨_, (qg_name (i := 13) SC.nd), (is_name (by decide))⟩) (fun _ _ _ _ _ => ⟨_, qts_nil⟩) (fun _ _ _ _ _ => ⟨_, (q_neg (qv 13))⟩))))
    (qss_one (qs_set 3 SC.nd (q_add (q_lc [("one", 15)] rfl SC.nd (qi_seq (qv 3)) (blkOk_by (by kernel_rfl)) (fun _ _ _ _ _ => ⟨_, (qg_name (i := 15) SC.nd), (is_name (by decide))⟩) (fun _ _ _ _ _ => ⟨_, qts_nil⟩) (fun _ _ _ _ _ => ⟨_, (q_lc [("number", 13), ("its", 14)] rfl SC.nd (qi_zip T.z_zip (qa_cons (qv 15) (qa_cons (qv 11) qa_nil))) (blkOk_by (by kernel_rfl)) (fun _ _ _ _ _ => ⟨_, (qg_tup rfl (qgs_cons (qg_name (i := 13) SC.nd) (qgs_cons (qg_name (i := 14) SC.nd) qgs_nil))), (is_tup (is_cons (is_name (by decide)) (is_cons (is_name (by decide)) is_nil)))⟩) (fun _ _ _ _ _ => ⟨_, qts_nil⟩) (fun _ _ _ _ _ => ⟨_, (q_sub (qv 13) (q_mul (q_fdiv (q_ix (qv 15) (qv 4)) (q_ix (qv 11) (qv 4))) (qv 14)))⟩))⟩)) (q_lst (qa_cons (qv 11) qa_nil)))))) qss_nil)
    (qss_one (qs_setLc 2 [("row", 11)] rfl SC.nd (qi_seq (qv 6)) (blkOk_by (by kernel_rfl)) (fun _ _ _ _ _ => ⟨_, (qg_name (i := 11) SC.nd), (is_name (by decide))⟩) (fun _ _ _ _ _ => ⟨_, (qts_one (qt_ne hr (q_lc [("number", 13)] rfl SC.nd (qi_seq (qv 11)) (blkOk_by (by kernel_rfl)) (fun _ _ _ _ _ => ⟨_, (qg_name (i := 13) SC.nd), (is_name (by decide))⟩) (fun _ _ _ _ _ => ⟨_, (qts_one (qt_ne hr (qv 13) q_int))⟩) (fun _ _ _ _ _ => ⟨_, (qv 13)⟩)) (q_lst qa_nil)))⟩) (fun _ _ _ _ _ => ⟨_, (qv 11)⟩))))))))
    (qss_one (qs_ret (q_tuple T.z_tuple (qa_cons (q_lc [("row", 11)] rfl SC.nd (qi_seq (qv 3)) (blkOk_by (by kernel_rfl)) (fun _ _ _ _ _ => ⟨_, (qg_name (i := 11) SC.nd), (is_name (by decide))⟩) (fun _ _ _ _ _ => ⟨_, qts_nil⟩) (fun _ _ _ _ _ => ⟨_, (q_tuple T.z_tuple (qa_cons (qv 11) qa_nil))⟩)) qa_nil))))))⟩) r__law_hermite
set_option maxHeartbeats 2000000 in
theorem ok__law_is_in (T : Tx K mg) : FnG P w K mg base 1 T.a__law_is_in T.d__law_is_in ["basis", "row"] c__law_is_in := by
  have SC := sc__law_is_in
  exact Fun.okP (k := 0) (ds := b__law_is_in) T.F__law_is_in sc__law_is_in l__law_is_in (fun cdv A outer s H hr am => ⟨_, (qss_cons (qs_set 2 SC.nd (q_list T.z_list (qa_cons (qv 1) qa_nil)))
    (qss_cons (qs_for PassesOwn.never rfl (qi_seq (qv 0)) (qg_name (i := 3) SC.nd) (qss_cons (qs_set 4 SC.nd (q_ix (q_lc [("spot", 8), ("number", 6)] rfl SC.nd (qi_enum T.z_enumerate (qa_cons (qv 3) qa_nil)) (blkOk_by (by kernel_rfl)) (fun _ _ _ _ _ => ⟨_, (qg_tup rfl (qgs_cons (qg_name (i := 8) SC.nd) (qgs_cons (qg_name (i := 6) SC.nd) qgs_nil))), (is_tup (is_cons (is_name (by decide)) (is_cons (is_name (by decide)) is_nil)))⟩) (fun _ _ _ _ _ => ⟨_, (qts_one (qt_ne hr (qv 6) q_int))⟩) (fun _ _ _ _ _ => ⟨_, (qv 8)⟩)) q_int))
    (qss_cons (qs_set 5 SC.nd (q_fdiv (q_ix (qv 2) (qv 4)) (q_ix (qv 3) (qv 4))))
    (qss_one (qs_setLc 2 [("number", 6), ("its", 7)] rfl SC.nd (qi_zip T.z_zip (qa_cons (qv 2) (qa_cons (qv 3) qa_nil))) (blkOk_by (by kernel_rfl)) (fun _ _ _ _ _ => ⟨_, (qg_tup rfl (qgs_cons (qg_name (i := 6) SC.nd) (qgs_cons (qg_name (i := 7) SC.nd) qgs_nil))), (is_tup (is_cons (is_name (by decide)) (is_cons (is_name (by decide)) is_nil)))⟩) (fun _ _ _ _ _ => ⟨_, qts_nil⟩) (fun _ _ _ _ _ => ⟨_, (q_sub (qv 6) (q_mul (qv 5) (qv 7)))⟩))))))
    (qss_one (qs_ret (q_eq hr (q_lc [("number", 6)] rfl SC.nd (qi_seq (qv 2)) (blkOk_by (by kernel_rfl)) (fun _ _ _ _ _ => ⟨_, (qg_name (i := 6) SC.nd), (is_name (by decide))⟩) (fun _ _ _ _ _ => ⟨_, (qts_one (qt_ne hr (qv 6) q_int))⟩) (fun _ _ _ _ _ => ⟨_, (qv 6)⟩)) (q_lst qa_nil))))))⟩) r__law_is_in
set_option maxHeartbeats 2000000 in
theorem ok__law_row (T : Tx K mg) : FnG P w K mg base 3 T.a__law_row T.d__law_row ["pen", "width"] c__law_row := by
  have SC := sc__law_row
  have F__law_draw := (ok__law_draw (P := P) (w := w) (base := base) T).mono (k := 2) (by decide)
  have F__law_pick := (ok__law_pick (P := P) (w := w) (base := base) T).mono (k := 2) (by decide)
  exact Fun.okD (k := 2) (ds := b__law_row) T.F__law_row sc__law_row l__law_row (fun cdv A outer s H hr am => ⟨_, (qss_one (qs_ret (q_tuple T.z_tuple (qa_cons (q_lc [("at", 2)] rfl SC.nd (qi_range1 T.z_range (qa_cons (qv 1) qa_nil)) (blkOk_by (by kernel_rfl)) (fun _ _ _ _ _ => ⟨_, (qg_name (i := 2) SC.nd), (is_name (by decide))⟩) (fun _ _ _ _ _ => ⟨_, qts_nil⟩) (fun _ _ _ _ _ => ⟨_, (q_call F__law_pick am hr T.m__law_pick T.F__law_pick.kp T.b__law_pick (qa_cons (qv 0) (qa_cons (q_lst (qa_cons q_int (qa_cons q_int (qa_cons q_int (qa_cons q_int (qa_cons q_int (qa_cons q_int (qa_cons q_int (qa_cons (q_neg q_int) (qa_cons (q_neg q_int) (qa_cons (q_neg q_int) (qa_cons q_int (qa_cons (q_sub (q_call F__law_draw am hr T.m__law_draw T.F__law_draw.kp T.b__law_draw (qa_cons (qv 0) (qa_cons q_int qa_nil))) q_int) qa_nil))))))))))))) qa_nil)))⟩)) qa_nil))))⟩) r__law_row
set_option maxHeartbeats 2000000 in
theorem ok__law_sum (T : Tx K mg) : FnG P w K mg base 1 T.a__law_sum T.d__law_sum ["rows", "multiples", "width"] c__law_sum := by
  have SC := sc__law_sum
  exact Fun.okP (k := 0) (ds := b__law_sum) T.F__law_sum sc__law_sum l__law_sum (fun cdv A outer s H hr am => ⟨_, (qss_one (qs_ret (q_tuple T.z_tuple (qa_cons (q_lc [("at", 3)] rfl SC.nd (qi_range1 T.z_range (qa_cons (qv 2) qa_nil)) (blkOk_by (by kernel_rfl)) (fun _ _ _ _ _ => ⟨_, (qg_name (i := 3) SC.nd), (is_name (by decide))⟩) (fun _ _ _ _ _ => ⟨_, qts_nil⟩) (fun _ _ _ _ _ => ⟨_, (q_sum rfl T.z_sum (qa_cons (q_lc [("times", 4), ("row", 5)] rfl SC.nd (qi_zip T.z_zip (qa_cons (qv 1) (qa_cons (qv 0) qa_nil))) (blkOk_by (by kernel_rfl)) (fun _ _ _ _ _ => ⟨_, (qg_tup rfl (qgs_cons (qg_name (i := 4) SC.nd) (qgs_cons (qg_name (i := 5) SC.nd) qgs_nil))), (is_tup (is_cons (is_name (by decide)) (is_cons (is_name (by decide)) is_nil)))⟩) (fun _ _ _ _ _ => ⟨_, qts_nil⟩) (fun _ _ _ _ _ => ⟨_, (q_mul (qv 4) (q_ix (qv 5) (qv 3)))⟩)) qa_nil))⟩)) qa_nil))))⟩) r__law_sum
set_option maxHeartbeats 2000000 in
theorem ok__law_lead (T : Tx K mg) : FnG P w K mg base 1 T.a__law_lead T.d__law_lead ["row"] c__law_lead := by
  have SC := sc__law_lead
  exact Fun.okP (k := 0) (ds := b__law_lead) T.F__law_lead sc__law_lead l__law_lead (fun cdv A outer s H hr am => ⟨_, (qss_cons (qs_setLc 1 [("at", 2), ("number", 3)] rfl SC.nd (qi_enum T.z_enumerate (qa_cons (qv 0) qa_nil)) (blkOk_by (by kernel_rfl)) (fun _ _ _ _ _ => ⟨_, (qg_tup rfl (qgs_cons (qg_name (i := 2) SC.nd) (qgs_cons (qg_name (i := 3) SC.nd) qgs_nil))), (is_tup (is_cons (is_name (by decide)) (is_cons (is_name (by decide)) is_nil)))⟩) (fun _ _ _ _ _ => ⟨_, (qts_one (qt_ne hr (qv 3) q_int))⟩) (fun _ _ _ _ _ => ⟨_, (qv 2)⟩))
    (qss_one (qs_ret (q_ifE (qt_ne hr (qv 1) (q_lst qa_nil)) (q_ix (qv 1) q_int) q_non))))⟩) r__law_lead
set_option maxHeartbeats 2000000 in
theorem ok_law (T : Tx K mg) : FnG P w K mg base 4 T.a_law T.d_law ["script"] c_law := by
  have SC := sc_law
  have F__law_draw := (ok__law_draw (P := P) (w := w) (base := base) T).mono (k := 3) (by decide)
  have F__law_hermite := (ok__law_hermite (P := P) (w := w) (base := base) T).mono (k := 3) (by decide)
  have F__law_is_in := (ok__law_is_in (P := P) (w := w) (base := base) T).mono (k := 3) (by decide)
  have F__law_lead := (ok__law_lead (P := P) (w := w) (base := base) T).mono (k := 3) (by decide)
  have F__law_pen := (ok__law_pen (P := P) (w := w) (base := base) T).mono (k := 3) (by decide)
  have F__law_row := (ok__law_row (P := P) (w := w) (base := base) T).mono (k := 3) (by decide)
  have F__law_sum := (ok__law_sum (P := P) (w := w) (base := base) T).mono (k := 3) (by decide)
  have F_is_in := (ok_is_in (P := P) (w := w) (base := base) T).mono (k := 3) (by decide)
  have F_left_of := (ok_left_of (P := P) (w := w) (base := base) T).mono (k := 3) (by decide)
  have F_multiples_of := (ok_multiples_of (P := P) (w := w) (base := base) T).mono (k := 3) (by decide)
  exact Fun.okD (k := 3) (ds := b_law) T.F_law sc_law l_law (fun cdv A outer s H hr am => ⟨_, (qss_cons (qs_set 1 SC.nd (q_call F__law_pen am hr T.m__law_pen T.F__law_pen.kp T.b__law_pen (qa_cons (qv 0) qa_nil)))
    (qss_cons (qs_for PassesOwn.never rfl (qi_range1 T.z_range (qa_cons q_int qa_nil)) (qg_name (i := 2) SC.nd) (qss_cons (qs_set 3 SC.nd (q_add q_int (q_call F__law_draw am hr T.m__law_draw T.F__law_draw.kp T.b__law_draw (qa_cons (qv 1) (qa_cons q_int qa_nil)))))
    (qss_cons (qs_set 4 SC.nd (q_call F__law_hermite am hr T.m__law_hermite T.F__law_hermite.kp T.b__law_hermite (qa_cons (q_lc [("lap", 5)] rfl SC.nd (qi_range1 T.z_range (qa_cons (q_call F__law_draw am hr T.m__law_draw T.F__law_draw.kp T.b__law_draw (qa_cons (qv 1) (qa_cons q_int qa_nil))) qa_nil)) (blkOk_by (by kernel_rfl)) (fun _ _ _ _ _ => ⟨_, (qg_name (i := 5) SC.nd), (is_name (by decide))⟩) (fun _ _ _ _ _ => ⟨_, qts_nil⟩) (fun _ _ _ _ _ => ⟨_, (q_call F__law_row am hr T.m__law_row T.F__law_row.kp T.b__law_row (qa_cons (qv 1) (qa_cons (qv 3) qa_nil)))⟩)) (qa_cons (qv 3) qa_nil))))
    (qss_one (qs_for PassesOwn.never rfl (qi_range1 T.z_range (qa_cons q_int qa_nil)) (qg_name (i := 5) SC.nd) (qss_cons (qs_set 6 SC.nd (q_tuple T.z_tuple (qa_cons (q_lc [("row", 8)] rfl SC.nd (qi_seq (qv 4)) (blkOk_by (by kernel_rfl)) (fun _ _ _ _ _ => ⟨_, (qg_name (i := 8) SC.nd), (is_name (by decide))⟩) (fun _ _ _ _ _ => ⟨_, qts_nil⟩) (fun _ _ _ _ _ => ⟨_, (q_sub (q_call F__law_draw am hr T.m__law_draw T.F__law_draw.kp T.b__law_draw (qa_cons (qv 1) (qa_cons q_int qa_nil))) q_int)⟩)) qa_nil)))
    (qss_cons (qs_par 7 8 rfl SC.nd (qa_cons (q_call F__law_sum am hr T.m__law_sum T.F__law_sum.kp T.b__law_sum (qa_cons (qv 4) (qa_cons (qv 6) (qa_cons (qv 3) qa_nil)))) (qa_cons (q_call F__law_row am hr T.m__law_row T.F__law_row.kp T.b__law_row (qa_cons (qv 1) (qa_cons (qv 3) qa_nil))) qa_nil)))
    (qss_cons (qs_if (qt_ne hr (q_repr am.guards hr T.z_repr (qa_cons (q_lst (qa_cons (q_call F_left_of am hr T.m_left_of T.F_left_of.kp T.b_left_of (qa_cons (qv 4) (qa_cons (qv 7) qa_nil))) (qa_cons (q_call F_is_in am hr T.m_is_in T.F_is_in.kp T.b_is_in (qa_cons (qv 4) (qa_cons (qv 7) qa_nil))) (qa_cons (q_call F_multiples_of am hr T.m_multiples_of T.F_multiples_of.kp T.b_multiples_of (qa_cons (qv 4) (qa_cons (qv 7) qa_nil))) qa_nil)))) qa_nil)) (q_repr am.guards hr T.z_repr (qa_cons (q_lst (qa_cons (q_mul (q_tup (qa_cons q_int qa_nil)) (qv 3)) (qa_cons q_bl (qa_cons (qv 6) qa_nil)))) qa_nil))) (qss_one (qs_ret q_bl)) qss_nil)
    (qss_cons (qs_set 9 SC.nd (q_callK0 (ix := [0, 1]) (ks := ["basis", "row"]) F_left_of am hr T.m_left_of T.F_left_of.kp T.k_left_of_0_01 (qk_cons (qv 4) (qk_cons (qv 8) qk_nil))))
    (qss_cons (qs_if (qt_ne hr (q_lc [("held", 12)] rfl SC.nd (qi_seq (qv 4)) (blkOk_by (by kernel_rfl)) (fun _ _ _ _ _ => ⟨_, (qg_name (i := 12) SC.nd), (is_name (by decide))⟩) (fun _ _ _ _ _ => ⟨_, (qts_one (qt_not (qt_chain op_le sim_le op_lt sim_lt q_int (q_ix (qv 9) (q_call F__law_lead am hr T.m__law_lead T.F__law_lead.kp T.b__law_lead (qa_cons (qv 12) qa_nil))) (q_ix (qv 12) (q_call F__law_lead am hr T.m__law_lead T.F__law_lead.kp T.b__law_lead (qa_cons (qv 12) qa_nil))))))⟩) (fun _ _ _ _ _ => ⟨_, q_int⟩)) (q_lst qa_nil)) (qss_one (qs_ret q_bl)) qss_nil)
    (qss_cons (qs_if ((qw_or (qt_not (qt_val (q_call F__law_is_in am hr T.m__law_is_in T.F__law_is_in.kp T.b__law_is_in (qa_cons (qv 4) (qa_cons (q_call F__law_sum am hr T.m__law_sum T.F__law_sum.kp T.b__law_sum (qa_cons (q_lst (qa_cons (qv 8) (qa_cons (qv 9) qa_nil))) (qa_cons (q_lst (qa_cons q_int (qa_cons (q_neg q_int) qa_nil))) (qa_cons (qv 3) qa_nil)))) qa_nil))))) (qw_or1 (qt_ne hr (q_call F_left_of am hr T.m_left_of T.F_left_of.kp T.b_left_of (qa_cons (qv 4) (qa_cons (q_call F__law_sum am hr T.m__law_sum T.F__law_sum.kp T.b__law_sum (qa_cons (q_lst (qa_cons (qv 8) (qa_cons (qv 7) qa_nil))) (qa_cons (q_lst (qa_cons q_int (qa_cons q_int qa_nil))) (qa_cons (qv 3) qa_nil)))) qa_nil))) (qv 9))))).t (qss_one (qs_ret q_bl)) qss_nil)
    (qss_cons (qs_set 10 SC.nd (q_call F__law_is_in am hr T.m__law_is_in T.F__law_is_in.kp T.b__law_is_in (qa_cons (qv 4) (qa_cons (qv 8) qa_nil))))
    (qss_cons (qs_set 11 SC.nd (q_callK0 (ix := [0, 1]) (ks := ["basis", "row"]) F_multiples_of am hr T.m_multiples_of T.F_multiples_of.kp T.k_multiples_of_0_01 (qk_cons (qv 4) (qk_cons (qv 8) qk_nil))))
    (qss_cons (qs_if ((qw_or (qt_ne hr (q_repr am.guards hr T.z_repr (qa_cons (q_callK0 (ix := [0, 1]) (ks := ["basis", "row"]) F_is_in am hr T.m_is_in T.F_is_in.kp T.k_is_in_0_01 (qk_cons (qv 4) (qk_cons (qv 8) qk_nil))) qa_nil)) (q_repr am.guards hr T.z_repr (qa_cons (qv 10) qa_nil))) (qw_or (qt_ne hr (q_notN (qv 11) q_non) (qv 10)) (qw_or1 ((qw_and (qt_val (qv 10)) (qw_and1 (qt_ne hr (q_call F__law_sum am hr T.m__law_sum T.F__law_sum.kp T.b__law_sum (qa_cons (qv 4) (qa_cons (qv 11) (qa_cons (qv 3) qa_nil)))) (qv 8))))).t)))).t (qss_one (qs_ret q_bl)) qss_nil)
    (qss_one (qs_if (qt_ne hr (q_call F_is_in am hr T.m_is_in T.F_is_in.kp T.b_is_in (qa_cons (qv 4) (qa_cons (q_tuple T.z_tuple (qa_cons (q_lc [("one", 13)] rfl SC.nd (qi_seq (qv 8)) (blkOk_by (by kernel_rfl)) (fun _ _ _ _ _ => ⟨_, (qg_name (i := 13) SC.nd), (is_name (by decide))⟩) (fun _ _ _ _ _ => ⟨_, qts_nil⟩) (fun _ _ _ _ _ => ⟨_, (q_mul q_int (qv 13))⟩)) qa_nil)) qa_nil))) (q_call F__law_is_in am hr T.m__law_is_in T.F__law_is_in.kp T.b__law_is_in (qa_cons (qv 4) (qa_cons (q_tuple T.z_tuple (qa_cons (q_lc [("one", 13)] rfl SC.nd (qi_seq (qv 8)) (blkOk_by (by kernel_rfl)) (fun _ _ _ _ _ => ⟨_, (qg_name (i := 13) SC.nd), (is_name (by decide))⟩) (fun _ _ _ _ _ => ⟨_, qts_nil⟩) (fun _ _ _ _ _ => ⟨_, (q_mul q_int (qv 13))⟩)) qa_nil)) qa_nil)))) (qss_one (qs_ret q_bl)) qss_nil))))))))))))))))
    (qss_one (qs_ret (q_and (q_eq hr (q_call F_left_of am hr T.m_left_of T.F_left_of.kp T.b_left_of (qa_cons (q_tup qa_nil) (qa_cons (q_tup (qa_cons q_int (qa_cons (q_neg q_int) qa_nil))) qa_nil))) (q_tup (qa_cons q_int (qa_cons (q_neg q_int) qa_nil)))) (q_and (q_isB (q_call F_is_in am hr T.m_is_in T.F_is_in.kp T.b_is_in (qa_cons (q_tup qa_nil) (qa_cons (q_tup (qa_cons q_int (qa_cons q_int qa_nil))) qa_nil))) q_bl) (q_and (q_isN (q_call F_multiples_of am hr T.m_multiples_of T.F_multiples_of.kp T.b_multiples_of (qa_cons (q_tup qa_nil) (qa_cons (q_tup (qa_cons q_int (qa_cons q_int qa_nil))) qa_nil))) q_non) (q_one (q_eq hr (q_call F_multiples_of am hr T.m_multiples_of T.F_multiples_of.kp T.b_multiples_of (qa_cons (q_tup qa_nil) (qa_cons (q_tup (qa_cons q_int qa_nil)) qa_nil))) (q_tup qa_nil))))))))))⟩) r_law
end
theorem fun_bindsK {K : PySem.W.Frag} {x qual : Str} {st : Stmt} {f : Addr} {fd : FuncData} {ps ks : List Str} {n : Nat} {ix : List Nat} (F : Fun K x qual st f fd)
    (h : ∀ (kV doc pm : Value) (an : Option Addr) (cdv ct : Value) (us ws : List Value), us.length = n → ws.length = ks.length → bindArgs (PySem.W.fnOf x qual (defArgs st) (defBody st) (defScope st) .none kV doc pm an cdv ct) ⟨us, ks.zip ws⟩ = pure (ps.zip (pick us ws ix))) : BindsK K fd ps ks n ix := by
  obtain ⟨oc, od, kV, doc, pm, an, cdv, ct, osl, e9, lk, hcd⟩ := F.ex
  subst e9
  exact fun s us ws _ h1 h2 => .of_eq (h kV doc pm an cdv ct us ws h1 h2)
theorem all_mk {l : PySem.W.OpenLaw} {w : World} {K : PySem.W.Frag} {h : Heap} {mg : Str → Option Value} {fa : Addr} (X : K.In h) (G : h.Ns mainGlobals mg) (hfa : mg "law" = some (.ref fa))
    {f0 : Addr} {oc0 kV0 dc0 pm0 cd0 ct0 : Value} {od0 an0 : Option Addr} {sl0 : Array (Option Value)}
    (a0 : PySem.W.nsIn K mainGlobals "lead" = some (some (.ref f0))) (l0 : K.lookup f0 = some ⟨oc0, od0, .func (PySem.W.fnOf "lead" "lead" (defArgs s_lead) (defBody s_lead) (defScope s_lead) .none kV0 dc0 pm0 an0 cd0 ct0), sl0⟩) (c0 : PySem.W.codeIn K cd0 "lead" = true) (k0 : PySem.W.keepIn K (.ref f0) = true)
    {f1 : Addr} {oc1 kV1 dc1 pm1 cd1 ct1 : Value} {od1 an1 : Option Addr} {sl1 : Array (Option Value)}
    (a1 : PySem.W.nsIn K mainGlobals "plus" = some (some (.ref f1))) (l1 : K.lookup f1 = some ⟨oc1, od1, .func (PySem.W.fnOf "plus" "plus" (defArgs s_plus) (defBody s_plus) (defScope s_plus) .none kV1 dc1 pm1 an1 cd1 ct1), sl1⟩) (c1 : PySem.W.codeIn K cd1 "plus" = true) (k1 : PySem.W.keepIn K (.ref f1) = true)
    {f2 : Addr} {oc2 kV2 dc2 pm2 cd2 ct2 : Value} {od2 an2 : Option Addr} {sl2 : Array (Option Value)}
    (a2 : PySem.W.nsIn K mainGlobals "left_of" = some (some (.ref f2))) (l2 : K.lookup f2 = some ⟨oc2, od2, .func (PySem.W.fnOf "left_of" "left_of" (defArgs s_left_of) (defBody s_left_of) (defScope s_left_of) .none kV2 dc2 pm2 an2 cd2 ct2), sl2⟩) (c2 : PySem.W.codeIn K cd2 "left_of" = true) (k2 : PySem.W.keepIn K (.ref f2) = true)
    {f3 : Addr} {oc3 kV3 dc3 pm3 cd3 ct3 : Value} {od3 an3 : Option Addr} {sl3 : Array (Option Value)}
    (a3 : PySem.W.nsIn K mainGlobals "is_in" = some (some (.ref f3))) (l3 : K.lookup f3 = some ⟨oc3, od3, .func (PySem.W.fnOf "is_in" "is_in" (defArgs s_is_in) (defBody s_is_in) (defScope s_is_in) .none kV3 dc3 pm3 an3 cd3 ct3), sl3⟩) (c3 : PySem.W.codeIn K cd3 "is_in" = true) (k3 : PySem.W.keepIn K (.ref f3) = true)
    {f4 : Addr} {oc4 kV4 dc4 pm4 cd4 ct4 : Value} {od4 an4 : Option Addr} {sl4 : Array (Option Value)}
    (a4 : PySem.W.nsIn K mainGlobals "multiples_of" = some (some (.ref f4))) (l4 : K.lookup f4 = some ⟨oc4, od4, .func (PySem.W.fnOf "multiples_of" "multiples_of" (defArgs s_multiples_of) (defBody s_multiples_of) (defScope s_multiples_of) .none kV4 dc4 pm4 an4 cd4 ct4), sl4⟩) (c4 : PySem.W.codeIn K cd4 "multiples_of" = true) (k4 : PySem.W.keepIn K (.ref f4) = true)
    {f5 : Addr} {oc5 kV5 dc5 pm5 cd5 ct5 : Value} {od5 an5 : Option Addr} {sl5 : Array (Option Value)}
    (a5 : PySem.W.nsIn K mainGlobals "_law_pen" = some (some (.ref f5))) (l5 : K.lookup f5 = some ⟨oc5, od5, .func (PySem.W.fnOf "_law_pen" "_law_pen" (defArgs s__law_pen) (defBody s__law_pen) (defScope s__law_pen) .none kV5 dc5 pm5 an5 cd5 ct5), sl5⟩) (c5 : PySem.W.codeIn K cd5 "_law_pen" = true) (k5 : PySem.W.keepIn K (.ref f5) = true)
    {f6 : Addr} {oc6 kV6 dc6 pm6 cd6 ct6 : Value} {od6 an6 : Option Addr} {sl6 : Array (Option Value)}
    (a6 : PySem.W.nsIn K mainGlobals "_law_draw" = some (some (.ref f6))) (l6 : K.lookup f6 = some ⟨oc6, od6, .func (PySem.W.fnOf "_law_draw" "_law_draw" (defArgs s__law_draw) (defBody s__law_draw) (defScope s__law_draw) .none kV6 dc6 pm6 an6 cd6 ct6), sl6⟩) (c6 : PySem.W.codeIn K cd6 "_law_draw" = true) (k6 : PySem.W.keepIn K (.ref f6) = true)
    {f7 : Addr} {oc7 kV7 dc7 pm7 cd7 ct7 : Value} {od7 an7 : Option Addr} {sl7 : Array (Option Value)}
    (a7 : PySem.W.nsIn K mainGlobals "_law_pick" = some (some (.ref f7))) (l7 : K.lookup f7 = some ⟨oc7, od7, .func (PySem.W.fnOf "_law_pick" "_law_pick" (defArgs s__law_pick) (defBody s__law_pick) (defScope s__law_pick) .none kV7 dc7 pm7 an7 cd7 ct7), sl7⟩) (c7 : PySem.W.codeIn K cd7 "_law_pick" = true) (k7 : PySem.W.keepIn K (.ref f7) = true)
    {f8 : Addr} {oc8 kV8 dc8 pm8 cd8 ct8 : Value} {od8 an8 : Option Addr} {sl8 : Array (Option Value)}
    (a8 : PySem.W.nsIn K mainGlobals "_law_hermite" = some (some (.ref f8))) (l8 : K.lookup f8 = some ⟨oc8, od8, .func (PySem.W.fnOf "_law_hermite" "_law_hermite" (defArgs s__law_hermite) (defBody s__law_hermite) (defScope s__law_hermite) .none kV8 dc8 pm8 an8 cd8 ct8), sl8⟩) (c8 : PySem.W.codeIn K cd8 "_law_hermite" = true) (k8 : PySem.W.keepIn K (.ref f8) = true)
    {f9 : Addr} {oc9 kV9 dc9 pm9 cd9 ct9 : Value} {od9 an9 : Option Addr} {sl9 : Array (Option Value)}
    (a9 : PySem.W.nsIn K mainGlobals "_law_is_in" = some (some (.ref f9))) (l9 : K.lookup f9 = some ⟨oc9, od9, .func (PySem.W.fnOf "_law_is_in" "_law_is_in" (defArgs s__law_is_in) (defBody s__law_is_in) (defScope s__law_is_in) .none kV9 dc9 pm9 an9 cd9 ct9), sl9⟩) (c9 : PySem.W.codeIn K cd9 "_law_is_in" = true) (k9 : PySem.W.keepIn K (.ref f9) = true)
    {f10 : Addr} {oc10 kV10 dc10 pm10 cd10 ct10 : Value} {od10 an10 : Option Addr} {sl10 : Array (Option Value)}
    (a10 : PySem.W.nsIn K mainGlobals "_law_row" = some (some (.ref f10))) (l10 : K.lookup f10 = some ⟨oc10, od10, .func (PySem.W.fnOf "_law_row" "_law_row" (defArgs s__law_row) (defBody s__law_row) (defScope s__law_row) .none kV10 dc10 pm10 an10 cd10 ct10), sl10⟩) (c10 : PySem.W.codeIn K cd10 "_law_row" = true) (k10 : PySem.W.keepIn K (.ref f10) = true)
    {f11 : Addr} {oc11 kV11 dc11 pm11 cd11 ct11 : Value} {od11 an11 : Option Addr} {sl11 : Array (Option Value)}
    (a11 : PySem.W.nsIn K mainGlobals "_law_sum" = some (some (.ref f11))) (l11 : K.lookup f11 = some ⟨oc11, od11, .func (PySem.W.fnOf "_law_sum" "_law_sum" (defArgs s__law_sum) (defBody s__law_sum) (defScope s__law_sum) .none kV11 dc11 pm11 an11 cd11 ct11), sl11⟩) (c11 : PySem.W.codeIn K cd11 "_law_sum" = true) (k11 : PySem.W.keepIn K (.ref f11) = true)
    {f12 : Addr} {oc12 kV12 dc12 pm12 cd12 ct12 : Value} {od12 an12 : Option Addr} {sl12 : Array (Option Value)}
    (a12 : PySem.W.nsIn K mainGlobals "_law_lead" = some (some (.ref f12))) (l12 : K.lookup f12 = some ⟨oc12, od12, .func (PySem.W.fnOf "_law_lead" "_law_lead" (defArgs s__law_lead) (defBody s__law_lead) (defScope s__law_lead) .none kV12 dc12 pm12 an12 cd12 ct12), sl12⟩) (c12 : PySem.W.codeIn K cd12 "_law_lead" = true) (k12 : PySem.W.keepIn K (.ref f12) = true)
    {f13 : Addr} {oc13 kV13 dc13 pm13 cd13 ct13 : Value} {od13 an13 : Option Addr} {sl13 : Array (Option Value)}
    (a13 : PySem.W.nsIn K mainGlobals "law" = some (some (.ref f13))) (l13 : K.lookup f13 = some ⟨oc13, od13, .func (PySem.W.fnOf "law" "law" (defArgs s_law) (defBody s_law) (defScope s_law) .none kV13 dc13 pm13 an13 cd13 ct13), sl13⟩) (c13 : PySem.W.codeIn K cd13 "law" = true) (k13 : PySem.W.keepIn K (.ref f13) = true)
    (z_abs : PySem.W.nsIn K mainGlobals "abs" = some none)
    (z_enumerate : PySem.W.nsIn K mainGlobals "enumerate" = some none)
    (z_int : PySem.W.nsIn K mainGlobals "int" = some none)
    (z_len : PySem.W.nsIn K mainGlobals "len" = some none)
    (z_list : PySem.W.nsIn K mainGlobals "list" = some none)
    (z_min : PySem.W.nsIn K mainGlobals "min" = some none)
    (z_range : PySem.W.nsIn K mainGlobals "range" = some none)
    (z_repr : PySem.W.nsIn K mainGlobals "repr" = some none)
    (z_sum : PySem.W.nsIn K mainGlobals "sum" = some none)
    (z_tuple : PySem.W.nsIn K mainGlobals "tuple" = some none)
    (z_zip : PySem.W.nsIn K mainGlobals "zip" = some none)
    : ∃ fd : FuncData, (∀ (s : Shared) (v : Value), BindsTo s fd ⟨[v], []⟩ [("script", v)]) ∧ ∀ base : Heap, K.In base → base.Ns mainGlobals mg → FnG l.prog w K mg base 4 fa fd ["script"] c_law := by
  have e := hfa.symm.trans (PySem.W.mg_of X G a13)
  cases e
  have F0 := fun_mk (st := s_lead) l0 c0 k0
  have b0 := F0.binds (ps := ["row"]) fun _ _ _ _ _ _ us hl => match us, hl with | [_], _ => rfl
  have F1 := fun_mk (st := s_plus) l1 c1 k1
  have b1 := F1.binds (ps := ["row", "other", "times"]) fun _ _ _ _ _ _ us hl => match us, hl with | [_, _, _], _ => rfl
  have F2 := fun_mk (st := s_left_of) l2 c2 k2
  have b2 := F2.binds (ps := ["basis", "row"]) fun _ _ _ _ _ _ us hl => match us, hl with | [_, _], _ => rfl
  have F3 := fun_mk (st := s_is_in) l3 c3 k3
  have b3 := F3.binds (ps := ["basis", "row"]) fun _ _ _ _ _ _ us hl => match us, hl with | [_, _], _ => rfl
  have F4 := fun_mk (st := s_multiples_of) l4 c4 k4
  have b4 := F4.binds (ps := ["basis", "row"]) fun _ _ _ _ _ _ us hl => match us, hl with | [_, _], _ => rfl
  have F5 := fun_mk (st := s__law_pen) l5 c5 k5
  have b5 := F5.binds (ps := ["script"]) fun _ _ _ _ _ _ us hl => match us, hl with | [_], _ => rfl
  have F6 := fun_mk (st := s__law_draw) l6 c6 k6
  have b6 := F6.binds (ps := ["pen", "many"]) fun _ _ _ _ _ _ us hl => match us, hl with | [_, _], _ => rfl
  have F7 := fun_mk (st := s__law_pick) l7 c7 k7
  have b7 := F7.binds (ps := ["pen", "some"]) fun _ _ _ _ _ _ us hl => match us, hl with | [_, _], _ => rfl
  have F8 := fun_mk (st := s__law_hermite) l8 c8 k8
  have b8 := F8.binds (ps := ["rows", "width"]) fun _ _ _ _ _ _ us hl => match us, hl with | [_, _], _ => rfl
  have F9 := fun_mk (st := s__law_is_in) l9 c9 k9
  have b9 := F9.binds (ps := ["basis", "row"]) fun _ _ _ _ _ _ us hl => match us, hl with | [_, _], _ => rfl
  have F10 := fun_mk (st := s__law_row) l10 c10 k10
  have b10 := F10.binds (ps := ["pen", "width"]) fun _ _ _ _ _ _ us hl => match us, hl with | [_, _], _ => rfl
  have F11 := fun_mk (st := s__law_sum) l11 c11 k11
  have b11 := F11.binds (ps := ["rows", "multiples", "width"]) fun _ _ _ _ _ _ us hl => match us, hl with | [_, _, _], _ => rfl
  have F12 := fun_mk (st := s__law_lead) l12 c12 k12
  have b12 := F12.binds (ps := ["row"]) fun _ _ _ _ _ _ us hl => match us, hl with | [_], _ => rfl
  have F13 := fun_mk (st := s_law) l13 c13 k13
  have b13 := F13.binds (ps := ["script"]) fun _ _ _ _ _ _ us hl => match us, hl with | [_], _ => rfl
  let T : Tx K mg := {
    a_lead := _, d_lead := _, F_lead := F0, m_lead := PySem.W.mg_of X G a0, b_lead := b0
    a_plus := _, d_plus := _, F_plus := F1, m_plus := PySem.W.mg_of X G a1, b_plus := b1
    a_left_of := _, d_left_of := _, F_left_of := F2, m_left_of := PySem.W.mg_of X G a2, b_left_of := b2
    a_is_in := _, d_is_in := _, F_is_in := F3, m_is_in := PySem.W.mg_of X G a3, b_is_in := b3
    a_multiples_of := _, d_multiples_of := _, F_multiples_of := F4, m_multiples_of := PySem.W.mg_of X G a4, b_multiples_of := b4
    a__law_pen := _, d__law_pen := _, F__law_pen := F5, m__law_pen := PySem.W.mg_of X G a5, b__law_pen := b5
    a__law_draw := _, d__law_draw := _, F__law_draw := F6, m__law_draw := PySem.W.mg_of X G a6, b__law_draw := b6
    a__law_pick := _, d__law_pick := _, F__law_pick := F7, m__law_pick := PySem.W.mg_of X G a7, b__law_pick := b7
    a__law_hermite := _, d__law_hermite := _, F__law_hermite := F8, m__law_hermite := PySem.W.mg_of X G a8, b__law_hermite := b8
    a__law_is_in := _, d__law_is_in := _, F__law_is_in := F9, m__law_is_in := PySem.W.mg_of X G a9, b__law_is_in := b9
    a__law_row := _, d__law_row := _, F__law_row := F10, m__law_row := PySem.W.mg_of X G a10, b__law_row := b10
    a__law_sum := _, d__law_sum := _, F__law_sum := F11, m__law_sum := PySem.W.mg_of X G a11, b__law_sum := b11
    a__law_lead := _, d__law_lead := _, F__law_lead := F12, m__law_lead := PySem.W.mg_of X G a12, b__law_lead := b12
    a_law := _, d_law := _, F_law := F13, m_law := PySem.W.mg_of X G a13, b_law := b13
    z_abs := PySem.W.mg_none_of X G z_abs
    z_enumerate := PySem.W.mg_none_of X G z_enumerate
    z_int := PySem.W.mg_none_of X G z_int
    z_len := PySem.W.mg_none_of X G z_len
    z_list := PySem.W.mg_none_of X G z_list
    z_min := PySem.W.mg_none_of X G z_min
    z_range := PySem.W.mg_none_of X G z_range
    z_repr := PySem.W.mg_none_of X G z_repr
    z_sum := PySem.W.mg_none_of X G z_sum
    z_tuple := PySem.W.mg_none_of X G z_tuple
    z_zip := PySem.W.mg_none_of X G z_zip
    k_is_in_0_01 := fun_bindsK F3 fun _ _ _ _ _ _ us ws h1 h2 => match us, ws, h1, h2 with | [], [_, _], _, _ => rfl
    k_left_of_0_01 := fun_bindsK F2 fun _ _ _ _ _ _ us ws h1 h2 => match us, ws, h1, h2 with | [], [_, _], _, _ => rfl
    k_multiples_of_0_01 := fun_bindsK F4 fun _ _ _ _ _ _ us ws h1 h2 => match us, ws, h1, h2 with | [], [_, _], _, _ => rfl
  }
  exact ⟨T.d_law, fun s v => .of_eq rfl, fun base _ _ => ok_law (P := l.prog) (w := w) (base := base) T⟩
end K26

open PySem PySem.W PyProof.Rows
set_option maxRecDepth 100000 in
set_option maxHeartbeats 0 in
theorem PySem.Challenge.cw_allmoduli_k26_what_is_left_of_rows_holds : PySem.Challenge.rw_allmoduli_k26_what_is_left_of_rows.Holds := by
  w_on; o_law; k_head; (case hw => w_witness2)
  k_fill
  refine DL.walk_G (l := PySem.Challenge.rw_allmoduli_k26_what_is_left_of_rows) (n := 63) (k := 4) (C := K26.c_law) (x := "script") rfl (by decide) rfl ⟨rfl, by decide, by decide⟩ (by decide +kernel) rfl (fun w h Y => PySem.W.kIn_of Y) ?F K26.law_all
  case F =>
    intro w mg fa h KX G hmg
    refine' K26.all_mk KX G hmg ?a0 ?l0 ?c0 ?k0 ?a1 ?l1 ?c1 ?k1 ?a2 ?l2 ?c2 ?k2 ?a3 ?l3 ?c3 ?k3 ?a4 ?l4 ?c4 ?k4 ?a5 ?l5 ?c5 ?k5 ?a6 ?l6 ?c6 ?k6 ?a7 ?l7 ?c7 ?k7 ?a8 ?l8 ?c8 ?k8 ?a9 ?l9 ?c9 ?k9 ?a10 ?l10 ?c10 ?k10 ?a11 ?l11 ?c11 ?k11 ?a12 ?l12 ?c12 ?k12 ?a13 ?l13 ?c13 ?k13 ?z_abs ?z_enumerate ?z_int ?z_len ?z_list ?z_min ?z_range ?z_repr ?z_sum ?z_tuple ?z_zip
    (case a0 => k_is)
    (case l0 => k_is)
    (case c0 => k_is)
    (case k0 => k_is)
    (case a1 => k_is)
    (case l1 => k_is)
    (case c1 => k_is)
    (case k1 => k_is)
    (case a2 => k_is)
    (case l2 => k_is)
    (case c2 => k_is)
    (case k2 => k_is)
    (case a3 => k_is)
    (case l3 => k_is)
    (case c3 => k_is)
    (case k3 => k_is)
    (case a4 => k_is)
    (case l4 => k_is)
    (case c4 => k_is)
    (case k4 => k_is)
    (case a5 => k_is)
    (case l5 => k_is)
    (case c5 => k_is)
    (case k5 => k_is)
    (case a6 => k_is)
    (case l6 => k_is)
    (case c6 => k_is)
    (case k6 => k_is)
    (case a7 => k_is)
    (case l7 => k_is)
    (case c7 => k_is)
    (case k7 => k_is)
    (case a8 => k_is)
    (case l8 => k_is)
    (case c8 => k_is)
    (case k8 => k_is)
    (case a9 => k_is)
    (case l9 => k_is)
    (case c9 => k_is)
    (case k9 => k_is)
    (case a10 => k_is)
    (case l10 => k_is)
    (case c10 => k_is)
    (case k10 => k_is)
    (case a11 => k_is)
    (case l11 => k_is)
    (case c11 => k_is)
    (case k11 => k_is)
    (case a12 => k_is)
    (case l12 => k_is)
    (case c12 => k_is)
    (case k12 => k_is)
    (case a13 => k_is)
    (case l13 => k_is)
    (case c13 => k_is)
    (case k13 => k_is)
    (case z_abs => k_is)
    (case z_enumerate => k_is)
    (case z_int => k_is)
    (case z_len => k_is)
    (case z_list => k_is)
    (case z_min => k_is)
    (case z_range => k_is)
    (case z_repr => k_is)
    (case z_sum => k_is)
    (case z_tuple => k_is)
    (case z_zip => k_is)
