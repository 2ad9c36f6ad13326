import PyProof.Rows.All
import HandS.ForMost
import HandS.Conv
import HandS.Walk
import HandS.Zip
import HandS.Wide
import HandS.Star
import HandS.TupMul
import KE.GoesMore
import KE.GoesEnum
import KE.GoesZip
import PyProof.ReprLen
import HandS.Style
import HandS.Small
import HandS.Gcd
import HandS.SetFor
import HandS.Strs
import PyProof.SumWalkG
import HandS.TupAny
import PySem.Challenge.RW_allmoduli_k27_all_rows_with_products_of
set_option Elab.async false
set_option linter.all false
set_option maxRecDepth 100000
set_option exponentiation.threshold 300
/-! DLa: a layer of data over the hand layer: values as trees, changing objects by number. -/
namespace DL
open PySem L2

/-- a value as a tree; ref k: the k-th changing object; op v: a value that is not looked into -/
inductive Vl where
  | non | bl (b : Bool) | int (i : Int) | str (x : Str) | tup (xs : List Vl) | lst (xs : List Vl) | frl (xs : List Vl) | ref (k : Nat) | op (v : V)

/-- a changing object -/
inductive Mo where
  | dead | lst (xs : List Vl) | dict (kvs : List (Key × Vl)) | ins (C : Addr) (fs : List (Str × Vl))

abbrev Mu := List Mo
abbrev Rho := List (Option Vl)
/-- where the changing objects lie, and what stands still -/
structure Cf where
  al : List Addr
  Hd : Hp
  /-- what is kept aside -/
  Fr : Hp

mutual
inductive Rep (K : PySem.W.Frag) (c : Cf) : V → Vl → Prop
  | non : Rep K c .non .non
  | bl (b : Bool) : Rep K c (.bl b) (.bl b)
  | int (i : Int) : Rep K c (.int i) (.int i)
  | str (x : Str) : Rep K c (.str x) (.str x)
  | tup {a : Addr} {vs : List V} {xs : List Vl} : SqT K c.Hd a vs → xs.length ≤ sizeLine → Reps K c vs xs → Rep K c (.ref a) (.tup xs)
  | lst {a : Addr} {vs : List V} {xs : List Vl} : c.Hd a = some (.lst vs) → xs.length ≤ sizeLine → Reps K c vs xs → Rep K c (.ref a) (.lst xs)
  | frl {a : Addr} {vs : List V} {xs : List Vl} : SqL K c.Hd a vs → xs.length ≤ sizeLine → Reps K c vs xs → Rep K c (.ref a) (.frl xs)
  | ref {a : Addr} {k : Nat} : c.al[k]? = some a → Rep K c (.ref a) (.ref k)
  | op (v : V) : Rep K c v (.op v)
inductive Reps (K : PySem.W.Frag) (c : Cf) : List V → List Vl → Prop
  | nil : Reps K c [] []
  | cons {v : V} {x : Vl} {vs : List V} {xs : List Vl} : Rep K c v x → Reps K c vs xs → Reps K c (v :: vs) (x :: xs)
end

structure Ext0 (c c' : Cf) : Prop where
  al : ∀ (k : Nat) (a : Addr), c.al[k]? = some a → c'.al[k]? = some a
  hd : Same c.Hd c'.Hd
structure Ext (c c' : Cf) : Prop extends Ext0 c c' where
  fr : c'.Fr = c.Fr
theorem Ext0.refl (c : Cf) : Ext0 c c := ⟨fun _ _ h => h, Same.refl _⟩
theorem Ext0.trans {a b c : Cf} (x : Ext0 a b) (y : Ext0 b c) : Ext0 a c := ⟨fun k p h => y.al k p (x.al k p h), x.hd.trans y.hd⟩
theorem Ext.refl (c : Cf) : Ext c c := ⟨Ext0.refl c, rfl⟩
theorem Ext.trans {a b c : Cf} (x : Ext a b) (y : Ext b c) : Ext a c := ⟨x.toExt0.trans y.toExt0, y.fr.trans x.fr⟩

theorem same_rd {H H' : Hp} {a : Addr} {u : HO} (e : Same H H') (h : Rd H a u) : Rd H' a u := by
  rcases h with h | ⟨o, h⟩
  · exact Or.inl (e a _ h)
  · exact Or.inr ⟨o, e a _ h⟩
theorem same_t {K : PySem.W.Frag} {H H' : Hp} {a : Addr} {xs : List V} (e : Same H H') (h : SqT K H a xs) : SqT K H' a xs := by
  rcases h with h | h
  · exact Or.inl (same_rd e h)
  · exact Or.inr h
theorem same_l {K : PySem.W.Frag} {H H' : Hp} {a : Addr} {xs : List V} (e : Same H H') (h : SqL K H a xs) : SqL K H' a xs := e.seq h

mutual
theorem Rep.mono {K : PySem.W.Frag} {c c' : Cf} (e : Ext0 c c') : ∀ (x : Vl) (v : V), Rep K c v x → Rep K c' v x
  | .non, _, h => by cases h; exact .non
  | .bl b, _, h => by cases h; exact .bl b
  | .int i, _, h => by cases h; exact .int i
  | .str s, _, h => by cases h; exact .str s
  | .tup xs, _, h => by
    cases h with
    | tup h1 hz h2 => exact .tup (same_t e.hd h1) hz (Reps.mono e xs _ h2)
  | .lst xs, _, h => by
    cases h with
    | lst h1 hz h2 => exact .lst (e.hd _ _ h1) hz (Reps.mono e xs _ h2)
  | .frl xs, _, h => by
    cases h with
    | frl h1 hz h2 => exact .frl (same_l e.hd h1) hz (Reps.mono e xs _ h2)
  | .ref k, _, h => by
    cases h with
    | ref h1 => exact .ref (e.al _ _ h1)
  | .op v, _, h => by
    cases h
    exact .op v
theorem Reps.mono {K : PySem.W.Frag} {c c' : Cf} (e : Ext0 c c') : ∀ (xs : List Vl) (vs : List V), Reps K c vs xs → Reps K c' vs xs
  | [], _, h => by cases h; exact .nil
  | x :: xs, _, h => by
    cases h with
    | cons h1 h2 => exact .cons (Rep.mono e x _ h1) (Reps.mono e xs _ h2)
end
theorem Rep.up {K : PySem.W.Frag} {c c' : Cf} {x : Vl} {v : V} (h : Rep K c v x) (e : Ext0 c c') : Rep K c' v x := h.mono e x v
theorem Reps.up {K : PySem.W.Frag} {c c' : Cf} {xs : List Vl} {vs : List V} (h : Reps K c vs xs) (e : Ext0 c c') : Reps K c' vs xs := h.mono e xs vs
section
variable {K : PySem.W.Frag} {c : Cf}
theorem Reps.length : ∀ {xs : List Vl} {vs : List V}, Reps K c vs xs → vs.length = xs.length
  | [], _, h => by cases h; rfl
  | x :: xs, _, h => by
    cases h with
    | cons h1 h2 => exact congrArg (· + 1) (Reps.length h2)
theorem Reps.get : ∀ {xs : List Vl} {vs : List V} {i : Nat} {x : Vl}, Reps K c vs xs → xs[i]? = some x → ∃ v, vs[i]? = some v ∧ Rep K c v x
  | [], _, _, _, h, e => by simp at e
  | y :: xs, _, 0, x, h, e => by
    cases h with
    | cons h1 h2 =>
      have e' : y = x := by simpa using e
      subst e'
      exact ⟨_, rfl, h1⟩
  | y :: xs, _, i + 1, x, h, e => by
    cases h with
    | cons h1 h2 =>
      obtain ⟨v, q, r⟩ := Reps.get (i := i) (x := x) h2 (by simpa using e)
      exact ⟨v, by simpa using q, r⟩
theorem Reps.getV : ∀ {xs : List Vl} {vs : List V} {i : Nat} {v : V}, Reps K c vs xs → vs[i]? = some v → ∃ x, xs[i]? = some x ∧ Rep K c v x
  | [], _, _, _, h, e => by cases h; simp at e
  | y :: xs, _, 0, v, h, e => by
    cases h with
    | cons h1 h2 =>
      rename_i w ws
      have e' : w = v := by simpa using e
      subst e'
      exact ⟨y, rfl, h1⟩
  | y :: xs, _, i + 1, v, h, e => by
    cases h with
    | cons h1 h2 =>
      obtain ⟨x, q, r⟩ := Reps.getV (i := i) (v := v) h2 (by simpa using e)
      exact ⟨x, by simpa using q, r⟩
theorem Reps.append : ∀ {xs ys : List Vl} {vs ws : List V}, Reps K c vs xs → Reps K c ws ys → Reps K c (vs ++ ws) (xs ++ ys)
  | [], _, _, _, h, g => by cases h; exact g
  | x :: xs, _, _, _, h, g => by
    cases h with
    | cons h1 h2 => exact .cons h1 (Reps.append h2 g)
theorem Reps.take : ∀ (n : Nat) {xs : List Vl} {vs : List V}, Reps K c vs xs → Reps K c (vs.take n) (xs.take n)
  | 0, _, _, _ => .nil
  | n + 1, [], _, h => by cases h; exact .nil
  | n + 1, x :: xs, _, h => by
    cases h with
    | cons h1 h2 => exact .cons h1 (Reps.take n h2)
theorem Reps.drop : ∀ (n : Nat) {xs : List Vl} {vs : List V}, Reps K c vs xs → Reps K c (vs.drop n) (xs.drop n)
  | 0, _, _, h => h
  | n + 1, [], _, h => by cases h; exact .nil
  | n + 1, x :: xs, _, h => by
    cases h with
    | cons h1 h2 => exact Reps.drop n h2
theorem Reps.set {v : V} {x : Vl} (r : Rep K c v x) : ∀ (n : Nat) {xs : List Vl} {vs : List V}, Reps K c vs xs → Reps K c (vs.set n v) (xs.set n x)
  | 0, [], _, h => by cases h; exact .nil
  | n + 1, [], _, h => by cases h; exact .nil
  | 0, y :: xs, _, h => by
    cases h with
    | cons h1 h2 => exact .cons r h2
  | n + 1, y :: xs, _, h => by
    cases h with
    | cons h1 h2 => exact .cons h1 (Reps.set r n h2)
theorem Reps.one {v : V} {x : Vl} (h : Rep K c v x) : Reps K c [v] [x] := .cons h .nil
theorem Reps.ints_of : ∀ {ns : List Int} {vs : List V}, Reps K c vs (ns.map Vl.int) → vs = ns.map V.int
  | [], _, h => by cases h; rfl
  | n :: ns, _, h => by
    cases h with
    | cons h1 h2 =>
      cases h1
      rw [Reps.ints_of h2]
      rfl
theorem Reps.ints : ∀ (ns : List Int), Reps K c (ns.map V.int) (ns.map Vl.int)
  | [] => .nil
  | n :: ns => .cons (.int n) (Reps.ints ns)
end

/-- the fields of an instance, the pairs of a dict -/
inductive RepF (K : PySem.W.Frag) (c : Cf) {κ : Type} : List (κ × V) → List (κ × Vl) → Prop
  | nil : RepF K c [] []
  | cons {f : κ} {v : V} {x : Vl} {vs : List (κ × V)} {xs : List (κ × Vl)} : Rep K c v x → RepF K c vs xs → RepF K c ((f, v) :: vs) ((f, x) :: xs)
theorem RepF.up {K : PySem.W.Frag} {c c' : Cf} {κ : Type} (e : Ext0 c c') : ∀ {xs : List (κ × Vl)} {vs : List (κ × V)}, RepF K c vs xs → RepF K c' vs xs
  | [], _, h => by cases h; exact .nil
  | (f, x) :: xs, _, h => by
    cases h with
    | cons h1 h2 => exact .cons (h1.up e) (RepF.up e h2)

/-- what lies at a changing object's address -/
def ObR (K : PySem.W.Frag) (c : Cf) (h : Option HO) : Mo → Prop
  | .dead => h.isSome = true
  | .lst xs => ∃ vs, h = some (.lst vs) ∧ xs.length ≤ sizeLine ∧ Reps K c vs xs
  | .dict kvs => ∃ vs, h = some (.dK vs) ∧ RepF K c vs kvs
  | .ins C fs => ∃ dx vs, h = some (.ins C dx vs) ∧ RepF K c vs fs
theorem ObR.up {K : PySem.W.Frag} {c c' : Cf} {h : Option HO} (e : Ext0 c c') : ∀ {o : Mo}, ObR K c h o → ObR K c' h o
  | .dead, x => x
  | .lst xs, x => let ⟨vs, a, z, b⟩ := x; ⟨vs, a, z, b.up e⟩
  | .dict _, x => let ⟨vs, a, b⟩ := x; ⟨vs, a, b.up e⟩
  | .ins _ _, x => let ⟨dx, vs, a, b⟩ := x; ⟨dx, vs, a, b.up e⟩
theorem ObR.some {K : PySem.W.Frag} {c : Cf} {h : Option HO} : ∀ {o : Mo}, ObR K c h o → h.isSome = true
  | .dead, x => x
  | .lst _, x => by obtain ⟨vs, a, _⟩ := x; rw [a]; rfl
  | .dict _, x => by obtain ⟨vs, a, _⟩ := x; rw [a]; rfl
  | .ins _ _, x => by obtain ⟨dx, vs, a, _⟩ := x; rw [a]; rfl

structure RM (K : PySem.W.Frag) (c : Cf) (μ : Mu) (H : Hp) : Prop where
  sub : Same c.Hd H
  len : c.al.length = μ.length
  nod : c.al.Nodup
  obj : ∀ (k : Nat) (a : Addr) (o : Mo), c.al[k]? = some a → μ[k]? = some o → c.Hd a = none ∧ ObR K c (H a) o
  fsb : Same c.Fr H
  fds : ∀ (a : Addr) (o : HO), c.Fr a = some o → c.Hd a = none ∧ a ∉ c.al

structure RS (K : PySem.W.Frag) (c : Cf) (ρ : Rho) (σ : L2.St) : Prop where
  len : ρ.length = σ.length
  get : ∀ (i : Nat) (x : Vl), ρ[i]? = some (some x) → ∃ v, σ[i]? = some (some v) ∧ Rep K c v x

section
variable {K : PySem.W.Frag} {c c' : Cf} {μ : Mu} {H H' : Hp} {ρ : Rho} {σ : L2.St}
theorem RS.up (h : RS K c ρ σ) (e : Ext0 c c') : RS K c' ρ σ := ⟨h.len, fun i x q => let ⟨v, a, b⟩ := h.get i x q; ⟨v, a, b.up e⟩⟩
theorem RS.set {v : V} {x : Vl} (h : RS K c ρ σ) (i : Nat) (r : Rep K c v x) : RS K c (ρ.set i (some x)) (σ.set i (some v)) := by
  refine ⟨by rw [List.length_set, List.length_set]; exact h.len, fun j y e => ?_⟩
  by_cases hj : i = j
  · subst hj
    by_cases hl : i < ρ.length
    · rw [List.getElem?_set_self hl] at e
      have e' : x = y := by simpa using e
      subst e'
      exact ⟨v, List.getElem?_set_self (by rw [← h.len]; exact hl), r⟩
    · rw [List.getElem?_eq_none (by rw [List.length_set]; omega)] at e
      cases e
  · rw [List.getElem?_set_ne hj] at e
    rw [List.getElem?_set_ne hj]
    exact h.get j y e
theorem RM.nin {p : Addr} (R : RM K c μ H) (hp : H p = none) : p ∉ c.al := fun hm => by
  obtain ⟨k, hk, e⟩ := List.getElem_of_mem hm
  have hk' : k < μ.length := by rw [← R.len]; exact hk
  have s := (R.obj k p μ[k] (by rw [← e]; simp [hk]) (by simp [hk'])).2.some
  rw [hp] at s; cases s
/-- a new object that will not change -/
theorem RM.still {p : Addr} {o : HO} (R : RM K c μ H) (hp : H p = none) : RM K ⟨c.al, upd c.Hd p o, c.Fr⟩ μ (upd H p o) ∧ Ext c ⟨c.al, upd c.Hd p o, c.Fr⟩ := by
  have hd : c.Hd p = none := R.sub.free hp
  have hf : c.Fr p = none := R.fsb.free hp
  have E : Ext c ⟨c.al, upd c.Hd p o, c.Fr⟩ := ⟨⟨fun _ _ h => h, fun b u e => by
    show upd c.Hd p o b = _
    rw [upd_ne (ne_of_none e hd)]; exact e⟩, rfl⟩
  refine ⟨⟨fun b u e => ?_, R.len, R.nod, fun k a m h1 h2 => ?_, fun b u e => ?_, fun a u e => ?_⟩, E⟩
  · have e : upd c.Hd p o b = some u := e
    by_cases hb : b = p
    · subst hb
      rw [upd_same] at e ⊢; exact e
    · rw [upd_ne hb] at e ⊢
      exact R.sub b u e
  · obtain ⟨q1, q2⟩ := R.obj k a m h1 h2
    have ne : a ≠ p := fun z => by
      have s := q2.some
      rw [z, hp] at s; cases s
    refine ⟨?_, ?_⟩
    · show upd c.Hd p o a = none
      rw [upd_ne ne]; exact q1
    · rw [upd_ne ne]; exact q2.up E.toExt0
  · have e : c.Fr b = some u := e
    rw [upd_ne (ne_of_none e hf)]
    exact R.fsb b u e
  · have e : c.Fr a = some u := e
    obtain ⟨q1, q2⟩ := R.fds a u e
    refine ⟨?_, q2⟩
    show upd c.Hd p o a = none
    rw [upd_ne (ne_of_none e hf)]; exact q1
/-- a new object that may change -/
theorem RM.fresh {p : Addr} {o : HO} {m : Mo} (R : RM K c μ H) (hp : H p = none) (hm : ObR K ⟨c.al ++ [p], c.Hd, c.Fr⟩ (some o) m) : RM K ⟨c.al ++ [p], c.Hd, c.Fr⟩ (μ ++ [m]) (upd H p o) ∧ Ext c ⟨c.al ++ [p], c.Hd, c.Fr⟩ := by
  have hd : c.Hd p = none := R.sub.free hp
  have hf : c.Fr p = none := R.fsb.free hp
  have E : Ext c ⟨c.al ++ [p], c.Hd, c.Fr⟩ := ⟨⟨fun k a h => by
    show (c.al ++ [p])[k]? = some a
    rw [List.getElem?_append_left (List.getElem?_eq_some_iff.mp h).1]; exact h, Same.refl _⟩, rfl⟩
  have nin : ∀ (k : Nat) (a : Addr), c.al[k]? = some a → a ≠ p := fun k a h z => by
    subst z
    exact R.nin hp (List.mem_of_getElem? h)
  refine ⟨⟨fun b u e => ?_, by simp [R.len], ?_, fun k a m' h1 h2 => ?_, fun b u e => ?_, fun a u e => ?_⟩, E⟩
  · rw [upd_ne (ne_of_none e hd)]
    exact R.sub b u e
  · show (c.al ++ [p]).Nodup
    rw [List.nodup_append]
    refine ⟨R.nod, by simp, fun a ha b hb z => ?_⟩
    have hb' : b = p := by simpa using hb
    subst hb'; subst z
    exact R.nin hp ha
  · have h1 : (c.al ++ [p])[k]? = some a := h1
    by_cases hk : k < c.al.length
    · rw [List.getElem?_append_left hk] at h1
      rw [List.getElem?_append_left (by rw [← R.len]; exact hk)] at h2
      obtain ⟨q1, q2⟩ := R.obj k a m' h1 h2
      refine ⟨q1, ?_⟩
      rw [upd_ne (nin k a h1)]
      exact q2.up E.toExt0
    · have hk2 : k = c.al.length := by
        have := (List.getElem?_eq_some_iff.mp h1).1
        simp at this; omega
      subst hk2
      have e1 : p = a := by simpa using h1
      have e2 : m = m' := by rw [R.len] at h2; simpa using h2
      subst e1; subst e2
      refine ⟨hd, ?_⟩
      rw [upd_same]; exact hm
  · have e : c.Fr b = some u := e
    rw [upd_ne (ne_of_none e hf)]
    exact R.fsb b u e
  · have e : c.Fr a = some u := e
    obtain ⟨q1, q2⟩ := R.fds a u e
    refine ⟨q1, fun hm => ?_⟩
    have hm : a ∈ c.al ++ [p] := hm
    rcases List.mem_append.mp hm with z | z
    · exact q2 z
    · have z' : a = p := by simpa using z
      subst z'
      have e9 : c.Fr a = some u := e
      rw [hf] at e9; cases e9
/-- a changing object is changed -/
theorem RM.write {k : Nat} {a : Addr} {o : HO} {m : Mo} (R : RM K c μ H) (hk : c.al[k]? = some a) (hm : ObR K c (some o) m) : RM K c (μ.set k m) (upd H a o) := by
  have hlt : k < μ.length := by rw [← R.len]; exact (List.getElem?_eq_some_iff.mp hk).1
  have hd : c.Hd a = none := (R.obj k a μ[k] hk (by simp [hlt])).1
  refine ⟨fun b u e => ?_, by simp [R.len], R.nod, fun j b m' h1 h2 => ?_, fun b u e => ?_, R.fds⟩
  · rw [upd_ne (ne_of_none e hd)]
    exact R.sub b u e
  · by_cases hj : j = k
    · subst hj
      rw [hk] at h1
      have e1 : a = b := by simpa using h1
      subst e1
      rw [List.getElem?_set_self hlt] at h2
      have e2 : m = m' := by simpa using h2
      subst e2
      refine ⟨hd, ?_⟩
      rw [upd_same]; exact hm
    · rw [List.getElem?_set_ne (Ne.symm hj)] at h2
      obtain ⟨q1, q2⟩ := R.obj j b m' h1 h2
      have ne : b ≠ a := fun z => by
        subst z
        exact hj (nd_ix R.nod h1 hk)
      refine ⟨q1, ?_⟩
      rw [upd_ne ne]; exact q2
  · have ne : b ≠ a := fun z => by
      subst z
      exact (R.fds b u e).2 (List.mem_of_getElem? hk)
    rw [upd_ne ne]; exact R.fsb b u e
/-- a new object kept aside -/
theorem RM.aside {p : Addr} {o : HO} (R : RM K c μ H) (hp : H p = none) : RM K ⟨c.al, c.Hd, upd c.Fr p o⟩ μ (upd H p o) := by
  have hd : c.Hd p = none := R.sub.free hp
  have hf : c.Fr p = none := R.fsb.free hp
  refine ⟨fun b u e => ?_, R.len, R.nod, fun k a m h1 h2 => ?_, fun b u e => ?_, fun a u e => ?_⟩
  · rw [upd_ne (ne_of_none e hd)]; exact R.sub b u e
  · obtain ⟨q1, q2⟩ := R.obj k a m h1 h2
    have ne : a ≠ p := fun z => by
      subst z
      exact R.nin hp (List.mem_of_getElem? h1)
    refine ⟨q1, ?_⟩
    rw [upd_ne ne]; exact ObR.up (c := c) (c' := ⟨c.al, c.Hd, upd c.Fr p o⟩) ⟨fun _ _ h => h, Same.refl _⟩ q2
  · have e : upd c.Fr p o b = some u := e
    by_cases hb : b = p
    · subst hb; rw [upd_same] at e ⊢; exact e
    · rw [upd_ne hb] at e ⊢; exact R.fsb b u e
  · have e : upd c.Fr p o a = some u := e
    by_cases hb : a = p
    · subst hb; exact ⟨hd, R.nin hp⟩
    · rw [upd_ne hb] at e; exact R.fds a u e
/-- what is kept aside is written -/
theorem RM.asideW {p : Addr} {o o' : HO} (R : RM K c μ H) (hp : c.Fr p = some o) : RM K ⟨c.al, c.Hd, upd c.Fr p o'⟩ μ (upd H p o') := by
  obtain ⟨hd, hn⟩ := R.fds p o hp
  refine ⟨fun b u e => ?_, R.len, R.nod, fun k a m h1 h2 => ?_, fun b u e => ?_, fun a u e => ?_⟩
  · rw [upd_ne (ne_of_none e hd)]; exact R.sub b u e
  · obtain ⟨q1, q2⟩ := R.obj k a m h1 h2
    have ne : a ≠ p := fun z => by
      subst z
      exact hn (List.mem_of_getElem? h1)
    refine ⟨q1, ?_⟩
    rw [upd_ne ne]; exact ObR.up (c := c) (c' := ⟨c.al, c.Hd, upd c.Fr p o'⟩) ⟨fun _ _ h => h, Same.refl _⟩ q2
  · have e : upd c.Fr p o' b = some u := e
    by_cases hb : b = p
    · subst hb; rw [upd_same] at e ⊢; exact e
    · rw [upd_ne hb] at e ⊢; exact R.fsb b u e
  · have e : upd c.Fr p o' a = some u := e
    by_cases hb : a = p
    · subst hb; exact ⟨hd, hn⟩
    · rw [upd_ne hb] at e; exact R.fds a u e
/-- what was kept aside will not change any more -/
theorem RM.asideStill {p : Addr} {o : HO} {F : Hp} (R : RM K c μ H) (hp : c.Fr p = some o) (hF : F p = none) (hF2 : ∀ b u, F b = some u → c.Fr b = some u) : RM K ⟨c.al, upd c.Hd p o, F⟩ μ H ∧ Ext0 c ⟨c.al, upd c.Hd p o, F⟩ := by
  obtain ⟨hd, hn⟩ := R.fds p o hp
  have E : Ext0 c ⟨c.al, upd c.Hd p o, F⟩ := ⟨fun _ _ h => h, fun b u e => by
    show upd c.Hd p o b = _
    rw [upd_ne (ne_of_none e hd)]; exact e⟩
  refine ⟨⟨fun b u e => ?_, R.len, R.nod, fun k a m h1 h2 => ?_, fun b u e => R.fsb b u (hF2 b u e), fun a u e => ?_⟩, E⟩
  · have e : upd c.Hd p o b = some u := e
    by_cases hb : b = p
    · subst hb
      rw [upd_same] at e
      rw [← e]; exact R.fsb _ _ hp
    · rw [upd_ne hb] at e; exact R.sub b u e
  · obtain ⟨q1, q2⟩ := R.obj k a m h1 h2
    have ne : a ≠ p := fun z => by
      subst z
      exact hn (List.mem_of_getElem? h1)
    refine ⟨?_, q2.up E⟩
    show upd c.Hd p o a = none
    rw [upd_ne ne]; exact q1
  · have e : F a = some u := e
    obtain ⟨q1, q2⟩ := R.fds a u (hF2 a u e)
    refine ⟨?_, q2⟩
    show upd c.Hd p o a = none
    rw [upd_ne (ne_of_none e hF)]; exact q1
/-- what was kept aside may change -/
theorem RM.asideFresh {p : Addr} {o : HO} {F : Hp} {m : Mo} (R : RM K c μ H) (hp : c.Fr p = some o) (hF : F p = none) (hF2 : ∀ b u, F b = some u → c.Fr b = some u) (hm : ObR K ⟨c.al ++ [p], c.Hd, F⟩ (some o) m) :
    RM K ⟨c.al ++ [p], c.Hd, F⟩ (μ ++ [m]) H ∧ Ext0 c ⟨c.al ++ [p], c.Hd, F⟩ := by
  obtain ⟨hd, hn⟩ := R.fds p o hp
  have E : Ext0 c ⟨c.al ++ [p], c.Hd, F⟩ := ⟨fun k a h => by
    show (c.al ++ [p])[k]? = some a
    rw [List.getElem?_append_left (List.getElem?_eq_some_iff.mp h).1]; exact h, Same.refl _⟩
  refine ⟨⟨R.sub, by simp [R.len], ?_, fun k a m' h1 h2 => ?_, fun b u e => R.fsb b u (hF2 b u e), fun a u e => ?_⟩, E⟩
  · show (c.al ++ [p]).Nodup
    rw [List.nodup_append]
    refine ⟨R.nod, by simp, fun a ha b hb z => ?_⟩
    have hb' : b = p := by simpa using hb
    subst hb'; subst z
    exact hn ha
  · have h1 : (c.al ++ [p])[k]? = some a := h1
    by_cases hk : k < c.al.length
    · rw [List.getElem?_append_left hk] at h1
      rw [List.getElem?_append_left (by rw [← R.len]; exact hk)] at h2
      obtain ⟨q1, q2⟩ := R.obj k a m' h1 h2
      exact ⟨q1, q2.up E⟩
    · have hk2 : k = c.al.length := by
        have := (List.getElem?_eq_some_iff.mp h1).1
        simp at this; omega
      subst hk2
      have e1 : p = a := by simpa using h1
      have e2 : m = m' := by rw [R.len] at h2; simpa using h2
      subst e1; subst e2
      exact ⟨hd, by rw [R.fsb _ _ hp]; exact hm⟩
  · have e : F a = some u := e
    obtain ⟨q1, q2⟩ := R.fds a u (hF2 a u e)
    refine ⟨q1, fun hm => ?_⟩
    have hm : a ∈ c.al ++ [p] := hm
    rcases List.mem_append.mp hm with z | z
    · exact q2 z
    · have z' : a = p := by simpa using z
      subst z'
      have e9 : F a = some u := e
      rw [hF] at e9; cases e9
end

/-! ### readings over data -/
abbrev DK := Vl → Mu → Prop
abbrev DE := Rho → Mu → DK → Prop
abbrev DT := Rho → Mu → (Bool → Mu → Prop) → Prop
abbrev DA := Rho → Mu → (List Vl → Mu → Prop) → Prop
abbrev DO := Rho → Mu → (Option Int → Mu → Prop) → Prop
structure DEnds where
  nx : Rho → Mu → Prop
  rt : DK
  bk : Rho → Mu → Prop := fun _ _ => False
  ct : Rho → Mu → Prop := fun _ _ => False
abbrev DS := DEnds → Rho → Mu → Prop
abbrev DG := Vl → Rho → Mu → (Rho → Mu → Prop) → Prop
abbrev DGs := List Vl → Rho → Mu → (Rho → Mu → Prop) → Prop

def SimE (K : PySem.W.Frag) (te : TE) (de : DE) : Prop := ∀ (c : Cf) (ρ : Rho) (μ : Mu) (σ : L2.St) (H : Hp) (Q : DK) (P : VK), RM K c μ H → RS K c ρ σ → de ρ μ Q →
  (∀ c' x μ' v H', Ext c c' → RM K c' μ' H' → Rep K c' v x → Q x μ' → P v H') → te σ H P
def SimT (K : PySem.W.Frag) (tt : TT) (dt : DT) : Prop := ∀ (c : Cf) (ρ : Rho) (μ : Mu) (σ : L2.St) (H : Hp) (Q : Bool → Mu → Prop) (P : Bool → Hp → Prop), RM K c μ H → RS K c ρ σ → dt ρ μ Q →
  (∀ c' b μ' H', Ext c c' → RM K c' μ' H' → Q b μ' → P b H') → tt σ H P
def SimA (K : PySem.W.Frag) (ta : TA) (da : DA) : Prop := ∀ (c : Cf) (ρ : Rho) (μ : Mu) (σ : L2.St) (H : Hp) (Q : List Vl → Mu → Prop) (P : List V → Hp → Prop), RM K c μ H → RS K c ρ σ → da ρ μ Q →
  (∀ c' xs μ' vs H', Ext c c' → RM K c' μ' H' → Reps K c' vs xs → Q xs μ' → P vs H') → ta σ H P
def SimO (K : PySem.W.Frag) (to : TO) (do_ : DO) : Prop := ∀ (c : Cf) (ρ : Rho) (μ : Mu) (σ : L2.St) (H : Hp) (Q : Option Int → Mu → Prop) (P : Option Int → Hp → Prop), RM K c μ H → RS K c ρ σ → do_ ρ μ Q →
  (∀ c' o μ' H', Ext c c' → RM K c' μ' H' → Q o μ' → P o H') → to σ H P
/-- the ends agree, from c on -/
structure SimD (K : PySem.W.Frag) (c : Cf) (D : Ends) (d : DEnds) : Prop where
  nx : ∀ c' ρ μ σ H, Ext c c' → RM K c' μ H → RS K c' ρ σ → d.nx ρ μ → D.nx σ H
  rt : ∀ c' x μ v H, Ext c c' → RM K c' μ H → Rep K c' v x → d.rt x μ → D.rt v H
  bk : ∀ c' ρ μ σ H, Ext c c' → RM K c' μ H → RS K c' ρ σ → d.bk ρ μ → D.bk σ H
  ct : ∀ c' ρ μ σ H, Ext c c' → RM K c' μ H → RS K c' ρ σ → d.ct ρ μ → D.ct σ H
theorem SimD.up {K : PySem.W.Frag} {c c' : Cf} {D : Ends} {d : DEnds} (h : SimD K c D d) (e : Ext c c') : SimD K c' D d :=
  ⟨fun c2 ρ μ σ H e2 => h.nx c2 ρ μ σ H (e.trans e2), fun c2 ρ μ σ H e2 => h.rt c2 ρ μ σ H (e.trans e2), fun c2 ρ μ σ H e2 => h.bk c2 ρ μ σ H (e.trans e2), fun c2 ρ μ σ H e2 => h.ct c2 ρ μ σ H (e.trans e2)⟩
def SimS (K : PySem.W.Frag) (ts : TS) (ds : DS) : Prop := ∀ (c : Cf) (ρ : Rho) (μ : Mu) (σ : L2.St) (H : Hp) (D : Ends) (d : DEnds), RM K c μ H → RS K c ρ σ → SimD K c D d → ds d ρ μ → ts D σ H
def SimG (K : PySem.W.Frag) (tg : TG) (dg : DG) : Prop := ∀ (c : Cf) (ρ : Rho) (μ : Mu) (σ : L2.St) (H : Hp) (v : V) (x : Vl) (Q : Rho → Mu → Prop) (P : L2.St → Hp → Prop), RM K c μ H → RS K c ρ σ → Rep K c v x → dg x ρ μ Q →
  (∀ c' ρ' μ' σ' H', Ext c c' → RM K c' μ' H' → RS K c' ρ' σ' → Q ρ' μ' → P σ' H') → tg v σ H P
def SimGs (K : PySem.W.Frag) (tg : TGs) (dg : DGs) : Prop := ∀ (c : Cf) (ρ : Rho) (μ : Mu) (σ : L2.St) (H : Hp) (vs : List V) (xs : List Vl) (Q : Rho → Mu → Prop) (P : L2.St → Hp → Prop), RM K c μ H → RS K c ρ σ → Reps K c vs xs → dg xs ρ μ Q →
  (∀ c' ρ' μ' σ' H', Ext c c' → RM K c' μ' H' → RS K c' ρ' σ' → Q ρ' μ' → P σ' H') → tg vs σ H P

structure QE (X : Cx) (e : Expr) (te : TE) (de : DE) : Prop where
  p : PE X e te
  s : SimE X.K te de
structure QT (X : Cx) (e : Expr) (tt : TT) (dt : DT) : Prop where
  p : PT X e tt
  s : SimT X.K tt dt
structure QW (X : Cx) (e : Expr) (tt : TT) (dt : DT) : Prop where
  p : PW X e tt
  s : SimT X.K tt dt
structure QTs (X : Cx) (e : List Expr) (tt : TT) (dt : DT) : Prop where
  p : PTs X e tt
  s : SimT X.K tt dt
structure QA (X : Cx) (es : List Expr) (ta : TA) (da : DA) : Prop where
  p : PA X es ta
  s : SimA X.K ta da
structure QO (X : Cx) (o : Option Expr) (to : TO) (do_ : DO) : Prop where
  p : PO X o to
  s : SimO X.K to do_
structure QS (X : Cx) (st : Stmt) (ts : TS) (ds : DS) : Prop where
  p : PS X st ts
  s : SimS X.K ts ds
structure QSs (X : Cx) (st : List Stmt) (ts : TS) (ds : DS) : Prop where
  p : PSs X st ts
  s : SimS X.K ts ds
structure QG (X : Cx) (e : Expr) (tg : TG) (dg : DG) : Prop where
  p : PG X e tg
  s : SimG X.K tg dg
structure QGs (X : Cx) (es : List Expr) (tg : TGs) (dg : DGs) : Prop where
  p : PGs X es tg
  s : SimGs X.K tg dg
end DL

/-! DLb: expressions over data. -/
namespace DL
open PySem L2 StX PyProof.Rows

section
variable {X : Cx} {e a b o : Expr} {es : List Expr} {te ta tb : TE} {de da db : DE} {pos : Pos}

/-! ### names, constants -/
def dVar (i : Nat) : DE := fun ρ μ Q => match ρ[i]? with
  | some (some x) => Q x μ
  | _ => False
def dC (x : Vl) : DE := fun _ μ Q => Q x μ
theorem sim_var {K : PySem.W.Frag} {i : Nat} : SimE K (tVar i) (dVar i) := by
  intro c ρ μ σ H Q P R S h k
  unfold dVar at h
  split at h
  · rename_i x e
    obtain ⟨v, e1, r⟩ := S.get i x e
    exact ⟨v, e1, k c x μ v H (Ext.refl c) R r h⟩
  · exact h.elim
theorem qv (i : Nat) {x : Str} {pos : Pos} (hN : X.N[i]? = some x := by rfl) (hv : Vis X.env.scope x := by first | exact Or.inl rfl | exact Or.inr (Or.inl rfl) | exact Or.inr (Or.inr rfl)) (hd : (x == ("__debug__" : Str)) = false := by decide)
    (hcd : (x == ("__classdict__" : Str)) = false := by decide) : QE X (.Name x pos) (tVar i) (dVar i) := ⟨pe_var hN hv hd hcd, sim_var⟩
theorem sim_c {K : PySem.W.Frag} {v : V} {x : Vl} (h : ∀ c, Rep K c v x) : SimE K (tC v) (dC x) := fun c _ μ _ H _ _ R _ q k => k c x μ v H (Ext.refl c) R (h c) q
theorem q_int {i j pos} : QE X (.Constant (.int i) j pos) (tC (.int i)) (dC (.int i)) := ⟨pe_int, sim_c fun _ => .int i⟩
theorem q_bl {b j pos} : QE X (.Constant (.bool b) j pos) (tC (.bl b)) (dC (.bl b)) := ⟨pe_bl, sim_c fun _ => .bl b⟩
theorem q_non {j pos} : QE X (.Constant .none j pos) (tC .non) (dC .non) := ⟨pe_non, sim_c fun _ => .non⟩
theorem q_str {x j pos} : QE X (.Constant (.str x) j pos) (tC (.str x)) (dC (.str x)) := ⟨pe_str, sim_c fun _ => .str x⟩

/-! ### two-place operations -/
abbrev D2 := Vl → Vl → Mu → DK → Prop
def Sim2 (K : PySem.W.Frag) (r : R2) (d : D2) : Prop := ∀ (c : Cf) (μ : Mu) (H : Hp) (vx vy : V) (x y : Vl) (Q : DK) (P : VK), RM K c μ H → Rep K c vx x → Rep K c vy y → d x y μ Q →
  (∀ c' z μ' v H', Ext c c' → RM K c' μ' H' → Rep K c' v z → Q z μ' → P v H') → r vx vy H P
def dOp (d : D2) (da db : DE) : DE := fun ρ μ Q => da ρ μ fun x μ1 => db ρ μ1 fun y μ2 => d x y μ2 Q
theorem sim_op {K : PySem.W.Frag} {r : R2} {d : D2} (hs : Sim2 K r d) (ha : SimE K ta da) (hb : SimE K tb db) : SimE K (tOp r ta tb) (dOp d da db) := by
  intro c ρ μ σ H Q P R S h k
  refine ha c ρ μ σ H _ _ R S h fun c1 x μ1 v H1 E1 R1 r1 q1 => ?_
  refine hb c1 ρ μ1 σ H1 _ _ R1 (S.up E1.toExt0) q1 fun c2 y μ2 u H2 E2 R2 r2 q2 => ?_
  exact hs c2 μ2 H2 v u x y Q P R2 (r1.up E2.toExt0) r2 q2 fun c3 z μ3 w H3 E3 => k c3 z μ3 w H3 ((E1.trans E2).trans E3)
theorem q_op {op : Operator} {r : R2} {d : D2} (ho : OpR X (binaryOp op) r) (hs : Sim2 X.K r d) (ha : QE X a ta da) (hb : QE X b tb db) : QE X (.BinOp a op b pos) (tOp r ta tb) (dOp d da db) := ⟨pe_op ho ha.p hb.p, sim_op hs ha.s hb.s⟩
theorem opr_or {f : Value → Value → Sem Value} {r r' : R2} (h : OpR X f r) (h' : OpR X f r') : OpR X f (fun x y H Q => r x y H Q ∨ r' x y H Q) := by
  intro pins s σ H x y v u Q I rx ry q
  rcases q with q | q
  · exact h pins s σ H x y v u Q I rx ry q
  · exact h' pins s σ H x y v u Q I rx ry q

/-! ### lists as they stand -/
def lview (μ : Mu) : Vl → Option (List Vl)
  | .lst xs => some xs
  | .frl xs => some xs
  | .ref k => match μ[k]? with
    | some (.lst xs) => some xs
    | _ => none
  | _ => none
/-- a list that may be joined with another -/
def mview (μ : Mu) : Vl → Option (List Vl)
  | .lst xs => some xs
  | .ref k => match μ[k]? with
    | some (.lst xs) => some xs
    | _ => none
  | _ => none
def sview (μ : Mu) : Vl → Option (List Vl)
  | .tup xs => some xs
  | x => lview μ x
theorem ref_at {K : PySem.W.Frag} {c : Cf} {μ : Mu} {H : Hp} {v : V} {k : Nat} {m : Mo} (R : RM K c μ H) (r : Rep K c v (.ref k)) (h : μ[k]? = some m) : ∃ a, v = .ref a ∧ c.al[k]? = some a ∧ ObR K c (H a) m := by
  cases r with
  | ref e => exact ⟨_, rfl, e, (R.obj k _ m e h).2⟩
theorem mview_ref {μ : Mu} {k : Nat} {xs : List Vl} (h : mview μ (.ref k) = some xs) : μ[k]? = some (.lst xs) := by
  have h : (match μ[k]? with
    | some (.lst xs) => some xs
    | _ => none) = some xs := h
  split at h
  · rename_i ys e
    have e' : ys = xs := by simpa using h
    rw [e, e']
  · cases h
theorem mview_at {K : PySem.W.Frag} {c : Cf} {μ : Mu} {H : Hp} {v : V} {x : Vl} {xs : List Vl} (R : RM K c μ H) (r : Rep K c v x) (h : mview μ x = some xs) : ∃ a vs, v = .ref a ∧ H a = some (.lst vs) ∧ xs.length ≤ sizeLine ∧ Reps K c vs xs := by
  cases x with
  | lst ys =>
    cases r with
    | lst h1 hz h2 =>
      have e : ys = xs := by simpa [mview] using h
      subst e
      exact ⟨_, _, rfl, R.sub _ _ h1, hz, h2⟩
  | ref k =>
    obtain ⟨a, e1, _, vs, e2, hz, e3⟩ := ref_at R r (mview_ref h)
    exact ⟨a, vs, e1, e2, hz, e3⟩
  | _ => simp [mview] at h
theorem lview_at {K : PySem.W.Frag} {c : Cf} {μ : Mu} {H : Hp} {v : V} {x : Vl} {xs : List Vl} (R : RM K c μ H) (r : Rep K c v x) (h : lview μ x = some xs) : ∃ a vs, v = .ref a ∧ SqL K H a vs ∧ xs.length ≤ sizeLine ∧ Reps K c vs xs := by
  cases x with
  | lst ys =>
    obtain ⟨a, vs, e1, e2, hz, e3⟩ := mview_at (xs := xs) R r (by simpa [mview, lview] using h)
    exact ⟨a, vs, e1, SqL.of e2, hz, e3⟩
  | ref k =>
    obtain ⟨a, vs, e1, e2, hz, e3⟩ := mview_at (xs := xs) R r (by simpa [mview, lview] using h)
    exact ⟨a, vs, e1, SqL.of e2, hz, e3⟩
  | frl ys =>
    cases r with
    | frl h1 hz h2 =>
      have e : ys = xs := by simpa [lview] using h
      subst e
      exact ⟨_, _, rfl, same_l R.sub h1, hz, h2⟩
  | _ => simp [lview] at h
theorem sview_at {K : PySem.W.Frag} {c : Cf} {μ : Mu} {H : Hp} {v : V} {x : Vl} {xs : List Vl} (R : RM K c μ H) (r : Rep K c v x) (h : sview μ x = some xs) : ∃ a vs, v = .ref a ∧ (SqL K H a vs ∨ SqT K H a vs) ∧ xs.length ≤ sizeLine ∧ Reps K c vs xs := by
  cases x with
  | tup ys =>
    cases r with
    | tup h1 hz h2 =>
      have e : ys = xs := by simpa [sview] using h
      subst e
      exact ⟨_, _, rfl, .inr (same_t R.sub h1), hz, h2⟩
  | _ =>
    obtain ⟨a, vs, e1, e2, e3⟩ := lview_at (xs := xs) R r (by simpa [sview] using h)
    exact ⟨a, vs, e1, .inl e2, e3⟩
theorem tup_at {K : PySem.W.Frag} {c : Cf} {μ : Mu} {H : Hp} {v : V} {xs : List Vl} (R : RM K c μ H) (r : Rep K c v (.tup xs)) : ∃ a vs, v = .ref a ∧ SqT K H a vs ∧ xs.length ≤ sizeLine ∧ Reps K c vs xs := by
  cases r with
  | tup h1 hz h2 => exact ⟨_, _, rfl, same_t R.sub h1, hz, h2⟩

/-! ### new lists, new tuples -/
/-- a new list: one that will not change, or one that may -/
def newL (zs : List Vl) (μ : Mu) (Q : DK) : Prop := Q (.lst zs) μ ∨ Q (.ref μ.length) (μ ++ [.lst zs])
theorem sim_newL {K : PySem.W.Frag} {c : Cf} {μ : Mu} {H : Hp} {vs : List V} {zs : List Vl} {Q : DK} {P : VK} (R : RM K c μ H) (r : Reps K c vs zs) (hz : zs.length ≤ sizeLine) (h : newL zs μ Q)
    (k : ∀ c' z μ' v H', Ext c c' → RM K c' μ' H' → Rep K c' v z → Q z μ' → P v H') : ∀ p, H p = none → P (.ref p) (upd H p (.lst vs)) := by
  intro p hp
  rcases h with h | h
  · obtain ⟨R1, E1⟩ := R.still (o := .lst vs) hp
    exact k _ _ _ _ _ E1 R1 (.lst (by show upd c.Hd p (.lst vs) p = _; exact upd_same) hz (r.up E1.toExt0)) h
  · have E0 : Ext0 c ⟨c.al ++ [p], c.Hd, c.Fr⟩ := ⟨fun k a h => by
      show (c.al ++ [p])[k]? = some a
      rw [List.getElem?_append_left (List.getElem?_eq_some_iff.mp h).1]; exact h, Same.refl _⟩
    obtain ⟨R1, E1⟩ := R.fresh (o := .lst vs) (m := .lst zs) hp ⟨vs, rfl, hz, r.up E0⟩
    refine k _ _ _ _ _ E1 R1 (.ref ?_) h
    show (c.al ++ [p])[μ.length]? = some p
    rw [← R.len]; simp
theorem sim_newT {K : PySem.W.Frag} {c : Cf} {μ : Mu} {H : Hp} {vs : List V} {zs : List Vl} {Q : DK} {P : VK} (R : RM K c μ H) (r : Reps K c vs zs) (hz : zs.length ≤ sizeLine) (h : Q (.tup zs) μ)
    (k : ∀ c' z μ' v H', Ext c c' → RM K c' μ' H' → Rep K c' v z → Q z μ' → P v H') : ∀ p, H p = none → P (.ref p) (upd H p (.tup vs)) := by
  intro p hp
  obtain ⟨R1, E1⟩ := R.still (o := .tup vs) hp
  exact k _ _ _ _ _ E1 R1 (.tup (.inl (.inl (by show upd c.Hd p (.tup vs) p = _; exact upd_same))) hz (r.up E1.toExt0)) h

/-! ### arithmetic -/
def dI (C : Int → Int → Prop) (g : Int → Int → Vl) : D2 := fun x y μ Q => match x, y with
  | .int i, .int j => C i j ∧ Q (g i j) μ
  | _, _ => False
def dI0 (g : Int → Int → Vl) : D2 := fun x y μ Q => match x, y with
  | .int i, .int j => Q (g i j) μ
  | _, _ => False
theorem sim_I {K : PySem.W.Frag} {C : Int → Int → Prop} {g : Int → Int → V} {g' : Int → Int → Vl} (hg : ∀ i j c, Rep K c (g i j) (g' i j)) : Sim2 K (rI C g) (dI C g') := by
  intro c μ H vx vy x y Q P R rx ry h k
  unfold dI at h
  split at h
  · cases rx; cases ry
    exact ⟨_, _, rfl, rfl, h.1, k c _ μ _ H (Ext.refl c) R (hg _ _ c) h.2⟩
  · exact h.elim
theorem sim_I0 {K : PySem.W.Frag} {g : Int → Int → V} {g' : Int → Int → Vl} (hg : ∀ i j c, Rep K c (g i j) (g' i j)) : Sim2 K (rI0 g) (dI0 g') := by
  intro c μ H vx vy x y Q P R rx ry h k
  unfold dI0 at h
  split at h
  · cases rx; cases ry
    exact ⟨_, _, rfl, rfl, k c _ μ _ H (Ext.refl c) R (hg _ _ c) h⟩
  · exact h.elim
def rAddD (K : PySem.W.Frag) : R2 := fun x y H Q => rI0 (fun i j => .int (i + j)) x y H Q ∨ (rCatT K x y H Q ∨ rCat x y H Q)
/-- + : ints, tuples, lists -/
def dAdd : D2 := fun x y μ Q => match x, y with
  | .int i, .int j => Q (.int (i + j)) μ
  | .tup xs, .tup ys => xs ≠ [] ∧ xs.length + ys.length ≤ sizeLine ∧ Q (.tup (xs ++ ys)) μ
  | x, y => ∃ xs ys, mview μ x = some xs ∧ mview μ y = some ys ∧ xs.length + ys.length ≤ sizeLine ∧ newL (xs ++ ys) μ Q
theorem Reps.nil_iff {K : PySem.W.Frag} {c : Cf} {vs : List V} {xs : List Vl} (r : Reps K c vs xs) : vs = [] ↔ xs = [] := by
  have := r.length
  constructor
  · intro e; rw [e] at this; exact List.eq_nil_of_length_eq_zero this.symm
  · intro e; rw [e] at this; exact List.eq_nil_of_length_eq_zero this
theorem sim_add {K : PySem.W.Frag} : Sim2 K (rAddD K) dAdd := by
  intro c μ H vx vy x y Q P R rx ry h k
  unfold dAdd at h
  split at h
  · cases rx; cases ry
    exact .inl ⟨_, _, rfl, rfl, k c _ μ _ H (Ext.refl c) R (.int _) h⟩
  · rename_i xs ys
    obtain ⟨hne, hz, q⟩ := h
    obtain ⟨a, vs, e1, t1, z1, r1⟩ := tup_at R rx
    obtain ⟨b, ws, e2, t2, z2, r2⟩ := tup_at R ry
    refine .inr (.inl ⟨a, b, vs, ws, e1, e2, t1, t2, fun z => hne (r1.nil_iff.mp z), by rw [r1.length, r2.length]; exact hz, fun z => ?_, fun z => ?_⟩)
    · have z' : ys = [] := r2.nil_iff.mp z
      subst z'
      rw [List.append_nil] at q
      rw [← e1]
      exact k c _ μ _ H (Ext.refl c) R rx q
    · exact sim_newT R (r1.append r2) (by rw [List.length_append]; exact hz) q k
  · obtain ⟨xs, ys, h1, h2, hz, q⟩ := h
    obtain ⟨a, vs, e1, t1, z1, r1⟩ := mview_at R rx h1
    obtain ⟨b, ws, e2, t2, z2, r2⟩ := mview_at R ry h2
    exact .inr (.inr ⟨a, b, vs, ws, e1, e2, t1, t2, by rw [r1.length, r2.length]; exact hz, sim_newL R (r1.append r2) (by rw [List.length_append]; exact hz) q k⟩)
theorem q_add (ha : QE X a ta da) (hb : QE X b tb db) : QE X (.BinOp a .Add b pos) (tOp (rAddD X.K) ta tb) (dOp dAdd da db) := q_op (opr_or op_add (opr_or op_catT op_cat)) sim_add ha hb
theorem q_sub (ha : QE X a ta da) (hb : QE X b tb db) : QE X (.BinOp a .Sub b pos) (tOp (rI0 fun i j => .int (i - j)) ta tb) (dOp (dI0 fun i j => .int (i - j)) da db) := q_op op_sub (sim_I0 fun _ _ _ => .int _) ha hb
/-- products: together below so many bits, or one of them short -/
def MulOk (i j : Int) : Prop := i.natAbs < 2 ^ 64 ∨ j.natAbs < 2 ^ 64 ∨ i.natAbs.log2 + j.natAbs.log2 < 134000000
theorem MulOk.ok {i j : Int} (h : MulOk i j) : IntMulOk i j := by
  rcases h with h | h | h
  · exact IntMulOk.of_left (intBits_le_64 (by omega) (by omega))
  · exact IntMulOk.of_right (intBits_le_64 (by omega) (by omega))
  · have b : ∀ x : Int, Builtin.Int.intBits x ≤ x.natAbs.log2 + 1 := fun x => by
      unfold Builtin.Int.intBits
      split <;> omega
    have h1 := b i
    have h2 := b j
    have e : bitsLine = 134217728 := by decide
    unfold IntMulOk
    intro z
    rw [Bool.and_eq_true] at z
    have z2 := z.2
    unfold Builtin.Int.intTooBig at z2
    have z3 := of_decide_eq_true z2
    rw [e] at z3
    omega
theorem op_mulD : OpR X (binaryOp .Mult) (rI MulOk fun i j => .int (i * j)) := by
  intro pins s σ H x y v u Q I rx ry h
  obtain ⟨i, j, e1, e2, hc, q⟩ := h
  subst e1; subst e2
  obtain ⟨t, rfl⟩ := rx
  obtain ⟨t', rfl⟩ := ry
  exact mul_int ⟨.int _, H, I.tok _, ⟨_, rfl⟩, q⟩ hc.ok
theorem op_fdivD : OpR X (binaryOp .FloorDiv) (rI (fun _ j => j ≠ 0 ∧ j.natAbs.log2 < 9000) fun i j => .int (i.fdiv j)) := by
  intro pins s σ H x y v u Q I rx ry h
  obtain ⟨i, j, e1, e2, hc, q⟩ := h
  subst e1; subst e2
  obtain ⟨t, rfl⟩ := rx
  obtain ⟨t', rfl⟩ := ry
  exact floordiv_int hc.1 ⟨.int _, H, I.tok _, ⟨_, rfl⟩, q⟩ (.inl (PyProof.noPylong_of_log2 hc.2))

theorem q_fdiv (ha : QE X a ta da) (hb : QE X b tb db) : QE X (.BinOp a .FloorDiv b pos) (tOp (rI (fun _ j => j ≠ 0 ∧ j.natAbs.log2 < 9000) fun i j => .int (i.fdiv j)) ta tb) (dOp (dI (fun _ j => j ≠ 0 ∧ j.natAbs.log2 < 9000) fun i j => .int (i.fdiv j)) da db) :=
  q_op op_fdivD (sim_I fun _ _ _ => .int _) ha hb
theorem q_mod (ha : QE X a ta da) (hb : QE X b tb db) : QE X (.BinOp a .Mod b pos) (tOp (rI (fun _ j => j ≠ 0) fun i j => .int (i.fmod j)) ta tb) (dOp (dI (fun _ j => j ≠ 0) fun i j => .int (i.fmod j)) da db) :=
  q_op op_modN (sim_I fun _ _ _ => .int _) ha hb
theorem q_pow (ha : QE X a ta da) (hb : QE X b tb db) : QE X (.BinOp a .Pow b pos) (tOp (rI CPow fun i j => .int (i ^ j.toNat)) ta tb) (dOp (dI CPow fun i j => .int (i ^ j.toNat)) da db) :=
  q_op op_pow (sim_I fun _ _ _ => .int _) ha hb

/-! ### products -/
theorem once_meets (l : Addr) (items : Array Value) (n : Nat) (dd : Option Addr) (sl : Array (Option Value)) (u : Tok) (he : items.isEmpty = false) :
    Meets (Builtin.«tuple.__mul__» ⟨[.ref l, .int 1 u], []⟩) (fun _ R s => s.heap.get? l = some { cls := .type "tuple", dict := dd, data := .seq items n, slots := sl } ∧ R (.ok (.ret (Value.ref l))) s) :=
  .of_wp fun prog w A R s h => by
    obtain ⟨hp, g, d, tk, os⟩ := s
    obtain ⟨hl, h⟩ := h
    have f1 := AutoSeq1.idx_int
    wp_walk using wpAny_loadPart' hl
    repeat (first
      | (refine wpAny_ite_false (by decide) ?_; wp_walk using wpAny_loadPart' hl)
      | (refine wpAny_ite_true (by simp) ?_; wp_walk using wpAny_loadPart' hl)
      | (refine wpAny_ite_true (by decide) ?_; wp_walk using wpAny_loadPart' hl))
    exact ⟨_, rfl, h⟩
def rOnce (K : PySem.W.Frag) : R2 := fun x y H Q => ∃ l xs, x = .ref l ∧ y = .int 1 ∧ SqT K H l xs ∧ xs ≠ [] ∧ Q (.ref l) H
theorem op_once : OpR X (binaryOp .Mult) (rOnce X.K) := by
  intro pins s σ H x y v u Q I rx ry h
  obtain ⟨l, xs, e1, e2, hT, hne, q⟩ := h
  subst e1; subst e2
  cases rx
  obtain ⟨t, rfl⟩ := ry
  obtain ⟨its, r, ⟨⟨cls, dd, data, sl⟩, ho, hc, n, hd⟩, hs⟩ := I.tuple hT
  simp only at hc hd
  subst hc hd
  have hi : its.toArray.isEmpty = false := by
    cases its with
    | nil => exact absurd (List.eq_nil_of_length_eq_zero r.length) hne
    | cons p q => rfl
  refine wpAny_binaryOp_repeat_ref (T := "tuple") (U := "int") (by decide) ⟨_, ho, rfl⟩ (fun s' => typeIs_int s' 1 t) noFill_tuple_mul F.fills_int_mul F.slot_int_rmul repeat_tuple F.slot_int_index.lookup ?_
  refine call_meets F.slot_int_rmul (typeIs_int s 1 t) F.entry_int_rmul (F.args_int_rmul_2 _ _) (int_rmul_tuple 1 t l its.toArray n dd sl) ⟨ho, rfl, ⟨_, ho, rfl⟩, ?_⟩
  refine call_meets F.slot_tuple_mul ⟨_, ho, rfl⟩ F.entry_tuple_mul (F.args_tuple_mul_2 _ _) (once_meets l its.toArray n dd sl t hi) ⟨ho, ?_⟩
  exact ⟨.ref l, H, I, rfl, q⟩
def rMulD (K : PySem.W.Frag) : R2 := fun x y H Q => rI MulOk (fun i j => .int (i * j)) x y H Q ∨ (rOnce K x y H Q ∨ (rRepT K x y H Q ∨ rRep x y H Q))
/-- * : ints; a tuple, a list times an int -/
def dMul : D2 := fun x y μ Q => match x, y with
  | .int i, .int j => MulOk i j ∧ Q (.int (i * j)) μ
  | .tup xs, .int k => xs ≠ [] ∧ 1 ≤ k ∧ k ≤ 1000 ∧ xs.length ≤ 1000 ∧ Q (.tup (List.replicate k.toNat xs).flatten) μ
  | x, .int k => ∃ xs, mview μ x = some xs ∧ -(2 ^ 63) ≤ k ∧ k < 2 ^ 63 ∧ xs.length * k.toNat ≤ sizeLine ∧ newL (List.replicate k.toNat xs).flatten μ Q
  | _, _ => False
theorem Reps.rep {K : PySem.W.Frag} {c : Cf} {vs : List V} {xs : List Vl} (r : Reps K c vs xs) : ∀ n : Nat, Reps K c (List.replicate n vs).flatten (List.replicate n xs).flatten
  | 0 => .nil
  | n + 1 => by
    rw [List.replicate_succ, List.replicate_succ, List.flatten_cons, List.flatten_cons]
    exact r.append (Reps.rep r n)
theorem rep_len {α : Type} (xs : List α) : ∀ n : Nat, (List.replicate n xs).flatten.length = xs.length * n
  | 0 => rfl
  | n + 1 => by
    rw [List.replicate_succ, List.flatten_cons, List.length_append, rep_len xs n, Nat.mul_succ, Nat.add_comm]
theorem sim_mul {K : PySem.W.Frag} : Sim2 K (rMulD K) dMul := by
  intro c μ H vx vy x y Q P R rx ry h k
  unfold dMul at h
  split at h
  · cases rx; cases ry
    exact .inl ⟨_, _, rfl, rfl, h.1, k c _ μ _ H (Ext.refl c) R (.int _) h.2⟩
  · rename_i xs n
    obtain ⟨hne, h1, h2, h3, q⟩ := h
    obtain ⟨a, vs, e1, t1, z1, r1⟩ := tup_at R rx
    cases ry
    by_cases hn : n = 1
    · subst hn
      refine .inr (.inl ⟨a, vs, e1, rfl, t1, fun z => hne (r1.nil_iff.mp z), ?_⟩)
      rw [← e1]
      refine k c _ μ _ H (Ext.refl c) R rx ?_
      have e : (List.replicate (1 : Int).toNat xs).flatten = xs := by
        show ([xs] : List (List Vl)).flatten = xs
        simp
      rw [e] at q; exact q
    · refine .inr (.inr (.inl ⟨a, n, vs, e1, rfl, t1, fun z => hne (r1.nil_iff.mp z), by omega, h2, by rw [r1.length]; exact h3, sim_newT R (r1.rep _) ?_ q k⟩))
      rw [rep_len, sizeLine_eq]
      have a1 : xs.length * n.toNat ≤ 1000 * 1000 := Nat.mul_le_mul h3 (by omega)
      omega
  · obtain ⟨xs, h1, h2, h3, h4, q⟩ := h
    obtain ⟨a, vs, e1, t1, z1, r1⟩ := mview_at R rx h1
    cases ry
    exact .inr (.inr (.inr ⟨a, _, vs, e1, rfl, t1, h2, h3, by rw [r1.length]; exact h4, sim_newL R (r1.rep _) (by rw [rep_len]; exact h4) q k⟩))
  · exact h.elim
theorem q_mul (ha : QE X a ta da) (hb : QE X b tb db) : QE X (.BinOp a .Mult b pos) (tOp (rMulD X.K) ta tb) (dOp dMul da db) := q_op (opr_or op_mulD (opr_or op_once (opr_or op_repT op_rep))) sim_mul ha hb

/-! ### one-place -/
def dNeg (da : DE) : DE := fun ρ μ Q => da ρ μ fun x μ1 => match x with
  | .int i => Q (.int (-i)) μ1
  | _ => False
theorem q_neg (ha : QE X a ta da) : QE X (.UnaryOp .USub a pos) (tUn (rU fun i => .int (-i)) ta) (dNeg da) := by
  refine ⟨pe_un un_neg ha.p, fun c ρ μ σ H Q P R S h k => ?_⟩
  refine ha.s c ρ μ σ H _ _ R S h fun c1 x μ1 v H1 E1 R1 r1 q1 => ?_
  split at q1
  · cases r1
    exact ⟨_, rfl, k c1 _ μ1 _ H1 E1 R1 (.int _) q1⟩
  · exact q1.elim

/-! ### comparisons -/
theorem q_cmp {op : CmpOp} {r : R2} {d : D2} (ho : OpR X (compareOp op) r) (hs : Sim2 X.K r d) (ha : QE X a ta da) (hb : QE X b tb db) (hm : behindInMarks op b = false) : QE X (.Compare a [op] [b] pos) (tOp r ta tb) (dOp d da db) := ⟨pe_cmpR ho ha.p hb.p hm, sim_op hs ha.s hb.s⟩
abbrev dLt : D2 := dI0 fun i j => .bl (decide (i < j))
abbrev dLe : D2 := dI0 fun i j => .bl (decide (i ≤ j))
abbrev dGt : D2 := dI0 fun i j => .bl (decide (j < i))
abbrev dGe : D2 := dI0 fun i j => .bl (decide (j ≤ i))
theorem sim_lt {K : PySem.W.Frag} : Sim2 K (rI0 fun i j => .bl (decide (i < j))) dLt := sim_I0 fun _ _ _ => .bl _
theorem sim_le {K : PySem.W.Frag} : Sim2 K (rI0 fun i j => .bl (decide (i ≤ j))) dLe := sim_I0 fun _ _ _ => .bl _
theorem sim_gt {K : PySem.W.Frag} : Sim2 K (rI0 fun i j => .bl (decide (j < i))) dGt := sim_I0 fun _ _ _ => .bl _
theorem sim_ge {K : PySem.W.Frag} : Sim2 K (rI0 fun i j => .bl (decide (j ≤ i))) dGe := sim_I0 fun _ _ _ => .bl _
theorem q_lt (ha : QE X a ta da) (hb : QE X b tb db) : QE X (.Compare a [.Lt] [b] pos) (tOp (rI0 fun i j => .bl (decide (i < j))) ta tb) (dOp dLt da db) := q_cmp op_lt sim_lt ha hb (nomark _)
theorem q_le (ha : QE X a ta da) (hb : QE X b tb db) : QE X (.Compare a [.LtE] [b] pos) (tOp (rI0 fun i j => .bl (decide (i ≤ j))) ta tb) (dOp dLe da db) := q_cmp op_le sim_le ha hb (nomark _)
theorem q_gt (ha : QE X a ta da) (hb : QE X b tb db) : QE X (.Compare a [.Gt] [b] pos) (tOp (rI0 fun i j => .bl (decide (j < i))) ta tb) (dOp dGt da db) := q_cmp op_gt sim_gt ha hb (nomark _)
theorem q_ge (ha : QE X a ta da) (hb : QE X b tb db) : QE X (.Compare a [.GtE] [b] pos) (tOp (rI0 fun i j => .bl (decide (j ≤ i))) ta tb) (dOp dGe da db) := q_cmp op_ge sim_ge ha hb (nomark _)

/-! ### data: what == and repr look at -/
mutual
def dat : Vl → Option PyData
  | .non => some .none
  | .bl b => some (.bool b)
  | .int i => some (.int i)
  | .str x => some (.str x)
  | .tup xs => (dats xs).map .tuple
  | .lst xs => (dats xs).map .list
  | .frl _ => none
  | .ref _ => none
  | .op _ => none
def dats : List Vl → Option (List PyData)
  | [] => some []
  | x :: xs => match dat x, dats xs with
    | some d, some ds => some (d :: ds)
    | _, _ => none
end
def datM (μ : Mu) : Vl → Option PyData
  | .ref k => match μ[k]? with
    | some (.lst xs) => (dats xs).map .list
    | _ => none
  | x => dat x
mutual
theorem dp_of {K : PySem.W.Frag} {c : Cf} {H : Hp} (hs : Same c.Hd H) : ∀ (x : Vl) (d : PyData) (v : V), dat x = some d → Rep K c v x → Dp K H v d
  | .non, d, v, e, r => by
    cases r
    rw [dat] at e
    cases e; exact .non
  | .bl b, d, v, e, r => by
    cases r
    rw [dat] at e
    cases e; exact .bl b
  | .int i, d, v, e, r => by
    cases r
    rw [dat] at e
    cases e; exact .int i
  | .str x, d, v, e, r => by
    cases r
    rw [dat] at e
    cases e; exact .str x
  | .tup xs, d, v, e, r => by
    rw [dat] at e
    cases hx : dats xs with
    | none => rw [hx] at e; cases e
    | some ds =>
      rw [hx] at e
      cases e
      cases r with
      | tup h1 hz h2 => exact .tup (same_t hs h1) (dpAll_of hs xs ds _ hx h2)
  | .lst xs, d, v, e, r => by
    rw [dat] at e
    cases hx : dats xs with
    | none => rw [hx] at e; cases e
    | some ds =>
      rw [hx] at e
      cases e
      cases r with
      | lst h1 hz h2 => exact .lst (SqL.of (hs _ _ h1)) (dpAll_of hs xs ds _ hx h2)
  | .frl _, d, v, e, r => by rw [dat] at e; cases e
  | .ref _, d, v, e, r => by rw [dat] at e; cases e
  | .op _, d, v, e, r => by rw [dat] at e; cases e
theorem dpAll_of {K : PySem.W.Frag} {c : Cf} {H : Hp} (hs : Same c.Hd H) : ∀ (xs : List Vl) (ds : List PyData) (vs : List V), dats xs = some ds → Reps K c vs xs → DpAll K H vs ds
  | [], ds, vs, e, r => by
    cases r
    rw [dats] at e
    cases e; exact .nil
  | x :: xs, ds, vs, e, r => by
    rw [dats] at e
    cases hx : dat x with
    | none => rw [hx] at e; cases e
    | some d =>
      cases hy : dats xs with
      | none => rw [hx, hy] at e; cases e
      | some es =>
        rw [hx, hy] at e
        cases e
        cases r with
        | cons h1 h2 => exact .cons (dp_of hs x d _ hx h1) (dpAll_of hs xs es _ hy h2)
end
theorem dpM_of {K : PySem.W.Frag} {c : Cf} {μ : Mu} {H : Hp} (R : RM K c μ H) {x : Vl} {d : PyData} {v : V} (e : datM μ x = some d) (r : Rep K c v x) : Dp K H v d := by
  cases x with
  | ref k =>
    have e : (match μ[k]? with
      | some (.lst xs) => (dats xs).map PyData.list
      | _ => none) = some d := e
    split at e
    · rename_i ys ek
      cases hx : dats ys with
      | none => rw [hx] at e; cases e
      | some ds =>
        rw [hx] at e
        cases e
        obtain ⟨a, e1, _, vs, e2, hz, e3⟩ := ref_at R r ek
        subst e1
        exact .lst (SqL.of e2) (dpAll_of R.sub ys ds _ hx e3)
    · cases e
  | _ => exact dp_of R.sub _ d v (by simpa [datM] using e) r
def datEq (neg : Bool) (x y : Vl) (μ : Mu) (Q : DK) : Prop := ∃ d e, datM μ x = some d ∧ datM μ y = some e ∧ SeqAt.shaped d = true ∧ SeqAt.shaped e = true ∧ Q (.bl (PyData.eqv d e != neg)) μ
def dEqN (neg : Bool) : D2 := fun x y μ Q => match x, y with
  | .int i, .int j => Q (.bl (decide (i = j) != neg)) μ
  | .bl i, .bl j => Q (.bl (decide (i = j) != neg)) μ
  | .str i, .str j => Q (.bl (decide (i = j) != neg)) μ
  | .non, .non => Q (.bl (true != neg)) μ
  | x, y => datEq neg x y μ Q
abbrev dEq : D2 := dEqN false
abbrev dNe : D2 := dEqN true
def rEqU (K : PySem.W.Frag) : R2 := fun x y H Q => rEq x y H Q ∨ rEqD K x y H Q
def rNeU (K : PySem.W.Frag) : R2 := fun x y H Q => rNe x y H Q ∨ rNeD K x y H Q
theorem sim_eq {K : PySem.W.Frag} : Sim2 K (rEqU K) dEq := by
  intro c μ H vx vy x y Q P R rx ry h k
  have go : ∀ (b : Bool), Q (.bl (b != false)) μ → P (.bl b) H := fun b q => by
    rw [Bool.bne_false] at q
    exact k c _ μ _ H (Ext.refl c) R (.bl _) q
  unfold dEq dEqN at h
  split at h
  · cases rx; cases ry
    rename_i i j
    refine .inl ⟨rfl, ?_⟩
    have e : decide (V.int i = V.int j) = decide (i = j) := by simp
    rw [e]; exact go _ h
  · cases rx; cases ry
    rename_i i j
    refine .inl ⟨rfl, ?_⟩
    have e : decide (V.bl i = V.bl j) = decide (i = j) := by simp
    rw [e]; exact go _ h
  · cases rx; cases ry
    rename_i i j
    refine .inl ⟨rfl, ?_⟩
    have e : decide (V.str i = V.str j) = decide (i = j) := by simp
    rw [e]; exact go _ h
  · cases rx; cases ry
    exact .inl ⟨rfl, go true h⟩
  · obtain ⟨d, e, h1, h2, s1, s2, q⟩ := h
    exact .inr ⟨d, e, dpM_of R h1 rx, dpM_of R h2 ry, s1, s2, go _ q⟩
theorem sim_ne {K : PySem.W.Frag} : Sim2 K (rNeU K) dNe := by
  intro c μ H vx vy x y Q P R rx ry h k
  have go : ∀ (b : Bool), Q (.bl (b != true)) μ → P (.bl (!b)) H := fun b q => by
    rw [Bool.bne_true] at q
    exact k c _ μ _ H (Ext.refl c) R (.bl _) q
  unfold dNe dEqN at h
  split at h
  · cases rx; cases ry
    rename_i i j
    refine .inl ⟨rfl, ?_⟩
    have e : decide (V.int i = V.int j) = decide (i = j) := by simp
    rw [e]; exact go _ h
  · cases rx; cases ry
    rename_i i j
    refine .inl ⟨rfl, ?_⟩
    have e : decide (V.bl i = V.bl j) = decide (i = j) := by simp
    rw [e]; exact go _ h
  · cases rx; cases ry
    rename_i i j
    refine .inl ⟨rfl, ?_⟩
    have e : decide (V.str i = V.str j) = decide (i = j) := by simp
    rw [e]; exact go _ h
  · cases rx; cases ry
    exact .inl ⟨rfl, go true h⟩
  · obtain ⟨d, e, h1, h2, s1, s2, q⟩ := h
    exact .inr ⟨d, e, dpM_of R h1 rx, dpM_of R h2 ry, s1, s2, go _ q⟩
theorem q_eq {k : Nat} (hr : Room k X.A) (ha : QE X a ta da) (hb : QE X b tb db) : QE X (.Compare a [.Eq] [b] pos) (tOp (rEqU X.K) ta tb) (dOp dEq da db) := q_cmp (opr_or op_eq (op_eqD hr.units)) sim_eq ha hb (nomark _)
theorem q_ne {k : Nat} (hr : Room k X.A) (ha : QE X a ta da) (hb : QE X b tb db) : QE X (.Compare a [.NotEq] [b] pos) (tOp (rNeU X.K) ta tb) (dOp dNe da db) := q_cmp (opr_or op_ne (op_neD hr.units)) sim_ne ha hb (nomark _)
/-- is None, is not None; is of bools by written True -/
def dIsN (neg : Bool) : D2 := fun x y μ Q => match y with
  | .non => match x with
    | .non => Q (.bl (!neg)) μ
    | .op _ => False
    | _ => Q (.bl neg) μ
  | _ => False
theorem nonIs {K : PySem.W.Frag} {c : Cf} {v : V} {x : Vl} (r : Rep K c v x) (h : ∀ u, x ≠ .op u) : v = .non ↔ x = .non := by
  cases r with
  | op u => exact absurd rfl (h _)
  | _ => simp
theorem sim_isN {K : PySem.W.Frag} : Sim2 K (fun x y H Q => y = .non ∧ Q (.bl (decide (x = .non))) H) (dIsN false) := by
  intro c μ H vx vy x y Q P R rx ry h k
  unfold dIsN at h
  split at h
  · cases ry
    refine ⟨rfl, ?_⟩
    split at h
    · cases rx
      exact k c _ μ _ H (Ext.refl c) R (.bl _) h
    · exact h.elim
    · rename_i h1 h2
      have e : ¬ vx = .non := fun z => h1 ((nonIs rx h2).mp z)
      rw [decide_eq_false e]
      exact k c _ μ _ H (Ext.refl c) R (.bl _) h
  · exact h.elim
theorem sim_notN {K : PySem.W.Frag} : Sim2 K (fun x y H Q => y = .non ∧ Q (.bl (!decide (x = .non))) H) (dIsN true) := by
  intro c μ H vx vy x y Q P R rx ry h k
  unfold dIsN at h
  split at h
  · cases ry
    refine ⟨rfl, ?_⟩
    split at h
    · cases rx
      exact k c _ μ _ H (Ext.refl c) R (.bl _) h
    · exact h.elim
    · rename_i h1 h2
      have e : ¬ vx = .non := fun z => h1 ((nonIs rx h2).mp z)
      rw [decide_eq_false e]
      exact k c _ μ _ H (Ext.refl c) R (.bl _) h
  · exact h.elim
theorem q_isN (ha : QE X a ta da) (hb : QE X b tb db) : QE X (.Compare a [.Is] [b] pos) (tOp (fun x y H Q => y = .non ∧ Q (.bl (decide (x = .non))) H) ta tb) (dOp (dIsN false) da db) := q_cmp op_isN sim_isN ha hb (nomark _)
theorem q_notN (ha : QE X a ta da) (hb : QE X b tb db) : QE X (.Compare a [.IsNot] [b] pos) (tOp (fun x y H Q => y = .non ∧ Q (.bl (!decide (x = .non))) H) ta tb) (dOp (dIsN true) da db) := q_cmp op_notN sim_notN ha hb (nomark _)
/-- a < b < c -/
def dChain (d d' : D2) (da db dc : DE) : DE := fun ρ μ Q => da ρ μ fun x μ1 => db ρ μ1 fun y μ2 => d x y μ2 fun z μ3 => match z with
  | .bl true => dc ρ μ3 fun w μ4 => d' y w μ4 Q
  | .bl false => Q (.bl false) μ3
  | _ => False
theorem q_chain {cc : Expr} {tc : TE} {dc : DE} {op op' : CmpOp} {r r' : R2} {d d' : D2} (ho : OpR X (compareOp op) r) (hs : Sim2 X.K r d) (ho' : OpR X (compareOp op') r') (hs' : Sim2 X.K r' d') (ha : QE X a ta da) (hb : QE X b tb db) (hc : QE X cc tc dc)
    (hm : lastMarks [op, op'] [b, cc] = false := by with_unfolding_all rfl) : QE X (.Compare a [op, op'] [b, cc] pos) (tChain r r' ta tb tc) (dChain d d' da db dc) := by
  refine ⟨pe_chain ho ho' ha.p hb.p hc.p hm, fun c ρ μ σ H Q P R S h k => ?_⟩
  refine ha.s c ρ μ σ H _ _ R S h fun c1 x μ1 v H1 E1 R1 r1 q1 => ?_
  refine hb.s c1 ρ μ1 σ H1 _ _ R1 (S.up E1.toExt0) q1 fun c2 y μ2 u H2 E2 R2 r2 q2 => ?_
  refine hs c2 μ2 H2 v u x y _ _ R2 (r1.up E2.toExt0) r2 q2 fun c3 z μ3 w H3 E3 R3 r3 q3 => ?_
  have E13 := (E1.trans E2).trans E3
  split at q3
  · cases r3
    refine ⟨true, rfl, ?_⟩
    rw [if_pos rfl]
    refine hc.s c3 ρ μ3 σ H3 _ _ R3 (S.up E13.toExt0) q3 fun c4 w4 μ4 v4 H4 E4 R4 r4 q4 => ?_
    exact hs' c4 μ4 H4 u v4 y w4 Q P R4 (r2.up (E3.trans E4).toExt0) r4 q4 fun c5 z5 μ5 v5 H5 E5 => k c5 z5 μ5 v5 H5 ((E13.trans E4).trans E5)
  · cases r3
    refine ⟨false, rfl, ?_⟩
    rw [if_neg Bool.false_ne_true]
    exact k c3 _ μ3 _ H3 E13 R3 (.bl _) q3
  · exact q3.elim

/-! ### tests -/
def dTest (da : DE) : DT := fun ρ μ Q => da ρ μ fun x μ1 => match x with
  | .bl b => Q b μ1
  | _ => False
theorem sim_test {K : PySem.W.Frag} (ha : SimE K ta da) : SimT K (tTest ta) (dTest da) := by
  intro c ρ μ σ H Q P R S h k
  refine ha c ρ μ σ H _ _ R S h fun c1 x μ1 v H1 E1 R1 r1 q1 => ?_
  split at q1
  · cases r1
    exact ⟨_, rfl, k c1 _ μ1 H1 E1 R1 q1⟩
  · exact q1.elim
theorem sim_testB {K : PySem.W.Frag} (ha : SimE K ta da) : SimT K (tB ta) (dTest da) := by
  intro c ρ μ σ H Q P R S h k
  refine ha c ρ μ σ H _ _ R S h fun c1 x μ1 v H1 E1 R1 r1 q1 => ?_
  split at q1
  · cases r1
    exact ⟨_, rfl, k c1 _ μ1 H1 E1 R1 q1⟩
  · exact q1.elim
theorem qt_cmp {op : CmpOp} {r : R2} {d : D2} (ho : OpR X (compareOp op) r) (hs : Sim2 X.K r d) (ha : QE X a ta da) (hb : QE X b tb db) (hm : behindInMarks op b = false) : QT X (.Compare a [op] [b] pos) (tTest (tOp r ta tb)) (dTest (dOp d da db)) := ⟨pt_cmpR ho ha.p hb.p hm, sim_test (sim_op hs ha.s hb.s)⟩
theorem qt_lt (ha : QE X a ta da) (hb : QE X b tb db) : QT X (.Compare a [.Lt] [b] pos) (tTest (tOp (rI0 fun i j => .bl (decide (i < j))) ta tb)) (dTest (dOp dLt da db)) := qt_cmp op_lt sim_lt ha hb (nomark _)
theorem qt_le (ha : QE X a ta da) (hb : QE X b tb db) : QT X (.Compare a [.LtE] [b] pos) (tTest (tOp (rI0 fun i j => .bl (decide (i ≤ j))) ta tb)) (dTest (dOp dLe da db)) := qt_cmp op_le sim_le ha hb (nomark _)
theorem qt_gt (ha : QE X a ta da) (hb : QE X b tb db) : QT X (.Compare a [.Gt] [b] pos) (tTest (tOp (rI0 fun i j => .bl (decide (j < i))) ta tb)) (dTest (dOp dGt da db)) := qt_cmp op_gt sim_gt ha hb (nomark _)
theorem qt_ge (ha : QE X a ta da) (hb : QE X b tb db) : QT X (.Compare a [.GtE] [b] pos) (tTest (tOp (rI0 fun i j => .bl (decide (j ≤ i))) ta tb)) (dTest (dOp dGe da db)) := qt_cmp op_ge sim_ge ha hb (nomark _)
theorem qt_eq {k : Nat} (hr : Room k X.A) (ha : QE X a ta da) (hb : QE X b tb db) : QT X (.Compare a [.Eq] [b] pos) (tTest (tOp (rEqU X.K) ta tb)) (dTest (dOp dEq da db)) := qt_cmp (opr_or op_eq (op_eqD hr.units)) sim_eq ha hb (nomark _)
theorem qt_ne {k : Nat} (hr : Room k X.A) (ha : QE X a ta da) (hb : QE X b tb db) : QT X (.Compare a [.NotEq] [b] pos) (tTest (tOp (rNeU X.K) ta tb)) (dTest (dOp dNe da db)) := qt_cmp (opr_or op_ne (op_neD hr.units)) sim_ne ha hb (nomark _)
theorem qt_isN (ha : QE X a ta da) (hb : QE X b tb db) : QT X (.Compare a [.Is] [b] pos) (tTest (tOp (fun x y H Q => y = .non ∧ Q (.bl (decide (x = .non))) H) ta tb)) (dTest (dOp (dIsN false) da db)) := qt_cmp op_isN sim_isN ha hb (nomark _)
theorem qt_notN (ha : QE X a ta da) (hb : QE X b tb db) : QT X (.Compare a [.IsNot] [b] pos) (tTest (tOp (fun x y H Q => y = .non ∧ Q (.bl (!decide (x = .non))) H) ta tb)) (dTest (dOp (dIsN true) da db)) := qt_cmp op_notN sim_notN ha hb (nomark _)
theorem qt_chain {cc : Expr} {tc : TE} {dc : DE} {op op' : CmpOp} {r r' : R2} {d d' : D2} (ho : OpR X (compareOp op) r) (hs : Sim2 X.K r d) (ho' : OpR X (compareOp op') r') (hs' : Sim2 X.K r' d') (ha : QE X a ta da) (hb : QE X b tb db) (hc : QE X cc tc dc)
    (hm : lastMarks [op, op'] [b, cc] = false := by with_unfolding_all rfl) : QT X (.Compare a [op, op'] [b, cc] pos) (tTest (tChain r r' ta tb tc)) (dTest (dChain d d' da db dc)) :=
  ⟨pt_chain ho ho' ha.p hb.p hc.p hm, sim_test (q_chain (pos := pos) ho hs ho' hs' ha hb hc hm).s⟩
/-- a value True or False as a test -/
theorem qt_val (ha : QE X a ta da) (he : ∀ whole, isTrue a X.env whole = (do let v ← whole; standAt a.pos; holding [v] (truthy v)) := by intro _; rfl) : QT X a (tB ta) (dTest da) := ⟨pt_val ha.p he, sim_testB ha.s⟩
variable {tt uu : TT} {dt du : DT} {rest : List Expr}
def dNotT (dt : DT) : DT := fun ρ μ Q => dt ρ μ fun b μ1 => Q (!b) μ1
theorem qt_not (ha : QT X a tt dt) : QT X (.UnaryOp .Not a pos) (tNot tt) (dNotT dt) := by
  refine ⟨pt_not ha.p, fun c ρ μ σ H Q P R S h k => ?_⟩
  exact ha.s c ρ μ σ H _ _ R S h fun c1 b μ1 H1 E1 R1 q1 => k c1 _ μ1 H1 E1 R1 q1
def dAndT (dt du : DT) : DT := fun ρ μ Q => dt ρ μ fun b μ1 => match b with
  | true => du ρ μ1 Q
  | false => Q false μ1
def dOrT (dt du : DT) : DT := fun ρ μ Q => dt ρ μ fun b μ1 => match b with
  | true => Q true μ1
  | false => du ρ μ1 Q
theorem sim_and {K : PySem.W.Frag} (h1 : SimT K tt dt) (h2 : SimT K uu du) : SimT K (tAnd tt uu) (dAndT dt du) := by
  intro c ρ μ σ H Q P R S h k
  refine h1 c ρ μ σ H _ _ R S h fun c1 b μ1 H1 E1 R1 q1 => ?_
  cases b with
  | true =>
    rw [if_pos rfl]
    exact h2 c1 ρ μ1 σ H1 Q P R1 (S.up E1.toExt0) q1 fun c2 b2 μ2 H2 E2 => k c2 b2 μ2 H2 (E1.trans E2)
  | false =>
    rw [if_neg Bool.false_ne_true]
    exact k c1 false μ1 H1 E1 R1 q1
theorem sim_or {K : PySem.W.Frag} (h1 : SimT K tt dt) (h2 : SimT K uu du) : SimT K (tOr tt uu) (dOrT dt du) := by
  intro c ρ μ σ H Q P R S h k
  refine h1 c ρ μ σ H _ _ R S h fun c1 b μ1 H1 E1 R1 q1 => ?_
  cases b with
  | true =>
    rw [if_pos rfl]
    exact k c1 true μ1 H1 E1 R1 q1
  | false =>
    rw [if_neg Bool.false_ne_true]
    exact h2 c1 ρ μ1 σ H1 Q P R1 (S.up E1.toExt0) q1 fun c2 b2 μ2 H2 E2 => k c2 b2 μ2 H2 (E1.trans E2)
theorem qw_and (ha : QT X a tt dt) (hb : QW X (.BoolOp .And (b :: rest) pos) uu du) : QW X (.BoolOp .And (a :: b :: rest) pos) (tAnd tt uu) (dAndT dt du) := ⟨pw_and ha.p hb.p, sim_and ha.s hb.s⟩
theorem qw_and1 (ha : QT X a tt dt) : QW X (.BoolOp .And [a] pos) tt dt := ⟨pw_and1 ha.p, ha.s⟩
theorem qw_or (ha : QT X a tt dt) (hb : QW X (.BoolOp .Or (b :: rest) pos) uu du) : QW X (.BoolOp .Or (a :: b :: rest) pos) (tOr tt uu) (dOrT dt du) := ⟨pw_or ha.p hb.p, sim_or ha.s hb.s⟩
theorem qw_or1 (ha : QT X a tt dt) : QW X (.BoolOp .Or [a] pos) tt dt := ⟨pw_or1 ha.p, ha.s⟩
theorem QW.t {e : Expr} (h : QW X e tt dt) : QT X e tt dt := ⟨h.p.pt, h.s⟩
/-- as values: all but the last True or False -/
def dAndV (da db : DE) : DE := fun ρ μ Q => da ρ μ fun x μ1 => match x with
  | .bl true => db ρ μ1 Q
  | .bl false => Q (.bl false) μ1
  | _ => False
def dOrV (da db : DE) : DE := fun ρ μ Q => da ρ μ fun x μ1 => match x with
  | .bl true => Q (.bl true) μ1
  | .bl false => db ρ μ1 Q
  | _ => False
theorem q_and (ha : QE X a ta da) (hb : QE X (.BoolOp .And (b :: rest) pos) tb db) : QE X (.BoolOp .And (a :: b :: rest) pos) (tAndV ta tb) (dAndV da db) := by
  refine ⟨pe_and ha.p hb.p, fun c ρ μ σ H Q P R S h k => ?_⟩
  refine ha.s c ρ μ σ H _ _ R S h fun c1 x μ1 v H1 E1 R1 r1 q1 => ?_
  split at q1
  · cases r1
    refine ⟨true, rfl, ?_⟩
    rw [if_pos rfl]
    exact hb.s c1 ρ μ1 σ H1 Q P R1 (S.up E1.toExt0) q1 fun c2 z μ2 v2 H2 E2 => k c2 z μ2 v2 H2 (E1.trans E2)
  · cases r1
    refine ⟨false, rfl, ?_⟩
    rw [if_neg Bool.false_ne_true]
    exact k c1 _ μ1 _ H1 E1 R1 (.bl _) q1
  · exact q1.elim
theorem q_or (ha : QE X a ta da) (hb : QE X (.BoolOp .Or (b :: rest) pos) tb db) : QE X (.BoolOp .Or (a :: b :: rest) pos) (tOrV ta tb) (dOrV da db) := by
  refine ⟨pe_or ha.p hb.p, fun c ρ μ σ H Q P R S h k => ?_⟩
  refine ha.s c ρ μ σ H _ _ R S h fun c1 x μ1 v H1 E1 R1 r1 q1 => ?_
  split at q1
  · cases r1
    refine ⟨true, rfl, ?_⟩
    rw [if_pos rfl]
    exact k c1 _ μ1 _ H1 E1 R1 (.bl _) q1
  · cases r1
    refine ⟨false, rfl, ?_⟩
    rw [if_neg Bool.false_ne_true]
    exact hb.s c1 ρ μ1 σ H1 Q P R1 (S.up E1.toExt0) q1 fun c2 z μ2 v2 H2 E2 => k c2 z μ2 v2 H2 (E1.trans E2)
  · exact q1.elim
theorem q_one {op} (h : QE X a ta da) : QE X (.BoolOp op [a] pos) ta da := ⟨pe_one h.p, h.s⟩
def dIfE (dt : DT) (da db : DE) : DE := fun ρ μ Q => dt ρ μ fun b μ1 => match b with
  | true => da ρ μ1 Q
  | false => db ρ μ1 Q
theorem q_ifE {cc : Expr} (hc : QT X cc tt dt) (ha : QE X a ta da) (hb : QE X b tb db) : QE X (.IfExp cc a b pos) (tIf tt ta tb) (dIfE dt da db) := by
  refine ⟨pe_ifExp hc.p ha.p hb.p, fun c ρ μ σ H Q P R S h k => ?_⟩
  refine hc.s c ρ μ σ H _ _ R S h fun c1 z μ1 H1 E1 R1 q1 => ?_
  cases z with
  | true =>
    rw [if_pos rfl]
    exact ha.s c1 ρ μ1 σ H1 Q P R1 (S.up E1.toExt0) q1 fun c2 z μ2 v2 H2 E2 => k c2 z μ2 v2 H2 (E1.trans E2)
  | false =>
    rw [if_neg Bool.false_ne_true]
    exact hb.s c1 ρ μ1 σ H1 Q P R1 (S.up E1.toExt0) q1 fun c2 z μ2 v2 H2 E2 => k c2 z μ2 v2 H2 (E1.trans E2)

/-! ### displays -/
variable {t : TA} {d : DA}
def dNil : DA := fun _ μ Q => Q [] μ
def dCons (de : DE) (d : DA) : DA := fun ρ μ Q => de ρ μ fun x μ1 => d ρ μ1 fun xs μ2 => Q (x :: xs) μ2
def dStar (de : DE) (d : DA) : DA := fun ρ μ Q => de ρ μ fun x μ1 => ∃ xs, sview μ1 x = some xs ∧ d ρ μ1 fun ys μ2 => Q (xs ++ ys) μ2
theorem qa_nil : QA X [] tNil dNil := ⟨pa_nil, fun c ρ μ σ H Q P R S h k => k c [] μ [] H (Ext.refl c) R .nil h⟩
theorem qa_cons (ha : QE X e te de) (hr : QA X es t d) (hs : starEach (e :: es) X.env = (false, eval e X.env) :: starEach es X.env := by rfl) : QA X (e :: es) (tCons te t) (dCons de d) := by
  refine ⟨pa_cons ha.p hr.p hs, fun c ρ μ σ H Q P R S h k => ?_⟩
  refine ha.s c ρ μ σ H _ _ R S h fun c1 x μ1 v H1 E1 R1 r1 q1 => ?_
  exact hr.s c1 ρ μ1 σ H1 _ _ R1 (S.up E1.toExt0) q1 fun c2 xs μ2 vs H2 E2 R2 r2 q2 => k c2 (x :: xs) μ2 (v :: vs) H2 (E1.trans E2) R2 (.cons (r1.up E2.toExt0) r2) q2
theorem qa_star {p : Pos} (he : QE X e te de) (hr : QA X es t d) (hs : starEach (.Starred e p :: es) X.env = (true, eval e X.env) :: starEach es X.env := by rfl) : QA X (.Starred e p :: es) (tStar X.K te t) (dStar de d) := by
  refine ⟨pa_star he.p hr.p hs, fun c ρ μ σ H Q P R S h k => ?_⟩
  refine he.s c ρ μ σ H _ _ R S h fun c1 x μ1 v H1 E1 R1 r1 q1 => ?_
  obtain ⟨xs, hx, q1⟩ := q1
  obtain ⟨a, vs, e1, hq, hz, r⟩ := sview_at R1 r1 hx
  refine ⟨a, vs, e1, hq.symm, ?_⟩
  exact hr.s c1 ρ μ1 σ H1 _ _ R1 (S.up E1.toExt0) q1 fun c2 ys μ2 ws H2 E2 R2 r2 q2 => k c2 (xs ++ ys) μ2 (vs ++ ws) H2 (E1.trans E2) R2 ((r.up E2.toExt0).append r2) q2
def dTup (d : DA) : DE := fun ρ μ Q => d ρ μ fun xs μ1 => xs.length ≤ sizeLine ∧ Q (.tup xs) μ1
def dLst (d : DA) : DE := fun ρ μ Q => d ρ μ fun xs μ1 => xs.length ≤ sizeLine ∧ newL xs μ1 Q
theorem q_tup {x1} (h : QA X es t d) : QE X (.Tuple es x1 pos) (tTup t) (dTup d) := by
  refine ⟨pe_tup h.p, fun c ρ μ σ H Q P R S hw k => ?_⟩
  refine h.s c ρ μ σ H _ _ R S hw fun c1 xs μ1 vs H1 E1 R1 r1 q1 => ?_
  exact ⟨by rw [r1.length]; exact q1.1, sim_newT R1 r1 q1.1 q1.2 fun c2 z μ2 v2 H2 E2 => k c2 z μ2 v2 H2 (E1.trans E2)⟩
theorem q_lst (h : QA X es t d) : QE X (.List es pos) (tLst t) (dLst d) := by
  refine ⟨pe_lst h.p, fun c ρ μ σ H Q P R S hw k => ?_⟩
  refine h.s c ρ μ σ H _ _ R S hw fun c1 xs μ1 vs H1 E1 R1 r1 q1 => ?_
  exact ⟨by rw [r1.length]; exact q1.1, sim_newL R1 r1 q1.1 q1.2 fun c2 z μ2 v2 H2 E2 => k c2 z μ2 v2 H2 (E1.trans E2)⟩

/-! ### subscripts, slices -/
theorem Reps.atI {K : PySem.W.Frag} {c : Cf} {vs : List V} {xs : List Vl} {i : Int} {x : Vl} (r : Reps K c vs xs) (h : atI xs i = some x) : ∃ v, L2.atI vs i = some v ∧ Rep K c v x := by
  unfold L2.atI at h ⊢
  rw [r.length]
  cases hx : ixN xs.length i with
  | none => rw [hx] at h; cases h
  | some j =>
    rw [hx] at h
    obtain ⟨v, e1, e2⟩ := r.get (i := j) (x := x) h
    exact ⟨v, e1, e2⟩
def dIx : D2 := fun x y μ Q => match y with
  | .int i => ∃ xs z, sview μ x = some xs ∧ atI xs i = some z ∧ Q z μ
  | _ => False
theorem sim_ix {K : PySem.W.Frag} : Sim2 K (rIx K) dIx := by
  intro c μ H vx vy x y Q P R rx ry h k
  unfold dIx at h
  split at h
  · obtain ⟨xs, z, h1, h2, q⟩ := h
    cases ry
    obtain ⟨a, vs, e1, hq, hz, r⟩ := sview_at R rx h1
    obtain ⟨v, e2, rv⟩ := r.atI h2
    rcases hq with hq | hq
    · exact .inl ⟨a, vs, _, v, e1, rfl, hq, e2, k c z μ v H (Ext.refl c) R rv q⟩
    · exact .inr (.inl ⟨a, vs, _, v, e1, rfl, hq, e2, k c z μ v H (Ext.refl c) R rv q⟩)
  · exact h.elim
theorem q_ix (ha : QE X a ta da) (hb : QE X b tb db) (hs : PlainIx b := by intro _ _; rfl) : QE X (.Subscript a b pos) (tOp (rIx X.K) ta tb) (dOp dIx da db) := ⟨pe_ix ix_seq ha.p hb.p hs, sim_op sim_ix ha.s hb.s⟩
def cutD (xs : List Vl) (lo hi : Option Int) : List Vl := (xs.drop (HT.sIx xs.length 0 lo)).take (HT.sIx xs.length xs.length hi - HT.sIx xs.length 0 lo)
theorem Reps.cut {K : PySem.W.Frag} {c : Cf} {vs : List V} {xs : List Vl} (r : Reps K c vs xs) (lo hi : Option Int) : Reps K c (cutV vs lo hi) (cutD xs lo hi) := by
  unfold cutV cutD
  rw [r.length]
  exact (r.drop _).take _
theorem cutD_length (xs : List Vl) (lo hi : Option Int) : (cutD xs lo hi).length ≤ xs.length := by
  unfold cutD
  rw [List.length_take, List.length_drop]
  omega
def dNoPart : DO := fun _ μ Q => Q none μ
def dPart (de : DE) : DO := fun ρ μ Q => de ρ μ fun x μ1 => match x with
  | .int i => Q (some i) μ1
  | _ => False
theorem qo_none : QO X none tNoPart dNoPart := ⟨po_none, fun c ρ μ σ H Q P R S h k => k c none μ H (Ext.refl c) R h⟩
theorem qo_some (he : QE X e te de) : QO X (some e) (tPart te) (dPart de) := by
  refine ⟨po_some he.p, fun c ρ μ σ H Q P R S h k => ?_⟩
  refine he.s c ρ μ σ H _ _ R S h fun c1 x μ1 v H1 E1 R1 r1 q1 => ?_
  split at q1
  · cases r1
    exact ⟨_, rfl, k c1 _ μ1 H1 E1 R1 q1⟩
  · exact q1.elim
def dCut (x : Vl) (lo hi : Option Int) (μ : Mu) (Q : DK) : Prop := match x with
  | .tup xs => ¬ (HT.sIx xs.length 0 lo = 0 ∧ HT.sIx xs.length xs.length hi = xs.length) ∧ Q (.tup (cutD xs lo hi)) μ
  | x => ∃ xs, lview μ x = some xs ∧ newL (cutD xs lo hi) μ Q
def dSl (de : DE) (dl dh : DO) : DE := fun ρ μ Q => de ρ μ fun x μ1 => dl ρ μ1 fun l μ2 => dh ρ μ2 fun u μ3 => dCut x l u μ3 Q
def rSlD (K : PySem.W.Frag) : V → Option Int → Option Int → Hp → VK → Prop := fun x lo hi H Q => rSlL K x lo hi H Q ∨ rSlT K x lo hi H Q
theorem q_sl {lo hi : Option Expr} {tl th : TO} {dl dh : DO} {p2 : Pos} (he : QE X e te de) (hl : QO X lo tl dl) (hh : QO X hi th dh) : QE X (.Subscript e (.Slice lo hi none p2) pos) (tSl (rSlD X.K) te tl th) (dSl de dl dh) := by
  refine ⟨pe_slice (sl_list.or sl_tup) he.p hl.p hh.p, fun c ρ μ σ H Q P R S h k => ?_⟩
  refine he.s c ρ μ σ H _ _ R S h fun c1 x μ1 v H1 E1 R1 r1 q1 => ?_
  refine hl.s c1 ρ μ1 σ H1 _ _ R1 (S.up E1.toExt0) q1 fun c2 l μ2 H2 E2 R2 q2 => ?_
  refine hh.s c2 ρ μ2 σ H2 _ _ R2 (S.up (E1.trans E2).toExt0) q2 fun c3 u μ3 H3 E3 R3 q3 => ?_
  have r3 := r1.up (E2.trans E3).toExt0
  have k3 := fun c4 z μ4 v4 H4 (E4 : Ext c3 c4) => k c4 z μ4 v4 H4 (((E1.trans E2).trans E3).trans E4)
  unfold dCut at q3
  split at q3
  · rename_i xs
    obtain ⟨a, vs, e1, t1, z1, r⟩ := tup_at R3 r3
    refine .inr ⟨a, vs, e1, t1, ?_, sim_newT R3 (r.cut l u) (Nat.le_trans (cutD_length _ _ _) z1) q3.2 k3⟩
    rw [r.length]; exact q3.1
  · obtain ⟨xs, hx, q⟩ := q3
    obtain ⟨a, vs, e1, t1, z1, r⟩ := lview_at R3 r3 hx
    exact .inl ⟨a, vs, e1, t1, sim_newL R3 (r.cut l u) (Nat.le_trans (cutD_length _ _ _) z1) q k3⟩

/-! ### calls of what is built in -/
abbrev DC := List Vl → Mu → DK → Prop
def SimC (K : PySem.W.Frag) (r : List V → Hp → VK → Prop) (d : DC) : Prop := ∀ (c : Cf) (μ : Mu) (H : Hp) (vs : List V) (xs : List Vl) (Q : DK) (P : VK), RM K c μ H → Reps K c vs xs → d xs μ Q →
  (∀ c' z μ' v H', Ext c c' → RM K c' μ' H' → Rep K c' v z → Q z μ' → P v H') → r vs H P
def dCB (f : DC) (d : DA) : DE := fun ρ μ Q => d ρ μ fun xs μ1 => f xs μ1 Q
variable {x : Str} {id T : String} {p : Pos} {r : List V → Hp → VK → Prop} {f : DC}
theorem sim_cb {K : PySem.W.Frag} (hs : SimC K r f) (ha : SimA K t d) : SimE K (tCB r t) (dCB f d) := by
  intro c ρ μ σ H Q P R S h k
  refine ha c ρ μ σ H _ _ R S h fun c1 xs μ1 vs H1 E1 R1 r1 q1 => ?_
  exact hs c1 μ1 H1 vs xs Q P R1 r1 q1 fun c2 z μ2 v2 H2 E2 => k c2 z μ2 v2 H2 (E1.trans E2)
theorem q_callB (hc : CallR X (.builtin id) r) (hs : SimC X.K r f) (hm : X.mg x = none) (hv : bootBuiltins x = some (.builtin id)) (ha : QA X (e :: es) t d) (hg : Gl X x := by rfl) (hn : x ≠ "__name__" := by decide) (hdb : (x == ("__debug__" : Str)) = false := by decide)
    (he : starEach (e :: es) X.env = (false, eval e X.env) :: starEach es X.env := by rfl) (hpl : (backTo pos (starEach es X.env)).any (·.1) = false := by rfl) : QE X (.Call (.Name x p) (e :: es) [] pos) (tCB r t) (dCB f d) :=
  ⟨pe_callB hc hg hm hv ha.p hn hdb he hpl, sim_cb hs ha.s⟩
theorem q_callTy (hc : CallR X (.type T) r) (hs : SimC X.K r f) (hm : X.mg x = none) (hv : bootBuiltins x = some (.type T)) (ha : QA X (e :: es) t d) (hg : Gl X x := by rfl) (hn : x ≠ "__name__" := by decide) (hdb : (x == ("__debug__" : Str)) = false := by decide)
    (he : starEach (e :: es) X.env = (false, eval e X.env) :: starEach es X.env := by rfl) (hpl : (backTo pos (starEach es X.env)).any (·.1) = false := by rfl) : QE X (.Call (.Name x p) (e :: es) [] pos) (tCB r t) (dCB f d) :=
  ⟨pe_callTy hc hg hm hv ha.p hn hdb he hpl, sim_cb hs ha.s⟩
theorem reps1 {K : PySem.W.Frag} {c : Cf} {vs : List V} {x : Vl} (h : Reps K c vs [x]) : ∃ v, vs = [v] ∧ Rep K c v x := by
  cases h with
  | cons h1 h2 => cases h2; exact ⟨_, rfl, h1⟩
/-- len of a list, a tuple -/
def fLen : DC := fun xs μ Q => ∃ x ys, xs = [x] ∧ sview μ x = some ys ∧ Q (.int (ys.length : Int)) μ
theorem sim_len {K : PySem.W.Frag} : SimC K (fun xs H Q => ∃ p ys, xs = [.ref p] ∧ (SqL K H p ys ∨ SqT K H p ys) ∧ Q (.int ys.length) H) fLen := by
  intro c μ H vs xs Q P R r h k
  obtain ⟨x, ys, e, hx, q⟩ := h
  subst e
  obtain ⟨v, e, r1⟩ := reps1 r
  subst e
  obtain ⟨a, ws, e1, hq, hz, r2⟩ := sview_at R r1 hx
  subst e1
  exact ⟨a, ws, rfl, hq, k c _ μ _ H (Ext.refl c) R (by rw [r2.length]; exact .int _) q⟩
/-- tuple(..), list(..) -/
def fTuple : DC := fun xs μ Q => ∃ x ys, xs = [x] ∧ sview μ x = some ys ∧ Q (.tup ys) μ
def fList : DC := fun xs μ Q => ∃ x ys, xs = [x] ∧ sview μ x = some ys ∧ newL ys μ Q
theorem sim_tuple {K : PySem.W.Frag} : SimC K (fun xs H Q => ∃ p ys, xs = [.ref p] ∧ ((SqL K H p ys ∧ ∀ l, H l = none → Q (.ref l) (upd H l (.tup ys))) ∨ (SqT K H p ys ∧ Q (.ref p) H))) fTuple := by
  intro c μ H vs xs Q P R r h k
  obtain ⟨x, ys, e, hx, q⟩ := h
  subst e
  obtain ⟨v, e, r1⟩ := reps1 r
  subst e
  cases x with
  | tup zs =>
    have e : zs = ys := by simpa [sview] using hx
    subst e
    obtain ⟨a, ws, e1, hq, hz, r2⟩ := tup_at R r1
    subst e1
    exact ⟨a, ws, rfl, .inr ⟨hq, k c _ μ _ H (Ext.refl c) R r1 q⟩⟩
  | _ =>
    obtain ⟨a, ws, e1, hq, hz, r2⟩ := lview_at (xs := ys) R r1 (by simpa [sview] using hx)
    subst e1
    exact ⟨a, ws, rfl, .inl ⟨hq, sim_newT R r2 hz q k⟩⟩
theorem sim_list {K : PySem.W.Frag} : SimC K (fun xs H Q => ∃ p ys, xs = [.ref p] ∧ (SqL K H p ys ∨ SqT K H p ys) ∧ ∀ l, H l = none → Q (.ref l) (upd H l (.lst ys))) fList := by
  intro c μ H vs xs Q P R r h k
  obtain ⟨x, ys, e, hx, q⟩ := h
  subst e
  obtain ⟨v, e, r1⟩ := reps1 r
  subst e
  obtain ⟨a, ws, e1, hq, hz, r2⟩ := sview_at R r1 hx
  subst e1
  exact ⟨a, ws, rfl, hq, sim_newL R r2 hz q k⟩
def fAbs : DC := fun xs μ Q => match xs with
  | [.int i] => Q (.int (if i < 0 then -i else i)) μ
  | _ => False
theorem sim_abs {K : PySem.W.Frag} : SimC K (fun xs H Q => ∃ i, xs = [.int i] ∧ Q (.int (if i < 0 then -i else i)) H) fAbs := by
  intro c μ H vs xs Q P R r h k
  unfold fAbs at h
  split at h
  · obtain ⟨v, e, r1⟩ := reps1 r
    subst e
    cases r1
    exact ⟨_, rfl, k c _ μ _ H (Ext.refl c) R (.int _) h⟩
  · exact h.elim
def fInt : DC := fun xs μ Q => match xs with
  | [.int i] => Q (.int i) μ
  | [.bl b] => Q (.int (if b then 1 else 0)) μ
  | _ => False
theorem sim_int {K : PySem.W.Frag} : SimC K (fun xs H Q => (∃ i, xs = [.int i] ∧ Q (.int i) H) ∨ ∃ k, xs = [.bl k] ∧ Q (.int (if k then 1 else 0)) H) fInt := by
  intro c μ H vs xs Q P R r h k
  unfold fInt at h
  split at h
  · obtain ⟨v, e, r1⟩ := reps1 r
    subst e
    cases r1
    exact .inl ⟨_, rfl, k c _ μ _ H (Ext.refl c) R (.int _) h⟩
  · obtain ⟨v, e, r1⟩ := reps1 r
    subst e
    cases r1
    exact .inr ⟨_, rfl, k c _ μ _ H (Ext.refl c) R (.int _) h⟩
  · exact h.elim
/-- sum, min, max of a list of ints -/
def fSum : DC := fun xs μ Q => ∃ (x : Vl) (ns : List Int), xs = [x] ∧ lview μ x = some (ns.map Vl.int) ∧ Q (.int ns.sum) μ
def fMin : DC := fun xs μ Q => ∃ (x : Vl) (ns : List Int), xs = [x] ∧ lview μ x = some (ns.map Vl.int) ∧ 0 < ns.length ∧ ∀ m, m ∈ ns → (∀ y, y ∈ ns → m ≤ y) → Q (.int m) μ
def fMax : DC := fun xs μ Q => ∃ (x : Vl) (ns : List Int), xs = [x] ∧ lview μ x = some (ns.map Vl.int) ∧ 0 < ns.length ∧ ∀ m, m ∈ ns → (∀ y, y ∈ ns → y ≤ m) → Q (.int m) μ
theorem sim_sum {K : PySem.W.Frag} : SimC K (rSum K) fSum := by
  intro c μ H vs xs Q P R r h k
  obtain ⟨x, ns, e, hx, q⟩ := h
  subst e
  obtain ⟨v, e, r1⟩ := reps1 r
  subst e
  obtain ⟨a, ws, e1, hq, hz, r2⟩ := lview_at R r1 hx
  subst e1
  rw [r2.ints_of] at hq
  exact ⟨a, ns, rfl, hq, k c _ μ _ H (Ext.refl c) R (.int _) q⟩
theorem sim_min {K : PySem.W.Frag} : SimC K (rMin K) fMin := by
  intro c μ H vs xs Q P R r h k
  obtain ⟨x, ns, e, hx, hn, q⟩ := h
  subst e
  obtain ⟨v, e, r1⟩ := reps1 r
  subst e
  obtain ⟨a, ws, e1, hq, hz, r2⟩ := lview_at R r1 hx
  subst e1
  rw [r2.ints_of] at hq
  exact ⟨a, ns, rfl, hq, hn, fun m h1 h2 => k c _ μ _ H (Ext.refl c) R (.int _) (q m h1 h2)⟩
theorem sim_max {K : PySem.W.Frag} : SimC K (rMax K) fMax := by
  intro c μ H vs xs Q P R r h k
  obtain ⟨x, ns, e, hx, hn, q⟩ := h
  subst e
  obtain ⟨v, e, r1⟩ := reps1 r
  subst e
  obtain ⟨a, ws, e1, hq, hz, r2⟩ := lview_at R r1 hx
  subst e1
  rw [r2.ints_of] at hq
  exact ⟨a, ns, rfl, hq, hn, fun m h1 h2 => k c _ μ _ H (Ext.refl c) R (.int _) (q m h1 h2)⟩
theorem q_len (hm : X.mg "len" = none) (ha : QA X [e] t d) (hg : Gl X "len" := by rfl) (he : starEach [e] X.env = (false, eval e X.env) :: starEach [] X.env := by rfl) : QE X (.Call (.Name "len" p) [e] [] pos) (tCB (fun xs H Q => ∃ p ys, xs = [.ref p] ∧ (SqL X.K H p ys ∨ SqT X.K H p ys) ∧ Q (.int ys.length) H) t) (dCB fLen d) :=
  q_callB call_len_seq sim_len hm PySem.boot_len ha hg (by decide) (by decide) he rfl
theorem q_tuple (hm : X.mg "tuple" = none) (ha : QA X [e] t d) (hg : Gl X "tuple" := by rfl) (he : starEach [e] X.env = (false, eval e X.env) :: starEach [] X.env := by rfl) : QE X (.Call (.Name "tuple" p) [e] [] pos) (tCB (fun xs H Q => ∃ p ys, xs = [.ref p] ∧ ((SqL X.K H p ys ∧ ∀ l, H l = none → Q (.ref l) (upd H l (.tup ys))) ∨ (SqT X.K H p ys ∧ Q (.ref p) H))) t) (dCB fTuple d) :=
  q_callTy call_tuple_of sim_tuple hm (by decide +kernel) ha hg (by decide) (by decide) he rfl
theorem q_list (hm : X.mg "list" = none) (ha : QA X [e] t d) (hg : Gl X "list" := by rfl) (he : starEach [e] X.env = (false, eval e X.env) :: starEach [] X.env := by rfl) : QE X (.Call (.Name "list" p) [e] [] pos) (tCB (fun xs H Q => ∃ p ys, xs = [.ref p] ∧ (SqL X.K H p ys ∨ SqT X.K H p ys) ∧ ∀ l, H l = none → Q (.ref l) (upd H l (.lst ys))) t) (dCB fList d) :=
  q_callTy call_list_of sim_list hm (by decide +kernel) ha hg (by decide) (by decide) he rfl
theorem q_abs (hm : X.mg "abs" = none) (ha : QA X [e] t d) (hg : Gl X "abs" := by rfl) (he : starEach [e] X.env = (false, eval e X.env) :: starEach [] X.env := by rfl) : QE X (.Call (.Name "abs" p) [e] [] pos) (tCB (fun xs H Q => ∃ i, xs = [.int i] ∧ Q (.int (if i < 0 then -i else i)) H) t) (dCB fAbs d) :=
  q_callB call_abs sim_abs hm (by decide +kernel) ha hg (by decide) (by decide) he rfl
theorem q_intC (hm : X.mg "int" = none) (ha : QA X [e] t d) (hg : Gl X "int" := by rfl) (he : starEach [e] X.env = (false, eval e X.env) :: starEach [] X.env := by rfl) : QE X (.Call (.Name "int" p) [e] [] pos) (tCB (fun xs H Q => (∃ i, xs = [.int i] ∧ Q (.int i) H) ∨ ∃ k, xs = [.bl k] ∧ Q (.int (if k then 1 else 0)) H) t) (dCB fInt d) :=
  q_callTy call_int1 sim_int hm (by decide +kernel) ha hg (by decide) (by decide) he rfl
theorem q_sum (hcm : X.calm = true) (hm : X.mg "sum" = none) (ha : QA X [e] t d) (hg : Gl X "sum" := by rfl) (he : starEach [e] X.env = (false, eval e X.env) :: starEach [] X.env := by rfl) : QE X (.Call (.Name "sum" p) [e] [] pos) (tCB (rSum X.K) t) (dCB fSum d) :=
  q_callB (cr_sum hcm) sim_sum hm (by decide +kernel) ha hg (by decide) (by decide) he rfl
theorem q_min (hcm : X.calm = true) (hm : X.mg "min" = none) (ha : QA X [e] t d) (hg : Gl X "min" := by rfl) (he : starEach [e] X.env = (false, eval e X.env) :: starEach [] X.env := by rfl) : QE X (.Call (.Name "min" p) [e] [] pos) (tCB (rMin X.K) t) (dCB fMin d) :=
  q_callB (cr_min hcm) sim_min hm (by decide +kernel) ha hg (by decide) (by decide) he rfl
theorem q_max (hcm : X.calm = true) (hm : X.mg "max" = none) (ha : QA X [e] t d) (hg : Gl X "max" := by rfl) (he : starEach [e] X.env = (false, eval e X.env) :: starEach [] X.env := by rfl) : QE X (.Call (.Name "max" p) [e] [] pos) (tCB (rMax X.K) t) (dCB fMax d) :=
  q_callB (cr_max hcm) sim_max hm (by decide +kernel) ha hg (by decide) (by decide) he rfl
end
end DL

/-! DLc: repr, methods of lists, what is walked, comprehensions. -/
namespace DL
open PySem L2 StX PyProof.Rows

section
variable {X : Cx} {e a b o : Expr} {es : List Expr} {te ta tb to : TE} {de da db do_ : DE} {pos : Pos} {t : TA} {d : DA} {p : Pos}

/-! ### repr -/
def rRepr (K : PySem.W.Frag) : List V → Hp → VK → Prop := fun xs H Q => ∃ x dd, xs = [x] ∧ Dp K H x dd ∧ SeqAt.shaped dd = true ∧ dd.showable = true ∧ dd.shown.length ≤ sizeLine ∧ Q (.str dd.shown) H
theorem call_reprD {k : Nat} (hg : X.A.guards = some []) (hr : Room k X.A) : CallR X (.builtin "repr") (rRepr X.K) := by
  intro pins s σ H xs us Q I r h
  obtain ⟨x, dd, e1, hd, hs, hw, hz, q⟩ := h
  subst e1
  obtain ⟨u, e2, r1⟩ : ∃ u, us = [u] ∧ RelV x u := by
    cases r with
    | cons r1 r2 =>
      cases r2
      exact ⟨_, rfl, r1⟩
  subst e2
  obtain ⟨as, rd⟩ := Dp.reads I dd x u hd r1
  have hu := hr.un
  have hdep := SeqAt.depth_of_shaped hs
  have hnd : dd.hasDict = false := PyData.hasDict_of_canLay dd (SeqAt.canLay_of_shaped hs)
  have big : ∀ (ad : Addr), u = .ref ad → wpAny (model X.prog X.w) X.A (call (.builtin "repr") [u]) (EP X pins σ Q) X.xe s := fun ad eu => by
    subst eu
    exact repr_of_reads' rd hw (PyData.noDict_hsm hnd) hg (by omega) (fun _ _ z => z) (fun h' t tk hk => ⟨.str dd.shown, H, I.kept hk, ⟨_, rfl⟩, q⟩) hz
  cases hd with
  | non =>
    cases r1
    exact PySem.P.repr_of_none ⟨.str _, H, I.tok _, ⟨_, rfl⟩, q⟩
  | bl b =>
    cases r1
    exact PySem.P.repr_of_bool ⟨.str _, H, I.tok _, ⟨_, rfl⟩, q⟩
  | int i =>
    obtain ⟨t, e3⟩ := r1
    subst e3
    exact PySem.P.repr_of_int (by simpa [PyData.showable] using hw) ⟨.str _, H, I.tok _, ⟨_, rfl⟩, q⟩
  | str x =>
    obtain ⟨t, e3⟩ := r1
    subst e3
    exact PySem.P.repr_of_str ⟨.str _, H, I.tok _, ⟨_, rfl⟩, q⟩ hz
  | lst h1 h2 => cases r1; exact big _ rfl
  | tup h1 h2 => cases r1; exact big _ rfl
def fRepr : DC := fun xs μ Q => ∃ (x : Vl) (dd : PyData), xs = [x] ∧ datM μ x = some dd ∧ SeqAt.shaped dd = true ∧ dd.showable = true ∧ dd.shown.length ≤ sizeLine ∧ Q (.str dd.shown) μ
theorem sim_repr {K : PySem.W.Frag} : SimC K (rRepr K) fRepr := by
  intro c μ H vs xs Q P R r h k
  obtain ⟨x, dd, e1, hx, h1, h2, h3, q⟩ := h
  subst e1
  obtain ⟨v, e2, r1⟩ := reps1 r
  subst e2
  exact ⟨v, dd, rfl, dpM_of R hx r1, h1, h2, h3, k c _ μ _ H (Ext.refl c) R (.str _) q⟩
theorem q_repr {k : Nat} (hgd : X.A.guards = some []) (hr : Room k X.A) (hm : X.mg "repr" = none) (ha : QA X [e] t d) (hg : Gl X "repr" := by rfl) (he : starEach [e] X.env = (false, eval e X.env) :: starEach [] X.env := by rfl) : QE X (.Call (.Name "repr" p) [e] [] pos) (tCB (rRepr X.K) t) (dCB fRepr d) :=
  q_callB (call_reprD hgd hr) sim_repr hm (by decide +kernel) ha hg (by decide) (by decide) he rfl

/-! ### methods of lists -/
abbrev DM := Vl → List Vl → Mu → DK → Prop
def SimM (K : PySem.W.Frag) (r : V → List V → Hp → VK → Prop) (f : DM) : Prop := ∀ (c : Cf) (μ : Mu) (H : Hp) (v : V) (x : Vl) (vs : List V) (xs : List Vl) (Q : DK) (P : VK), RM K c μ H → Rep K c v x → Reps K c vs xs → f x xs μ Q →
  (∀ c' z μ' v H', Ext c c' → RM K c' μ' H' → Rep K c' v z → Q z μ' → P v H') → r v vs H P
def dBM (f : DM) (do_ : DE) (d : DA) : DE := fun ρ μ Q => do_ ρ μ fun x μ1 => (lview μ1 x).isSome = true ∧ d ρ μ1 fun xs μ2 => f x xs μ2 Q
theorem sim_bm {K : PySem.W.Frag} {r : V → List V → Hp → VK → Prop} {f : DM} (hs : SimM K r f) (ho : SimE K to do_) (ha : SimA K t d) : SimE K (tBM K "list" r to t) (dBM f do_ d) := by
  intro c ρ μ σ H Q P R S h k
  refine ho c ρ μ σ H _ _ R S h fun c1 x μ1 v H1 E1 R1 r1 q1 => ?_
  obtain ⟨hl, q1⟩ := q1
  obtain ⟨ys, hy⟩ := Option.isSome_iff_exists.mp hl
  obtain ⟨a, ws, e1, hq, hz, r2⟩ := lview_at R1 r1 hy
  refine ⟨?_, ?_⟩
  · rw [e1]; exact .inl ⟨rfl, _, hq⟩
  refine ha c1 ρ μ1 σ H1 _ _ R1 (S.up E1.toExt0) q1 fun c2 xs μ2 vs H2 E2 R2 r2 q2 => ?_
  exact hs c2 μ2 H2 v x vs xs Q P R2 (r1.up E2.toExt0) r2 q2 fun c3 z μ3 v3 H3 E3 => k c3 z μ3 v3 H3 ((E1.trans E2).trans E3)
def mAppend : DM := fun x xs μ Q => ∃ (k : Nat) (ys : List Vl) (y : Vl), x = .ref k ∧ xs = [y] ∧ μ[k]? = some (.lst ys) ∧ ys.length < sizeLine ∧ Q .non (μ.set k (.lst (ys ++ [y])))
theorem sim_append {K : PySem.W.Frag} : SimM K rAppend mAppend := by
  intro c μ H v x vs xs Q P R rx rs h k
  obtain ⟨j, ys, y, e1, e2, hm, hz, q⟩ := h
  subst e1; subst e2
  obtain ⟨a, e3, hk, ws, e4, hz4, r4⟩ := ref_at R rx hm
  obtain ⟨u, e5, ry⟩ := reps1 rs
  subst e3; subst e5
  refine ⟨a, ws, u, rfl, rfl, e4, by rw [r4.length]; exact hz, ?_⟩
  refine k c _ _ _ _ (Ext.refl c) (R.write (m := .lst (ys ++ [y])) hk ⟨_, rfl, ?_, r4.append (.one ry)⟩) .non q
  rw [List.length_append]
  show ys.length + 1 ≤ sizeLine
  omega
theorem q_append {apos cpos : Pos} (ho : QE X o to do_) (ha : QA X [e] t d) (hbase : attributeBase o "append" X.env (eval o X.env) = eval o X.env := by rfl)
    (hfew : ((backTo cpos (starEach [e] X.env)).all (fun x => !x.1) && (backToKw cpos (keywordEach [] X.env)).all (fun x => x.1.isSome) && decide ([e].length + ([] : List Keyword).length + (if ([] : List Keyword).isEmpty then 0 else 1) < 30)) = true := by rfl)
    (hline : (apos.endLine == cpos.line) = true := by rfl) (hs : starEach [e] X.env = (false, eval e X.env) :: starEach [] X.env := by rfl) (hpl : (backTo cpos (starEach [] X.env)).any (·.1) = false := by rfl) : QE X (.Call (.Attribute o "append" apos) [e] [] cpos) (tBM X.K "list" rAppend to t) (dBM mAppend do_ d) :=
  ⟨pe_bm PySem.F.plainAttrs_list PySem.F.slot_list_append PySem.F.type_list_append mt_append ho.p ha.p hbase hfew hline hs hpl, sim_bm sim_append ho.s ha.s⟩
/-- xs.index(n) of ints -/
def mIndex : DM := fun x xs μ Q => ∃ (ns : List Int) (n : Int) (j : Nat), lview μ x = some (ns.map Vl.int) ∧ xs = [.int n] ∧ ns[j]? = some n ∧ (∀ m, m < j → ns[m]? ≠ some n) ∧ Q (.int (j : Int)) μ
theorem flat_ints : ∀ ns : List Int, (ns.map V.int).all flatV = true
  | [] => rfl
  | _ :: r => flat_ints r
theorem sim_index {K : PySem.W.Frag} : SimM K (rIndex K) mIndex := by
  intro c μ H v x vs xs Q P R rx rs h k
  obtain ⟨ns, n, j, hx, e2, hj, hno, q⟩ := h
  subst e2
  obtain ⟨u, e5, ry⟩ := reps1 rs
  subst e5
  cases ry
  obtain ⟨a, ws, e1, hq, hz, r2⟩ := lview_at R rx hx
  rw [r2.ints_of] at hq
  refine ⟨a, _, .int n, j, .int n, e1, rfl, hq, rfl, flat_ints ns, by rw [List.getElem?_map, hj]; rfl, by simp [eqV], fun m z' hm hz' => ?_, k c _ μ _ H (Ext.refl c) R (.int _) q⟩
  rw [List.getElem?_map] at hz'
  cases hn : ns[m]? with
  | none => rw [hn] at hz'; cases hz'
  | some i =>
    rw [hn] at hz'
    have e : V.int i = z' := by simpa using hz'
    subst e
    have ne : i ≠ n := fun z => hno m hm (by rw [hn, z])
    show (i == n) = false
    exact beq_eq_false_iff_ne.mpr ne
theorem q_index {apos cpos : Pos} (ho : QE X o to do_) (ha : QA X [e] t d) (hbase : attributeBase o "index" X.env (eval o X.env) = eval o X.env := by rfl)
    (hfew : ((backTo cpos (starEach [e] X.env)).all (fun x => !x.1) && (backToKw cpos (keywordEach [] X.env)).all (fun x => x.1.isSome) && decide ([e].length + ([] : List Keyword).length + (if ([] : List Keyword).isEmpty then 0 else 1) < 30)) = true := by rfl)
    (hline : (apos.endLine == cpos.line) = true := by rfl) (hs : starEach [e] X.env = (false, eval e X.env) :: starEach [] X.env := by rfl) (hpl : (backTo cpos (starEach [] X.env)).any (·.1) = false := by rfl) : QE X (.Call (.Attribute o "index" apos) [e] [] cpos) (tBM X.K "list" (rIndex X.K) to t) (dBM mIndex do_ d) :=
  ⟨pe_bm PySem.F.plainAttrs_list PySem.F.slot_list_index PySem.F.type_list_index mt_index ho.p ha.p hbase hfew hline hs hpl, sim_bm sim_index ho.s ha.s⟩
end

/-! ### what is walked -/
/-- from c on, as long as G holds: the walk gives xs, one after another -/
def WalkD (K : PySem.W.Frag) (c : Cf) (J : It) (xs : List Vl) (G : Mu → Prop) : Prop := ∃ (Gh : Hp → Prop) (Y : Nat → Hp → V → Hp → Prop), Walk J xs.length Gh Y ∧
  (∀ c2 μ2 H2, Ext0 c c2 → RM K c2 μ2 H2 → G μ2 → Gh H2) ∧
  ∀ i H2 v H3 c2 μ2, i < xs.length → Ext0 c c2 → RM K c2 μ2 H2 → G μ2 → Y i H2 v H3 → ∃ c3 x, Ext c2 c3 ∧ RM K c3 μ2 H3 ∧ xs[i]? = some x ∧ Rep K c3 v x
abbrev DI := Rho → Mu → (List Vl → (Mu → Prop) → Mu → Prop) → Prop
def SimI (K : PySem.W.Frag) (wi : TI) (di : DI) : Prop := ∀ (c : Cf) (ρ : Rho) (μ : Mu) (σ : L2.St) (H : Hp) (Q : List Vl → (Mu → Prop) → Mu → Prop) (P : It → Hp → Prop), RM K c μ H → RS K c ρ σ → di ρ μ Q →
  (∀ c' xs G μ' J H', Ext c c' → RM K c' μ' H' → xs.length ≤ sizeLine → WalkD K c' J xs G → Q xs G μ' → P J H') → wi σ H P
structure QI (X : Cx) (tg iter : Expr) (wi : TI) (di : DI) : Prop where
  p : PI X tg iter wi
  s : SimI X.K wi di
/-- as long as the thing is the same -/
def asLong (xs : List Vl) : Vl → Mu → Prop
  | .ref k, μ => μ[k]? = some (.lst xs)
  | _, _ => True
def dIter (de : DE) : DI := fun ρ μ Q => de ρ μ fun x μ1 => ∃ xs, sview μ1 x = some xs ∧ Q xs (asLong xs x) μ1
/-- list or tuple -/
inductive Kd where
  | L | T
def Sq (K : PySem.W.Frag) : Kd → Hp → Addr → List V → Prop
  | .L => SqL K
  | .T => SqT K
theorem stays_at {K : PySem.W.Frag} {c : Cf} {μ : Mu} {H : Hp} {v : V} {x : Vl} {xs : List Vl} (R : RM K c μ H) (r : Rep K c v x) (h : sview μ x = some xs) : ∃ a vs kd, v = .ref a ∧ xs.length ≤ sizeLine ∧ vs.length = xs.length ∧
    (∀ c2 μ2 H2, Ext0 c c2 → RM K c2 μ2 H2 → asLong xs x μ2 → ∃ vs2, Sq K kd H2 a vs2 ∧ Reps K c2 vs2 xs) ∧ Sq K kd H a vs := by
  cases x with
  | tup ys =>
    have e : ys = xs := by simpa [sview] using h
    subst e
    cases r with
    | tup h1 hz h2 => exact ⟨_, _, .T, rfl, hz, h2.length, fun c2 μ2 H2 E R2 _ => ⟨_, same_t R2.sub (same_t E.hd h1), h2.up E⟩, same_t R.sub h1⟩
  | lst ys =>
    have e : ys = xs := by simpa [sview, lview] using h
    subst e
    cases r with
    | lst h1 hz h2 => exact ⟨_, _, .L, rfl, hz, h2.length, fun c2 μ2 H2 E R2 _ => ⟨_, SqL.of (R2.sub _ _ (E.hd _ _ h1)), h2.up E⟩, SqL.of (R.sub _ _ h1)⟩
  | frl ys =>
    have e : ys = xs := by simpa [sview, lview] using h
    subst e
    cases r with
    | frl h1 hz h2 => exact ⟨_, _, .L, rfl, hz, h2.length, fun c2 μ2 H2 E R2 _ => ⟨_, same_l R2.sub (same_l E.hd h1), h2.up E⟩, same_l R.sub h1⟩
  | ref k =>
    have h' : μ[k]? = some (.lst xs) := mview_ref (by simpa [sview, lview, mview] using h)
    obtain ⟨a, e1, ha, vs, e2, hz, r2⟩ := ref_at R r h'
    refine ⟨a, vs, .L, e1, hz, r2.length, fun c2 μ2 H2 E R2 g => ?_, SqL.of e2⟩
    obtain ⟨_, ws, e3, _, r3⟩ := R2.obj k a _ (E.al _ _ ha) g
    exact ⟨ws, SqL.of e3, r3⟩
  | _ => simp [sview, lview] at h
/-- over a list or a tuple -/
def ItS (K : PySem.W.Frag) : Kd → Addr → It
  | .L, a => Itl K a
  | .T, a => Itt K a
theorem walk_S {K : PySem.W.Frag} {kd : Kd} {a : Addr} {n : Nat} : Walk (ItS K kd a) n (fun H => ∃ xs, Sq K kd H a xs ∧ xs.length = n) (fun i H x H' => H' = H ∧ ∀ xs, Sq K kd H a xs → xs[i]? = some x) := by
  cases kd with
  | L =>
    refine ⟨fun i H hi g => ?_, fun H g => ?_, fun i H x H' hi g y => y⟩
    · obtain ⟨xs, q, hn⟩ := g
      exact ⟨xs, xs[i]'(by omega), q, by simp [show i < xs.length by omega]⟩
    · obtain ⟨xs, q, hn⟩ := g
      exact ⟨xs, q, by omega⟩
  | T =>
    refine ⟨fun i H hi g => ?_, fun H g => ?_, fun i H x H' hi g y => y⟩
    · obtain ⟨xs, q, hn⟩ := g
      exact ⟨xs, xs[i]'(by omega), q, by simp [show i < xs.length by omega]⟩
    · obtain ⟨xs, q, hn⟩ := g
      exact ⟨xs, q, by omega⟩
theorem walkD_S {K : PySem.W.Frag} {c : Cf} {μ : Mu} {H : Hp} {v : V} {x : Vl} {xs : List Vl} (R : RM K c μ H) (r : Rep K c v x) (h : sview μ x = some xs) : ∃ a kd, v = .ref a ∧ xs.length ≤ sizeLine ∧ (∃ vs, Sq K kd H a vs) ∧ WalkD K c (ItS K kd a) xs (asLong xs x) := by
  obtain ⟨a, vs, kd, e1, hz, hl, st, hq⟩ := stays_at R r h
  refine ⟨a, kd, e1, hz, ⟨vs, hq⟩, _, _, walk_S, fun c2 μ2 H2 E R2 g => ?_, fun i H2 v H3 c2 μ2 hi E R2 g y => ?_⟩
  · obtain ⟨vs2, q, r2⟩ := st c2 μ2 H2 E R2 g
    exact ⟨vs2, q, r2.length⟩
  · obtain ⟨e, y⟩ := y
    subst e
    obtain ⟨vs2, q, r2⟩ := st c2 μ2 H3 E R2 g
    obtain ⟨x, e2, rx⟩ := r2.getV (y vs2 q)
    exact ⟨c2, x, Ext.refl c2, R2, e2, rx⟩
theorem pi_S {X : Cx} {tg l : Expr} {tl : TE} (hl : PE X l tl) : PI X tg l (fun σ H R => tl σ H fun x H1 => ∃ (a : Addr) (kd : Kd), x = .ref a ∧ (∃ xs, Sq X.K kd H1 a xs) ∧ R (ItS X.K kd a) H1) := by
  refine ⟨fun pins s σ H R I h => ?_⟩
  refine thn (hl.run pins s σ H _ I h) fun v s1 ⟨x, H1, I1, r1, q1⟩ => ?_
  obtain ⟨a, kd, e, hq, q⟩ := q1
  subst e
  -- the rules for lists and tuples, at the value that is there
  have fr : ∀ b ∈ [s1.heap.objs.size], FpOk X pins H1 b := fun b hb => by
    rw [List.mem_singleton.mp hb]
    exact I1.fpOk (Nat.le_refl _) (I1.hok.fresh (Nat.le_refl _))
  cases r1
  cases kd with
  | L =>
    obtain ⟨xs, hq⟩ := hq
    obtain ⟨its, rv, pl, hz⟩ := I1.list hq
    exact wpAny_pyIter_list pl.isList ⟨s1.heap.objs.size, [s1.heap.objs.size], _, _, H1, rfl, I1.kept (t' := s1.toks) fun b o z => Heap.get?_push_of_some _ z, turn_list a _, ⟨_, Heap.get?_push_size _ rfl, rfl, rfl⟩, fr, q⟩
  | T =>
    obtain ⟨xs, hq⟩ := hq
    obtain ⟨its, rv, pl, hz⟩ := I1.tuple hq
    exact wpAny_pyIter_tuple (show s1.heap.IsTuple a its.toArray from pl) ⟨s1.heap.objs.size, [s1.heap.objs.size], _, _, H1, rfl, I1.kept (t' := s1.toks) fun b o z => Heap.get?_push_of_some _ z, turn_tuple a _, ⟨_, Heap.get?_push_size _ rfl, rfl, rfl⟩, fr, q⟩
def iS (K : PySem.W.Frag) (tl : TE) : TI := fun σ H R => tl σ H fun x H1 => ∃ (a : Addr) (kd : Kd), x = .ref a ∧ (∃ xs, Sq K kd H1 a xs) ∧ R (ItS K kd a) H1
theorem qi_seq {X : Cx} {tg l : Expr} {tl : TE} {dl : DE} (hl : QE X l tl dl) : QI X tg l (iS X.K tl) (dIter dl) := by
  refine ⟨pi_S hl.p, fun c ρ μ σ H Q P R S h k => ?_⟩
  refine hl.s c ρ μ σ H _ _ R S h fun c1 x μ1 v H1 E1 R1 r1 q1 => ?_
  obtain ⟨xs, hx, q⟩ := q1
  obtain ⟨a, kd, e1, hz, hq, wd⟩ := walkD_S R1 r1 hx
  exact ⟨a, kd, e1, hq, k c1 xs _ μ1 _ H1 E1 R1 hz wd q⟩

/-! ### range -/
def rngD (lo : Int) (n : Nat) : List Vl := (List.range n).map fun (i : Nat) => Vl.int (lo + (i : Int))
theorem rngD_len {lo : Int} {n : Nat} : (rngD lo n).length = n := by simp [rngD]
theorem rngD_get {lo : Int} {n i : Nat} (h : i < n) : (rngD lo n)[i]? = some (.int (lo + (i : Int))) := by simp [rngD, h]
theorem walkD_range {K : PySem.W.Frag} {c : Cf} {lo : Int} {n : Nat} : WalkD K c (Itr lo n) (rngD lo n) fun _ => True := by
  refine ⟨fun _ => True, YFn fun i => .int (lo + i), ?_, fun _ _ _ _ _ _ => trivial, fun i H2 v H3 c2 μ2 hi E R2 _ y => ?_⟩
  · rw [rngD_len]; exact walk_range
  · rw [rngD_len] at hi
    obtain ⟨e, y⟩ := y
    subst e; subst y
    exact ⟨c2, _, Ext.refl c2, R2, rngD_get hi, .int _⟩
def dRange1 (d : DA) : DI := fun ρ μ Q => d ρ μ fun xs μ1 => ∃ j : Int, xs = [.int j] ∧ j ≤ 16777216 ∧ -(2 ^ 62) ≤ j ∧ Q (rngD 0 j.toNat) (fun _ => True) μ1
def dRange2 (d : DA) : DI := fun ρ μ Q => d ρ μ fun xs μ1 => ∃ i j : Int, xs = [.int i, .int j] ∧ (-(2 ^ 62) ≤ i ∧ i < 2 ^ 62 ∧ -(2 ^ 62) ≤ j ∧ j < 2 ^ 62) ∧ j - i ≤ 16777216 ∧ Q (rngD i (j - i).toNat) (fun _ => True) μ1
section
variable {X : Cx} {tg a b e : Expr} {ta : TA} {da : DA} {p pos : Pos}
theorem qi_range1 (hm : X.mg "range" = none) (ha : QA X [a] ta da) (hg : Gl X "range" := by rfl) (hs : starEach [a] X.env = [(false, eval a X.env)] := by rfl) : QI X tg (.Call (.Name "range" p) [a] [] pos) (iRng1 ta) (dRange1 da) := by
  refine ⟨pi_range1 hg hm ha.p hs, fun c ρ μ σ H Q P R S h k => ?_⟩
  refine ha.s c ρ μ σ H _ _ R S h fun c1 xs μ1 vs H1 E1 R1 r1 q1 => ?_
  obtain ⟨j, e, h1, h2, q⟩ := q1
  subst e
  obtain ⟨v, e, rv⟩ := reps1 r1
  subst e
  cases rv
  exact ⟨j, rfl, h2, by omega, k c1 _ _ μ1 _ H1 E1 R1 (by rw [rngD_len, sizeLine_eq]; omega) walkD_range q⟩
theorem qi_range2 (hm : X.mg "range" = none) (ha : QA X [a, b] ta da) (hg : Gl X "range" := by rfl) (hs : starEach [a, b] X.env = [(false, eval a X.env), (false, eval b X.env)] := by rfl) (hs2 : starEach [b] X.env = [(false, eval b X.env)] := by rfl) :
    QI X tg (.Call (.Name "range" p) [a, b] [] pos) (iRng2 ta) (dRange2 da) := by
  refine ⟨pi_range2 hg hm ha.p hs hs2, fun c ρ μ σ H Q P R S h k => ?_⟩
  refine ha.s c ρ μ σ H _ _ R S h fun c1 xs μ1 vs H1 E1 R1 r1 q1 => ?_
  obtain ⟨i, j, e, hb, h2, q⟩ := q1
  subst e
  cases r1 with
  | cons r1 r2 =>
    obtain ⟨v, e, rv⟩ := reps1 r2
    subst e
    cases rv
    cases r1
    exact ⟨i, j, rfl, hb, k c1 _ _ μ1 _ H1 E1 R1 (by rw [rngD_len, sizeLine_eq]; omega) walkD_range q⟩
end

/-! ### enumerate, zip -/
def itS (kd : Kd) (h : Heap) (it a : Addr) (i : Nat) : Prop := match kd with
  | .L => h.IsListIter it a i
  | .T => h.IsTupleIter it a i
def hpS (kd : Kd) (h : Heap) (a : Addr) (items : Array Value) : Prop := match kd with
  | .L => h.IsList a items
  | .T => h.IsTuple a items
def obS (kd : Kd) (a : Addr) : Obj := match kd with
  | .L => { cls := .type "list_iterator", data := .fields #[.ref a, .int 0 0] }
  | .T => { cls := .type "tuple_iterator", data := .fields #[.ref a, .int 0 0] }
theorem obS_it {kd : Kd} {h : Heap} {it a : Addr} (e : h.get? it = some (obS kd a)) : itS kd h it a 0 := by
  cases kd with
  | L => exact ⟨_, e, rfl, rfl⟩
  | T => exact ⟨_, e, rfl, rfl⟩
theorem itS.look {kd : Kd} {h : Heap} {it a : Addr} {i : Nat} (x : itS kd h it a i) : ∃ o, h.get? it = some o ∧ ∀ v, o.data ≠ .cell v := by
  cases kd with
  | L =>
    obtain ⟨o, e, _, d⟩ := x
    exact ⟨o, e, fun v z => by rw [d] at z; cases z⟩
  | T =>
    obtain ⟨o, e, _, d⟩ := x
    exact ⟨o, e, fun v z => by rw [d] at z; cases z⟩
theorem itS.keep {kd : Kd} {h h' : Heap} {it a : Addr} {i : Nat} (x : itS kd h it a i) (k : ∀ o, h.get? it = some o → h'.get? it = some o) : itS kd h' it a i := by
  cases kd with
  | L => exact Heap.IsListIter.at x k
  | T => exact Heap.IsTupleIter.at x k
theorem draws_S {prog : Program} {w : World} {A : Around} (hh : A.handled = none) (kd : Kd) (it l : Addr) (hne : l ≠ it) (items : Array Value) :
    Draws prog w A it [it, l] items.size (fun i v => items[i]? = some v) (fun i h => itS kd h it l i ∧ hpS kd h l items) := by
  cases kd with
  | L => exact Draws.list hh it l hne items
  | T => exact Draws.tuple hh it l hne items
theorem begins_S (kd : Kd) (a : Addr) (items : Array Value) : Begins (.ref a) (obS kd a) (fun h => hpS kd h a items) := by
  cases kd with
  | L => exact begins_list a items
  | T => exact begins_tuple a items
theorem inv_S {X : Cx} {pins : List (Addr × Obj)} {σ : L2.St} {H : Hp} {s : Shared} {kd : Kd} {a : Addr} {xs : List V} (I : L2.Inv X pins σ H s) (h : Sq X.K kd H a xs) : ∃ its : List Value, Vals xs its ∧ hpS kd s.heap a its.toArray ∧ xs.length ≤ sizeLine := by
  cases kd with
  | L =>
    obtain ⟨its, r, p, z⟩ := I.list h
    exact ⟨its, r, p.isList, z⟩
  | T =>
    obtain ⟨its, r, p, z⟩ := I.tuple h
    exact ⟨its, r, p, z⟩
theorem inj_S {X : Cx} {pins : List (Addr × Obj)} {σ : L2.St} {H : Hp} {s : Shared} {kd : Kd} {a : Addr} {xs ys : List V} (I : L2.Inv X pins σ H s) (h : Sq X.K kd H a xs) (h' : Sq X.K kd H a ys) : xs = ys := by
  cases kd with
  | L => exact I.list_inj h h'
  | T => exact I.tuple_inj h h'
theorem hpS.lt {kd : Kd} {h : Heap} {a : Addr} {its : Array Value} (x : hpS kd h a its) : a < h.objs.size := by
  cases kd with
  | L =>
    obtain ⟨o, e, _⟩ := x
    exact Heap.lt_size e
  | T =>
    obtain ⟨o, e, _⟩ := x
    exact Heap.lt_size e

namespace DL2
theorem enum_new {v : Value} {o : Obj} {G : Heap → Prop} (B : Begins v o G) :
    Meets (Builtin.«enumerate.__new__» ⟨[.type "enumerate", v], []⟩) (fun _ R s => G s.heap ∧
      R (.ok (.ret (.ref (s.heap.push o).objs.size))) { s with heap := (s.heap.push o).push { cls := .type "enumerate", data := .fields #[.none, .bool false, .ref s.heap.objs.size, rawInt 0, .none, .none] } }) :=
  .of_wp fun prog w A R s h => by
    obtain ⟨hp, g, d, tk, os⟩ := s
    obtain ⟨h1, h⟩ := h
    have hsub := sub_enumerate
    have it : ∀ {A' : Around} {E : Value → Shared → Prop} {Q : Value → Shared → Prop}, Q (.ref hp.objs.size) ⟨hp.push o, g, d, tk, os⟩ → wpAny (model prog w) A' (pyIter v) Q E ⟨hp, g, d, tk, os⟩ :=
      fun q => B.iter prog w _ _ ⟨hp, g, d, tk, os⟩ _ h1 q
    wp_walk using it
    refine wpAny_stack_any fun st => wpAny_pure ?_
    split
    · rename_i c _ _ _ _ _
      cases (c == Value.type "enumerate")
      · wp_walk using it
        exact ⟨_, rfl, h⟩
      · wp_walk using it
        exact ⟨_, rfl, h⟩
    · wp_walk using it
      exact ⟨_, rfl, h⟩
theorem call_enum {prog : Program} {w : World} {A : Around} {E : Value → Shared → Prop} {s : Shared} {v : Value} {o : Obj} {G : Heap → Prop} {Q : Value → Shared → Prop} (B : Begins v o G) (h1 : G s.heap)
    (h : ∀ h', IsEnum h' (s.heap.objs.size + 1) s.heap.objs.size 0 .none → h'.get? s.heap.objs.size = some o → (∀ b o, s.heap.get? b = some o → h'.get? b = some o) → Q (.ref (s.heap.objs.size + 1)) { s with heap := h' }) :
    wpAny (model prog w) A (call (.type "enumerate") [v]) Q E s := by
  have hz : (s.heap.push o).objs.size = s.heap.objs.size + 1 := Heap.size_push ..
  refine callType_new F.called_enumerate (by decide) (F.typeCall_enumerate_1 _) (F.newCall_enumerate_1 _) (fun obj => F.args_object_init_2 obj _) F.entry_enumerate_new (enum_new B) ⟨h1, ?_⟩
  show _ ∧ _
  rw [hz]
  have he : IsEnum ((s.heap.push o).push { cls := .type "enumerate", data := .fields #[.none, .bool false, .ref s.heap.objs.size, rawInt 0, .none, .none] }) (s.heap.objs.size + 1) s.heap.objs.size 0 .none := by
    have z := Heap.get?_push_size (s.heap.push o) (o := { cls := .type "enumerate", data := .fields #[.none, .bool false, .ref s.heap.objs.size, rawInt 0, .none, .none] }) rfl
    rw [hz] at z; exact z
  exact ⟨⟨_, he, rfl⟩, h _ he (Heap.get?_push_of_some _ (Heap.get?_push_size _ B.free)) fun b o x => Heap.get?_push_of_some _ (Heap.get?_push_of_some _ x)⟩
end DL2

/-- each item with its number, in a new pair -/
def ItE (K : PySem.W.Frag) (kd : Kd) (a : Addr) : It :=
  ⟨fun i H => ∃ xs x, Sq K kd H a xs ∧ xs[i]? = some x, fun i H v H' => ∃ T x, v = .ref T ∧ H T = none ∧ H' = upd H T (.tup [.int (i : Nat), x]) ∧ ∀ xs, Sq K kd H a xs → xs[i]? = some x, fun i H => ∃ xs, Sq K kd H a xs ∧ xs.length = i⟩
theorem turn_E {P : Program} {w : World} {K : PySem.W.Frag} {elts : List Expr} {kk : Nat} {tpos : Pos} (kd : Kd) (a e it : Addr) (hai : a ≠ it) (hae : e ≠ a) :
    Turn P w K (.Tuple elts kk tpos) (ItE K kd a) [e, it] e (fun i h => (∃ old, IsEnum h e it ((i : Nat) : Int) old) ∧ itS kd h it a i ∧ e ≠ it) where
  mem := by simp
  obj := fun i h st b hb => by
    obtain ⟨⟨old, he⟩, hi, _⟩ := st
    have e' : b = e ∨ b = it := by simpa using hb
    rcases e' with z | z
    · rw [z]; exact ⟨_, he, fun v q => nomatch q⟩
    · rw [z]; exact hi.look
  keep := fun i h h' st k => by
    obtain ⟨⟨old, he⟩, hi, hne⟩ := st
    exact ⟨⟨old, k e (by simp) _ he⟩, hi.keep fun o q => k it (by simp) o q, hne⟩
  item := by
    intro X hP hw hK hc i pins s σ H E I hf st hg
    subst hP hw hK
    obtain ⟨⟨old, he⟩, hit, hne⟩ := st
    obtain ⟨xs, x, hq, hx⟩ := hg
    obtain ⟨its, rv, pl, hz⟩ := inv_S I hq
    obtain ⟨u, hu, ru⟩ := rv.get hx
    have hel : e < s.heap.objs.size := Heap.lt_size he
    have hil : it < s.heap.objs.size := by obtain ⟨o, q, _⟩ := hit.look; exact Heap.lt_size q
    have hin : i < its.toArray.size := by
      rw [List.size_toArray]
      exact (List.getElem?_eq_some_iff.mp hu).1
    have D := draws_S (prog := X.prog) (w := X.w) (A := X.A.in1) (I.ok.hd hc) kd it a hai its.toArray
    refine wpAny_pyNext_enum_itemC D he ⟨hit, pl⟩ hin hne (by simp [hne, hae]) fun y h' tk hy ho st' hT hsz hk => ?_
    have ey : y = u := by
      have hy' : its.toArray[i]? = some y := hy
      rw [List.getElem?_toArray, hu] at hy'
      exact (Option.some.inj hy').symm
    subst ey
    refine ⟨_, rfl, wpAny_letOwnedTupleGo_enum (s := { s with heap := h', toks := tk + 1 }) ho fun h'' he' sb => ?_⟩
    have hT2 : h''.get? s.heap.objs.size = some { cls := .type "tuple", data := .seq #[.int i tk, y] } := (sb.2 _ (Nat.ne_of_gt hel)).trans hT
    have new : ObjOk X.prog X.w (upd H s.heap.objs.size (.tup [.int (i : Nat), x])) h'' s.heap.objs.size (.tup [.int (i : Nat), x]) :=
      ⟨by show 2 ≤ sizeLine; decide, [.int i tk, y], .cons ⟨_, rfl⟩ (.cons ru .nil), ⟨_, hT2, rfl, _, rfl⟩⟩
    have I1 : L2.Inv X pins σ (upd H s.heap.objs.size (.tup [.int (i : Nat), x])) { s with heap := h'', toks := tk + 1 } :=
      I.turnedNew (ch := [e, it]) (fun b ob hb q => (sb.2 b (fun z => hb (by simp [z]))).trans (hk b ob (fun z => hb (by simp [z])) (fun z => hb (by simp [z])) q)) hf (Nat.le_refl _) new
    refine ⟨.ref s.heap.objs.size, _, I1, rfl, ⟨_, x, rfl, I.hok.fresh (Nat.le_refl _), rfl, fun ys hy => by rw [inj_S I hy hq]; exact hx⟩, ⟨⟨y, ?_⟩, st'.1.keep fun o q => (sb.2 it (Ne.symm hne)).trans q, hne⟩, fun b hb => ?_⟩
    · have e1 : ((i + 1 : Nat) : Int) = (i : Int) + 1 := by omega
      rw [e1]; exact he'
    · have hb' : b < s.heap.objs.size := by
        have e' : b = e ∨ b = it := by simpa using hb
        rcases e' with z | z
        · rw [z]; exact hel
        · rw [z]; exact hil
      rw [upd_ne (Nat.ne_of_lt hb')]
      exact (hf b hb).1
  done := by
    intro X hP hw hK hc i pins s σ H E I hf st hg
    subst hP hw hK
    obtain ⟨⟨old, he⟩, hit, hne⟩ := st
    obtain ⟨xs, hq, hx⟩ := hg
    obtain ⟨its, rv, pl, hz⟩ := inv_S I hq
    obtain ⟨f0, f1, f2, f3, f4, f5⟩ := hf it (by simp)
    have hn : its.toArray.size = i := by rw [List.size_toArray, ← rv.length]; exact hx
    have D := draws_S (prog := X.prog) (w := X.w) (A := X.A.in1) (I.ok.hd hc) kd it a hai its.toArray
    exact wpAny_pyNext_enum_endD D he (by rw [hn]; exact ⟨hit, pl⟩) fun h' eb => ⟨rfl, I.turned (t' := s.toks) (fun b o hb q => eb b o hb q) f0 f1 f3 f4 f5⟩
  self := fun A i s Q E st h => let ⟨⟨_, he⟩, _⟩ := st; wpAny_pyIter_enum he h
def iEnumS (K : PySem.W.Frag) (ta : TA) : TI := fun σ H R => ta σ H fun vs H1 => ∃ (a : Addr) (kd : Kd), vs = [.ref a] ∧ (∃ xs, Sq K kd H1 a xs) ∧ R (ItE K kd a) H1
theorem pi_enumS {X : Cx} {e : Expr} {ta : TA} {p pos tpos : Pos} {elts : List Expr} {kk : Nat} (hg : Gl X "enumerate") (hm : X.mg "enumerate" = none) (ha : PA X [e] ta) (hs : starEach [e] X.env = [(false, eval e X.env)] := by rfl) :
    PI X (.Tuple elts kk tpos) (.Call (.Name "enumerate" p) [e] [] pos) (iEnumS X.K ta) := by
  refine ⟨fun pins s σ H R I h => ?_⟩
  refine Call_ (ld_blt I hg hm boot_enumerate (PyProof.Rows.callWith_type1 (thn (ha.run pos pins s σ H _ I h) fun us s1 ⟨vs, H1, I1, r1, q1⟩ => ?_) hs rfl))
  obtain ⟨a, kd, ex, ⟨xs, hq⟩, q⟩ := q1
  subst ex
  cases r1 with
  | cons r rr =>
    cases rr
    cases r
    obtain ⟨its, rv, pl, hz⟩ := inv_S I1 hq
    have ha := pl.lt
    refine DL2.call_enum (begins_S kd a its.toArray) pl fun h' he hit hk => wpAny_pyIter_enum he ?_
    have I2 : L2.Inv X pins σ H1 { s1 with heap := h' } := I1.kept (t' := s1.toks) hk
    refine ⟨s1.heap.objs.size + 1, [s1.heap.objs.size + 1, s1.heap.objs.size], _, _, H1, rfl, I2, turn_E kd a (s1.heap.objs.size + 1) s1.heap.objs.size (Nat.ne_of_lt ha) (Nat.ne_of_gt (Nat.lt_succ_of_lt ha)), ⟨⟨.none, he⟩, obS_it hit, Nat.succ_ne_self _⟩, fun b hb => ?_, q⟩
    have e' : b = s1.heap.objs.size + 1 ∨ b = s1.heap.objs.size := by simpa using hb
    have hle : s1.heap.objs.size ≤ b := by
      rcases e' with z | z
      · rw [z]; exact Nat.le_add_right _ _
      · rw [z]; exact Nat.le_refl _
    exact I1.fpOk hle (I1.hok.fresh hle)
/-- pairs of the number and the item -/
def numbered (xs : List Vl) : List Vl := xs.mapIdx fun i x => Vl.tup [.int (i : Int), x]
theorem numbered_len {xs : List Vl} : (numbered xs).length = xs.length := by simp [numbered]
theorem numbered_get {xs : List Vl} {i : Nat} {x : Vl} (h : xs[i]? = some x) : (numbered xs)[i]? = some (.tup [.int (i : Int), x]) := by simp [numbered, h]
theorem pair_still {K : PySem.W.Frag} {c : Cf} {μ : Mu} {H : Hp} {T : Addr} {v u : V} {x y : Vl} (R : RM K c μ H) (hT : H T = none) (r1 : Rep K c v x) (r2 : Rep K c u y) : ∃ c3, Ext c c3 ∧ RM K c3 μ (upd H T (.tup [v, u])) ∧ Rep K c3 (.ref T) (.tup [x, y]) := by
  obtain ⟨R1, E1⟩ := R.still (o := .tup [v, u]) hT
  refine ⟨_, E1, R1, .tup (vs := [v, u]) (.inl (.inl ?_)) (by show 2 ≤ sizeLine; decide) (.cons (r1.up E1.toExt0) (.cons (r2.up E1.toExt0) .nil))⟩
  show upd c.Hd T _ T = _
  exact upd_same
theorem walkD_E {K : PySem.W.Frag} {c : Cf} {μ : Mu} {H : Hp} {v : V} {x : Vl} {xs : List Vl} (R : RM K c μ H) (r : Rep K c v x) (h : sview μ x = some xs) : ∃ a kd, v = .ref a ∧ xs.length ≤ sizeLine ∧ (∃ vs, Sq K kd H a vs) ∧ WalkD K c (ItE K kd a) (numbered xs) (asLong xs x) := by
  obtain ⟨a, vs, kd, e1, hz, hl, st, hq⟩ := stays_at R r h
  have wk : Walk (ItE K kd a) xs.length (fun H => ∃ vs, Sq K kd H a vs ∧ vs.length = xs.length) (fun i H v H' => ∃ T x, v = .ref T ∧ H T = none ∧ H' = upd H T (.tup [.int (i : Nat), x]) ∧ ∀ xs, Sq K kd H a xs → xs[i]? = some x) := by
    refine ⟨fun i H hi g => ?_, fun H g => ?_, fun i H x H' hi g y => y⟩
    · obtain ⟨xs, q, hn⟩ := g
      exact ⟨xs, xs[i]'(by omega), q, by simp [show i < xs.length by omega]⟩
    · obtain ⟨xs, q, hn⟩ := g
      exact ⟨xs, q, hn⟩
  refine ⟨a, kd, e1, hz, ⟨vs, hq⟩, _, _, by rw [numbered_len]; exact wk, fun c2 μ2 H2 E R2 g => ?_, fun i H2 v H3 c2 μ2 hi E R2 g y => ?_⟩
  · obtain ⟨vs2, q, r2⟩ := st c2 μ2 H2 E R2 g
    exact ⟨vs2, q, r2.length⟩
  · obtain ⟨T, u, e2, hT, e3, y⟩ := y
    subst e2; subst e3
    obtain ⟨vs2, q, r2⟩ := st c2 μ2 H2 E R2 g
    obtain ⟨z, e4, rz⟩ := r2.getV (y vs2 q)
    obtain ⟨c3, E3, R3, r3⟩ := pair_still R2 hT (.int (i : Nat)) rz
    exact ⟨c3, _, E3, R3, numbered_get e4, r3⟩
def dEnum (d : DA) : DI := fun ρ μ Q => d ρ μ fun xs μ1 => ∃ x ys, xs = [x] ∧ sview μ1 x = some ys ∧ Q (numbered ys) (asLong ys x) μ1
theorem qi_enum {X : Cx} {e : Expr} {ta : TA} {da : DA} {p pos tpos : Pos} {elts : List Expr} {kk : Nat} (hm : X.mg "enumerate" = none) (ha : QA X [e] ta da) (hg : Gl X "enumerate" := by rfl) (hs : starEach [e] X.env = [(false, eval e X.env)] := by rfl) :
    QI X (.Tuple elts kk tpos) (.Call (.Name "enumerate" p) [e] [] pos) (iEnumS X.K ta) (dEnum da) := by
  refine ⟨pi_enumS hg hm ha.p hs, fun c ρ μ σ H Q P R S h k => ?_⟩
  refine ha.s c ρ μ σ H _ _ R S h fun c1 xs μ1 vs H1 E1 R1 r1 q1 => ?_
  obtain ⟨x, ys, e, hx, q⟩ := q1
  subst e
  obtain ⟨v, e, rv⟩ := reps1 r1
  subst e
  obtain ⟨a, kd, e1, hz, hq, wd⟩ := walkD_E R1 rv hx
  subst e1
  exact ⟨a, kd, rfl, hq, k c1 _ _ μ1 _ H1 E1 R1 (by rw [numbered_len]; exact hz) wd q⟩

/-! ### zip of two -/
def ItZ (K : PySem.W.Frag) (k1 k2 : Kd) (a b : Addr) : It :=
  ⟨fun i H => ∃ xs ys x y, Sq K k1 H a xs ∧ Sq K k2 H b ys ∧ xs[i]? = some x ∧ ys[i]? = some y,
    fun i H v H' => ∃ T x y, v = .ref T ∧ H T = none ∧ H' = upd H T (.tup [x, y]) ∧ (∀ xs, Sq K k1 H a xs → xs[i]? = some x) ∧ ∀ ys, Sq K k2 H b ys → ys[i]? = some y,
    fun i H => ∃ xs ys, Sq K k1 H a xs ∧ Sq K k2 H b ys ∧ i ≤ xs.length ∧ i ≤ ys.length ∧ (i = xs.length ∨ i = ys.length)⟩
theorem turn_Z {P : Program} {w : World} {K : PySem.W.Frag} {elts : List Expr} {kk : Nat} {tpos : Pos} {k1 k2 : Kd} {a b z TI TO i1 i2 : Addr} (S : ZipSep2 z TI TO i1 i2 [i1, a] [i2, b]) (ha : a ≠ i1) (hb : b ≠ i2) :
    Turn P w K (.Tuple elts kk tpos) (ItZ K k1 k2 a b) [z, TI, TO, i1, i2] z (fun i h => IsZip h z TI TO .none ∧ IsTupOf2 h TI (.ref i1) (.ref i2) ∧ (∃ x y, IsTupOf2 h TO x y) ∧ itS k1 h i1 a i ∧ itS k2 h i2 b i) where
  mem := by simp
  obj := fun i h st c hc => by
    obtain ⟨hz, hTI, ⟨x, y, hTO⟩, h1, h2⟩ := st
    have e' : c = z ∨ c = TI ∨ c = TO ∨ c = i1 ∨ c = i2 := by simpa using hc
    rcases e' with q | q | q | q | q
    · rw [q]; exact ⟨_, hz, fun v q => nomatch q⟩
    · rw [q]; exact ⟨_, hTI, fun v q => nomatch q⟩
    · rw [q]; exact ⟨_, hTO, fun v q => nomatch q⟩
    · rw [q]; exact h1.look
    · rw [q]; exact h2.look
  keep := fun i h h' st k => by
    obtain ⟨hz, hTI, ⟨x, y, hTO⟩, h1, h2⟩ := st
    exact ⟨k z (by simp) _ hz, k TI (by simp) _ hTI, ⟨x, y, k TO (by simp) _ hTO⟩, h1.keep fun o q => k i1 (by simp) o q, h2.keep fun o q => k i2 (by simp) o q⟩
  item := by
    intro X hP hw hK hc i pins s σ H E I hf st hg
    subst hP hw hK
    obtain ⟨hz, hTI, ⟨x0, y0, hTO⟩, h1, h2⟩ := st
    obtain ⟨xs, ys, x, y, hqx, hqy, hx, hy⟩ := hg
    obtain ⟨its, rv, pl, _⟩ := inv_S I hqx
    obtain ⟨its2, rv2, pl2, _⟩ := inv_S I hqy
    obtain ⟨u, hu, ru⟩ := rv.get hx
    obtain ⟨u2, hu2, ru2⟩ := rv2.get hy
    have hzl : z < s.heap.objs.size := Heap.lt_size hz
    have n1 : i < its.toArray.size := by rw [List.size_toArray]; exact (List.getElem?_eq_some_iff.mp hu).1
    have n2 : i < its2.toArray.size := by rw [List.size_toArray]; exact (List.getElem?_eq_some_iff.mp hu2).1
    have hh : X.A.in1.handled = none := I.ok.hd hc
    refine wpAny_pyNext_zipD2_item S (draws_S (prog := X.prog) (w := X.w) hh k1 i1 a ha its.toArray) (draws_S (prog := X.prog) (w := X.w) hh k2 i2 b hb its2.toArray) hz hTI hTO ⟨h1, pl⟩ ⟨h2, pl2⟩ n1 n2 fun p1 p2 h' tk e1 e2 z' TO' s1' s2' hT hsz hk => ?_
    have q1 : its.toArray[i]? = some p1 := e1
    have q2 : its2.toArray[i]? = some p2 := e2
    rw [List.getElem?_toArray, hu] at q1
    rw [List.getElem?_toArray, hu2] at q2
    have q1 := Option.some.inj q1
    have q2 := Option.some.inj q2
    subst q1; subst q2
    refine ⟨_, rfl, wpAny_letOwnedTupleGo_zip (s := { s with heap := h', toks := tk }) z' fun h'' z'' sb => ?_⟩
    have hT2 : h''.get? s.heap.objs.size = some { cls := .type "tuple", data := .seq #[u, u2] } := (sb.2 _ (Nat.ne_of_gt hzl)).trans hT
    have new : ObjOk X.prog X.w (upd H s.heap.objs.size (.tup [x, y])) h'' s.heap.objs.size (.tup [x, y]) :=
      ⟨by show 2 ≤ sizeLine; decide, [u, u2], .cons ru (.cons ru2 .nil), ⟨_, hT2, rfl, _, rfl⟩⟩
    have I1 : L2.Inv X pins σ (upd H s.heap.objs.size (.tup [x, y])) { s with heap := h'', toks := tk } :=
      I.turnedNew (ch := [z, TI, TO, i1, i2]) (fun c o hb q => (sb.2 c (fun q' => hb (by simp [q']))).trans (hk c o (fun q' => hb (by simp [q'])) (fun q' => hb (by simp [q'])) (fun q' => hb (by simp [q'])) (fun q' => hb (by simp [q'])) q)) hf (Nat.le_refl _) new
    refine ⟨.ref s.heap.objs.size, _, I1, rfl, ⟨_, x, y, rfl, I.hok.fresh (Nat.le_refl _), rfl, fun l hl => by rw [inj_S I hl hqx]; exact hx, fun l hl => by rw [inj_S I hl hqy]; exact hy⟩, ⟨z'', ?_, ⟨u, u2, ?_⟩, ?_, ?_⟩, fun c hcm => ?_⟩
    · exact (sb.2 _ S.TIz).trans (hk _ _ S.TIz S.TITO S.TIi1 S.TIi2 hTI)
    · exact (sb.2 _ S.TOz).trans TO'
    · exact s1'.1.keep fun o q => (sb.2 _ fun e => S.zf1 (by simp [← e])).trans q
    · exact s2'.1.keep fun o q => (sb.2 _ fun e => S.zf2 (by simp [← e])).trans q
    · have hlt : c < s.heap.objs.size := by
        have e' : c = z ∨ c = TI ∨ c = TO ∨ c = i1 ∨ c = i2 := by simpa using hcm
        rcases e' with q | q | q | q | q
        · rw [q]; exact hzl
        · rw [q]; exact Heap.lt_size hTI
        · rw [q]; exact Heap.lt_size hTO
        · rw [q]; obtain ⟨_, e1, _⟩ := h1.look; exact Heap.lt_size e1
        · rw [q]; obtain ⟨_, e2, _⟩ := h2.look; exact Heap.lt_size e2
      rw [upd_ne (Nat.ne_of_lt hlt)]
      exact (hf c hcm).1
  done := by
    intro X hP hw hK hc i pins s σ H E I hf st hg
    subst hP hw hK
    obtain ⟨hz, hTI, ⟨x0, y0, hTO⟩, h1, h2⟩ := st
    obtain ⟨xs, ys, hqx, hqy, l1, l2, hend⟩ := hg
    obtain ⟨its, rv, pl, _⟩ := inv_S I hqx
    obtain ⟨its2, rv2, pl2, _⟩ := inv_S I hqy
    have hh : X.A.in1.handled = none := I.ok.hd hc
    have m1 := rv.length
    have m2 := rv2.length
    refine wpAny_pyNext_zipD2_end S (draws_S (prog := X.prog) (w := X.w) hh k1 i1 a ha its.toArray) (draws_S (prog := X.prog) (w := X.w) hh k2 i2 b hb its2.toArray) hz hTI hTO ⟨h1, pl⟩ ⟨h2, pl2⟩ (by rw [List.size_toArray]; omega) (by rw [List.size_toArray]; omega) (by rw [List.size_toArray, List.size_toArray]; omega) fun h' tk hk => ?_
    exact ⟨rfl, I.turnedL (t' := tk) (ch := [z, TI, TO, i1, i2]) (fun c o hb q => hk c o (fun q' => hb (by simp [q'])) (fun q' => hb (by simp [q'])) (fun q' => hb (by simp [q'])) (fun q' => hb (by simp [q'])) q) hf⟩
  self := fun A i s Q E st h => wpAny_pyIter_zip st.1 h
def iZipS (K : PySem.W.Frag) (ta : TA) : TI := fun σ H R => ta σ H fun vs H1 => ∃ (a b : Addr) (k1 k2 : Kd), vs = [.ref a, .ref b] ∧ (∃ xs, Sq K k1 H1 a xs) ∧ (∃ ys, Sq K k2 H1 b ys) ∧ R (ItZ K k1 k2 a b) H1
theorem pi_zipS {X : Cx} {e e2 : Expr} {ta : TA} {p pos tpos : Pos} {elts : List Expr} {kk : Nat} (hg : Gl X "zip") (hm : X.mg "zip" = none) (ha : PA X [e, e2] ta)
    (hs : starEach [e, e2] X.env = (false, eval e X.env) :: starEach [e2] X.env := by rfl) (hpl : (backTo pos (starEach [e2] X.env)).any (·.1) = false := by rfl) :
    PI X (.Tuple elts kk tpos) (.Call (.Name "zip" p) [e, e2] [] pos) (iZipS X.K ta) := by
  refine ⟨fun pins s σ H R I h => ?_⟩
  refine Call_ (ld_blt I hg hm PyProof.Rows.boot_zip (PyProof.Rows.callWith_type1 (thn (ha.run pos pins s σ H _ I h) fun us s1 ⟨vs, H1, I1, r1, q1⟩ => ?_) hs hpl))
  obtain ⟨a, b, k1, k2, ex, ⟨xs, hqx⟩, ⟨ys, hqy⟩, q⟩ := q1
  subst ex
  cases r1 with
  | cons r rr =>
    cases rr with
    | cons r' rr =>
      cases rr
      cases r
      cases r'
      obtain ⟨its, rv, pl, _⟩ := inv_S I1 hqx
      obtain ⟨its2, rv2, pl2, _⟩ := inv_S I1 hqy
      have la := pl.lt
      have lb := pl2.lt
      refine zip_begins2 (begins_S k1 a its.toArray) (begins_S k2 b its2.toArray) pl pl2 fun h' hz hTI hTO h1 h2 hsz hk => wpAny_pyIter_zip hz ?_
      have I2 : L2.Inv X pins σ H1 { s1 with heap := h' } := I1.kept (t' := s1.toks) hk
      have S := zip_sep2 (N := s1.heap.objs.size) (fp1 := [a]) (fp2 := [b]) (fun c hc => by rw [List.mem_singleton.mp hc]; exact la) (fun c hc => by rw [List.mem_singleton.mp hc]; exact lb)
      refine ⟨s1.heap.objs.size + 4, [s1.heap.objs.size + 4, s1.heap.objs.size + 2, s1.heap.objs.size + 3, s1.heap.objs.size, s1.heap.objs.size + 1], _, _, H1, rfl, I2, turn_Z S (Nat.ne_of_lt la) (Nat.ne_of_lt (Nat.lt_succ_of_lt lb)), ⟨hz, hTI, ⟨_, _, hTO⟩, obS_it h1, obS_it h2⟩, fun c hcm => ?_, q⟩
      have e' : c = s1.heap.objs.size + 4 ∨ c = s1.heap.objs.size + 2 ∨ c = s1.heap.objs.size + 3 ∨ c = s1.heap.objs.size ∨ c = s1.heap.objs.size + 1 := by simpa using hcm
      have hle : s1.heap.objs.size ≤ c := by
        rcases e' with z | z | z | z | z
        · rw [z]; exact Nat.le_add_right _ _
        · rw [z]; exact Nat.le_add_right _ _
        · rw [z]; exact Nat.le_add_right _ _
        · rw [z]; exact Nat.le_refl _
        · rw [z]; exact Nat.le_add_right _ _
      exact I1.fpOk hle (I1.hok.fresh hle)
def pairD (p : Vl × Vl) : Vl := .tup [p.1, p.2]
def zipD (xs ys : List Vl) : List Vl := (xs.zip ys).map pairD
theorem zipD_len {xs ys : List Vl} : (zipD xs ys).length = min xs.length ys.length := by simp [zipD]
theorem zipD_get {xs ys : List Vl} {i : Nat} {x y : Vl} (h1 : xs[i]? = some x) (h2 : ys[i]? = some y) : (zipD xs ys)[i]? = some (.tup [x, y]) := by
  unfold zipD
  have e : (xs.zip ys)[i]? = some (x, y) := List.getElem?_zip_eq_some.mpr ⟨h1, h2⟩
  rw [List.getElem?_map, e]
  rfl
theorem walkD_Z {K : PySem.W.Frag} {c : Cf} {μ : Mu} {H : Hp} {v v' : V} {x x' : Vl} {xs ys : List Vl} (R : RM K c μ H) (r : Rep K c v x) (h : sview μ x = some xs) (r' : Rep K c v' x') (h' : sview μ x' = some ys) :
    ∃ a b k1 k2, v = .ref a ∧ v' = .ref b ∧ xs.length ≤ sizeLine ∧ (∃ vs, Sq K k1 H a vs) ∧ (∃ vs, Sq K k2 H b vs) ∧ WalkD K c (ItZ K k1 k2 a b) (zipD xs ys) (fun μ => asLong xs x μ ∧ asLong ys x' μ) := by
  obtain ⟨a, vs, k1, e1, hz, hl, st, hq⟩ := stays_at R r h
  obtain ⟨b, ws, k2, e2, hz', hl', st', hq'⟩ := stays_at R r' h'
  have wk : Walk (ItZ K k1 k2 a b) (min xs.length ys.length) (fun H => ∃ vs ws, Sq K k1 H a vs ∧ Sq K k2 H b ws ∧ vs.length = xs.length ∧ ws.length = ys.length)
      (fun i H v H' => ∃ T x y, v = .ref T ∧ H T = none ∧ H' = upd H T (.tup [x, y]) ∧ (∀ xs, Sq K k1 H a xs → xs[i]? = some x) ∧ ∀ ys, Sq K k2 H b ys → ys[i]? = some y) := by
    refine ⟨fun i H hi g => ?_, fun H g => ?_, fun i H x H' hi g y => y⟩
    · obtain ⟨vs, ws, q1, q2, n1, n2⟩ := g
      exact ⟨vs, ws, vs[i]'(by omega), ws[i]'(by omega), q1, q2, by simp [show i < vs.length by omega], by simp [show i < ws.length by omega]⟩
    · obtain ⟨vs, ws, q1, q2, n1, n2⟩ := g
      exact ⟨vs, ws, q1, q2, by omega, by omega, by omega⟩
  refine ⟨a, b, k1, k2, e1, e2, hz, ⟨vs, hq⟩, ⟨ws, hq'⟩, _, _, by rw [zipD_len]; exact wk, fun c2 μ2 H2 E R2 g => ?_, fun i H2 v H3 c2 μ2 hi E R2 g y => ?_⟩
  · obtain ⟨vs2, q, r2⟩ := st c2 μ2 H2 E R2 g.1
    obtain ⟨ws2, q', r2'⟩ := st' c2 μ2 H2 E R2 g.2
    exact ⟨vs2, ws2, q, q', r2.length, r2'.length⟩
  · obtain ⟨T, u, u', e2, hT, e3, y, y'⟩ := y
    subst e2; subst e3
    obtain ⟨vs2, q, r2⟩ := st c2 μ2 H2 E R2 g.1
    obtain ⟨ws2, q', r2'⟩ := st' c2 μ2 H2 E R2 g.2
    obtain ⟨z, e4, rz⟩ := r2.getV (y vs2 q)
    obtain ⟨z', e4', rz'⟩ := r2'.getV (y' ws2 q')
    obtain ⟨c3, E3, R3, r3⟩ := pair_still R2 hT rz rz'
    exact ⟨c3, _, E3, R3, zipD_get e4 e4', r3⟩
def dZip (d : DA) : DI := fun ρ μ Q => d ρ μ fun xs μ1 => ∃ x x' ys zs, xs = [x, x'] ∧ sview μ1 x = some ys ∧ sview μ1 x' = some zs ∧ Q (zipD ys zs) (fun μ => asLong ys x μ ∧ asLong zs x' μ) μ1
theorem qi_zip {X : Cx} {e e2 : Expr} {ta : TA} {da : DA} {p pos tpos : Pos} {elts : List Expr} {kk : Nat} (hm : X.mg "zip" = none) (ha : QA X [e, e2] ta da) (hg : Gl X "zip" := by rfl)
    (hs : starEach [e, e2] X.env = (false, eval e X.env) :: starEach [e2] X.env := by rfl) (hpl : (backTo pos (starEach [e2] X.env)).any (·.1) = false := by rfl) :
    QI X (.Tuple elts kk tpos) (.Call (.Name "zip" p) [e, e2] [] pos) (iZipS X.K ta) (dZip da) := by
  refine ⟨pi_zipS hg hm ha.p hs hpl, fun c ρ μ σ H Q P R S h k => ?_⟩
  refine ha.s c ρ μ σ H _ _ R S h fun c1 xs μ1 vs H1 E1 R1 r1 q1 => ?_
  obtain ⟨x, x', ys, zs, e, hx, hx', q⟩ := q1
  subst e
  cases r1 with
  | cons r1 r2 =>
    obtain ⟨v, e, rv⟩ := reps1 r2
    subst e
    obtain ⟨a, b, k1, k2, e1, e2, hz, hq, hq', wd⟩ := walkD_Z R1 r1 hx rv hx'
    subst e1; subst e2
    exact ⟨a, b, k1, k2, rfl, hq, hq', k c1 _ _ μ1 _ H1 E1 R1 (by rw [zipD_len]; omega) wd q⟩
end DL

/-! DLd: comprehensions, statements, loops, defs. -/
namespace DL
open PySem L2 StX PyProof.Rows

section
variable {X : Cx} {e a b o : Expr} {es : List Expr} {te ta tb to : TE} {de da db do_ : DE} {pos : Pos} {t : TA} {d : DA} {p : Pos} {tt : TT} {dt : DT}

/-! ### targets -/
def dgName (i : Nat) : DG := fun x ρ μ Q => Q (ρ.set i (some x)) μ
def dgNil : DGs := fun xs ρ μ Q => xs = [] ∧ Q ρ μ
def dgCons (g : DG) (u : DGs) : DGs := fun xs ρ μ Q => match xs with
  | x :: r => g x ρ μ fun ρ' μ' => u r ρ' μ' Q
  | [] => False
def dgTup (n : Nat) (u : DGs) : DG := fun x ρ μ Q => match x with
  | .tup xs => xs.length = n ∧ u xs ρ μ Q
  | _ => False
theorem qg_name {i : Nat} {x : Str} (hN : X.N.Nodup) (hi : X.N[i]? = some x := by rfl) (hx : Loc X.env.scope x := by first | exact Or.inl rfl | exact Or.inr rfl) (hf : X.fn x = true ∨ X.env.scope.names.lookup x = some .local := by first | exact .inl rfl | exact .inr rfl) : QG X (.Name x pos) (gName i) (dgName i) :=
  ⟨pg_name hN hi hx hf, fun c ρ μ σ H v x Q P R S r h k => k c _ μ _ H (Ext.refl c) R (S.set i r) h⟩
theorem qgs_nil : QGs X [] gNil dgNil := by
  refine ⟨pgs_nil, fun c ρ μ σ H vs xs Q P R S r h k => ?_⟩
  obtain ⟨e, h⟩ := h
  subst e
  cases r
  exact ⟨rfl, k c ρ μ σ H (Ext.refl c) R S h⟩
theorem qgs_cons {tg : TG} {tgs : TGs} {dg : DG} {dgs : DGs} (h1 : QG X e tg dg) (h2 : QGs X es tgs dgs) (hs : (assignEach (e :: es) X.env).map (·.2) = assign e X.env :: (assignEach es X.env).map (·.2) := by rfl) : QGs X (e :: es) (gCons tg tgs) (dgCons dg dgs) := by
  refine ⟨pgs_cons h1.p h2.p hs, fun c ρ μ σ H vs xs Q P R S r h k => ?_⟩
  unfold dgCons at h
  split at h
  · cases r with
    | cons r1 r2 =>
      refine ⟨_, _, rfl, h1.s c ρ μ σ H _ _ _ _ R S r1 h fun c1 ρ1 μ1 σ1 H1 E1 R1 S1 q1 => ?_⟩
      exact h2.s c1 ρ1 μ1 σ1 H1 _ _ Q P R1 S1 (r2.up E1.toExt0) q1 fun c2 ρ2 μ2 σ2 H2 E2 => k c2 ρ2 μ2 σ2 H2 (E1.trans E2)
  · exact h.elim
theorem qg_tup {kk n : Nat} {tgs : TGs} {dgs : DGs} (hc : X.calm = true) (h : QGs X es tgs dgs) (hn : (assignEach es X.env).length = n := by rfl) (hst : (assignEach es X.env).findIdx? (·.1) = none := by rfl) : QG X (.Tuple es kk pos) (gTup X.K n tgs) (dgTup n dgs) := by
  refine ⟨pg_tup hc h.p hn hst, fun c ρ μ σ H v x Q P R S r hw k => ?_⟩
  unfold dgTup at hw
  split at hw
  · obtain ⟨a, vs, e1, t1, z1, r1⟩ := tup_at R r
    exact ⟨a, vs, e1, t1, by rw [r1.length]; exact hw.1, h.s c ρ μ σ H _ _ Q P R S r1 hw.2 k⟩
  · exact hw.elim
/-- o[i] = .. of a list that may change -/
def dgIx (do_ di : DE) : DG := fun x ρ μ Q => do_ ρ μ fun y μ1 => di ρ μ1 fun i μ2 => ∃ (k : Nat) (n : Int) (xs : List Vl) (j : Nat), y = .ref k ∧ i = .int n ∧ μ2[k]? = some (.lst xs) ∧ ixN xs.length n = some j ∧ Q ρ (μ2.set k (.lst (xs.set j x)))
theorem qg_ix {i : Expr} {ti : TE} {di : DE} (ho : QE X o to do_) (hi : QE X i ti di) (ha : ∀ v, assign (.Subscript o i pos) X.env v = (do
      let ov ← holding [v] (eval o X.env)
      let iv ← holding [v, ov] (eval i X.env)
      standAt pos
      holding [v, ov, iv] (setItem ov iv v)
      release [v, ov, iv] []) := by intro _; rfl) : QG X (.Subscript o i pos) (gSub to ti rSetL) (dgIx do_ di) := by
  refine ⟨pg_sub ho.p hi.p set_list ha, fun c ρ μ σ H v x Q P R S r h k => ?_⟩
  refine ho.s c ρ μ σ H _ _ R S h fun c1 y μ1 v1 H1 E1 R1 r1 q1 => ?_
  refine hi.s c1 ρ μ1 σ H1 _ _ R1 (S.up E1.toExt0) q1 fun c2 z μ2 v2 H2 E2 R2 r2 q2 => ?_
  obtain ⟨j, n, xs, m, e1, e2, hm, hj, q⟩ := q2
  subst e1; subst e2
  cases r2
  obtain ⟨ad, e3, hk, ws, e4, hz4, r4⟩ := ref_at R2 (r1.up E2.toExt0) hm
  subst e3
  have rx := r.up (E1.trans E2).toExt0
  refine ⟨ad, ws, n, m, rfl, rfl, e4, by rw [r4.length]; exact hj, ?_⟩
  exact k c2 ρ _ σ _ (E1.trans E2) (R2.write (m := .lst (xs.set m x)) hk ⟨_, rfl, by rw [List.length_set]; exact hz4, r4.set rx m⟩) (S.up (E1.trans E2).toExt0) q

/-! ### statements -/
variable {st : Stmt} {rest sts : List Stmt} {ts us : TS} {ds du : DS}
def dNext : DS := fun d ρ μ => d.nx ρ μ
def dSeq (x y : DS) : DS := fun d ρ μ => x { d with nx := fun ρ' μ' => y d ρ' μ' } ρ μ
theorem qss_nil : QSs X [] tNext dNext := ⟨pss_nil, fun c ρ μ σ H D d R S k h => k.nx c ρ μ σ H (Ext.refl c) R S h⟩
theorem qss_cons (h1 : QS X st ts ds) (h2 : QSs X rest us du) : QSs X (st :: rest) (tSeq ts us) (dSeq ds du) := by
  refine ⟨pss_cons h1.p h2.p, fun c ρ μ σ H D d R S k h => ?_⟩
  refine h1.s c ρ μ σ H _ _ R S ?_ h
  exact ⟨fun c' ρ' μ' σ' H' E R' S' q => h2.s c' ρ' μ' σ' H' D d R' S' (k.up E) q, k.rt, k.bk, k.ct⟩
theorem qss_one (h1 : QS X st ts ds) : QSs X [st] ts ds := ⟨pss_one h1.p, h1.s⟩
def dBreak : DS := fun d ρ μ => d.bk ρ μ
def dCont : DS := fun d ρ μ => d.ct ρ μ
theorem qs_pass : QS X (.Pass pos) tNext dNext := ⟨ps_pass, fun c ρ μ σ H D d R S k h => k.nx c ρ μ σ H (Ext.refl c) R S h⟩
theorem qs_break : QS X (.Break pos) tBreak dBreak := ⟨ps_break, fun c ρ μ σ H D d R S k h => k.bk c ρ μ σ H (Ext.refl c) R S h⟩
theorem qs_continue : QS X (.Continue pos) tCont dCont := ⟨ps_continue, fun c ρ μ σ H D d R S k h => k.ct c ρ μ σ H (Ext.refl c) R S h⟩
def dDrop (de : DE) : DS := fun d ρ μ => de ρ μ fun _ μ1 => d.nx ρ μ1
theorem qs_expr (he : QE X e te de) (hs : swapsWith e none pos.line X.env = pure false := by rfl) : QS X (.Expr e pos) (tDrop te) (dDrop de) := by
  refine ⟨ps_expr he.p hs, fun c ρ μ σ H D d R S k h => ?_⟩
  exact he.s c ρ μ σ H _ _ R S h fun c1 x μ1 v H1 E1 R1 r1 q1 => k.nx c1 ρ μ1 σ H1 E1 R1 (S.up E1.toExt0) q1
def dRet (de : DE) : DS := fun d ρ μ => de ρ μ d.rt
theorem qs_ret (he : QE X e te de) : QS X (.Return (some e) pos) (tRet te) (dRet de) := by
  refine ⟨ps_ret he.p, fun c ρ μ σ H D d R S k h => ?_⟩
  exact he.s c ρ μ σ H _ _ R S h fun c1 x μ1 v H1 E1 R1 r1 q1 => k.rt c1 x μ1 v H1 E1 R1 r1 q1
def dRetN : DS := fun d _ μ => d.rt .non μ
theorem qs_retN : QS X (.Return none pos) tRetN dRetN := ⟨ps_retN, fun c ρ μ σ H D d R S k h => k.rt c .non μ .non H (Ext.refl c) R .non h⟩
def dIf (dt : DT) (x y : DS) : DS := fun d ρ μ => dt ρ μ fun b μ1 => match b with
  | true => x d ρ μ1
  | false => y d ρ μ1
theorem qs_if {c : Expr} {x y : List Stmt} (hc : QT X c tt dt) (ha : QSs X x ts ds) (hb : QSs X y us du) : QS X (.If c x y pos) (tIfS tt ts us) (dIf dt ds du) := by
  refine ⟨ps_if hc.p ha.p hb.p, fun c ρ μ σ H D d R S k h => ?_⟩
  refine hc.s c ρ μ σ H _ _ R S h fun c1 z μ1 H1 E1 R1 q1 => ?_
  cases z with
  | true =>
    rw [if_pos rfl]
    exact ha.s c1 ρ μ1 σ H1 D d R1 (S.up E1.toExt0) (k.up E1) q1
  | false =>
    rw [if_neg Bool.false_ne_true]
    exact hb.s c1 ρ μ1 σ H1 D d R1 (S.up E1.toExt0) (k.up E1) q1
def dAsg (de : DE) (g : DG) : DS := fun d ρ μ => de ρ μ fun x μ1 => g x ρ μ1 d.nx
theorem sim_asg {K : PySem.W.Frag} {tg : TG} {dg : DG} (he : SimE K te de) (hg : SimG K tg dg) : SimS K (tAsg te tg) (dAsg de dg) := by
  intro c ρ μ σ H D d R S k h
  refine he c ρ μ σ H _ _ R S h fun c1 x μ1 v H1 E1 R1 r1 q1 => ?_
  exact hg c1 ρ μ1 σ H1 v x _ _ R1 (S.up E1.toExt0) r1 q1 fun c2 ρ2 μ2 σ2 H2 E2 R2 S2 q2 => k.nx c2 ρ2 μ2 σ2 H2 (E1.trans E2) R2 S2 q2
theorem qs_asg {tgt : Expr} {tg : TG} {dg : DG} (he : QE X e te de) (hg : QG X tgt tg dg) (hs : swapsWithSole [tgt] e pos.line X.env = pure false := by rfl) (hw : swappedStores [tgt] e X.env = pure none := by rfl) (h1 : (assignEach [tgt] X.env).map (·.2) = [assign tgt X.env] := by rfl) :
    QS X (.Assign [tgt] e pos) (tAsg te tg) (dAsg de dg) := ⟨ps_asg he.p hg.p hs hw h1, sim_asg he.s hg.s⟩
theorem qs_set (i : Nat) {x : Str} {pos' : Pos} (hN : X.N.Nodup) (he : QE X e te de) (hi : X.N[i]? = some x := by rfl) (hx : Loc X.env.scope x := by first | exact Or.inl rfl | exact Or.inr rfl) (hs : swapsWith e (some (.Name x pos')) pos.line X.env = pure false := by rfl)
    (hf : X.fn x = true ∨ X.env.scope.names.lookup x = some .local := by first | exact .inl rfl | exact .inr rfl) : QS X (.Assign [.Name x pos'] e pos) (tAsg te (gName i)) (dAsg de (dgName i)) :=
  ⟨ps_set hN hi hx he.p hs hf, sim_asg he.s (qg_name (X := X) (pos := pos) hN hi hx hf).s⟩
/-- a, b = x, y with plain local names -/
def dPar (i j : Nat) (d : DA) : DS := fun D ρ μ => d ρ μ fun xs μ1 => match xs with
  | [x, y] => D.nx ((ρ.set i (some x)).set j (some y)) μ1
  | _ => False
theorem qs_par (i j : Nat) {x y : Str} {px py pt : Pos} {kt k2 pt2} (hc : X.calm = true) (hN : X.N.Nodup) (ha : QA X [a, b] t d) (hi : X.N[i]? = some x := by rfl) (hj : X.N[j]? = some y := by rfl) (hij : i ≠ j := by decide)
    (hx : X.env.scope.names.lookup x = some .local := by rfl) (hy : X.env.scope.names.lookup y = some .local := by rfl) (hw : swappedStores [.Tuple [.Name x px, .Name y py] kt pt] (.Tuple [a, b] k2 pt2) X.env = pure (some [x, y]) := by rfl)
    (hs : swapsWithSole [.Tuple [.Name x px, .Name y py] kt pt] (.Tuple [a, b] k2 pt2) pos.line X.env = pure false := by rfl) : QS X (.Assign [.Tuple [.Name x px, .Name y py] kt pt] (.Tuple [a, b] k2 pt2) pos) (tPar i j t) (dPar i j d) := by
  refine ⟨ps_par hc hN hi hj hij hx hy ha.p hw hs, fun c ρ μ σ H D d R S k h => ?_⟩
  refine ha.s c ρ μ σ H _ _ R S h fun c1 xs μ1 vs H1 E1 R1 r1 q1 => ?_
  split at q1
  · cases r1 with
    | cons r1 r2 =>
      obtain ⟨v, e, r3⟩ := reps1 r2
      subst e
      exact ⟨_, _, rfl, k.nx c1 _ μ1 _ H1 E1 R1 (((S.up E1.toExt0).set i r1).set j r3) q1⟩
  · exact q1.elim

/-! ### loops -/
def forD (G : Mu → Prop) (g : DG) (body : DS) (d : DEnds) : List Vl → Rho → Mu → Prop
  | [], ρ, μ => G μ ∧ d.nx ρ μ
  | x :: r, ρ, μ => G μ ∧ g x ρ μ fun ρ2 μ2 => body { d with nx := forD G g body d r, ct := forD G g body d r, bk := d.nx } ρ2 μ2
def dFor (di : DI) (g : DG) (body : DS) : DS := fun d ρ μ => di ρ μ fun xs G μ1 => forD G g body d xs ρ μ1
theorem qs_for {tgt iter : Expr} {wi : TI} {di : DI} {tg : TG} {dg : DG} (hp : PassesOwn (model X.prog X.w) X.A X.env X.xe) (hc : X.calm = true) (hi : QI X tgt iter wi di) (hg : QG X tgt tg dg) (hb : QSs X sts ts ds)
    (hs : ∀ x, foldedSetIterable iter X.env x = pure x := by intro _; rfl) : QS X (.For tgt iter sts [] pos) (tFor wi tg ts) (dFor di dg ds) := by
  refine ⟨ps_for hp hc hi.p hg.p hb.p hs, fun c ρ μ σ H D d R S k h => ?_⟩
  refine hi.s c ρ μ σ H _ _ R S h fun c1 xs G μ1 J H1 E1 R1 hz wd q1 => ?_
  obtain ⟨Gh, Y, wk, hG, hY⟩ := wd
  have here : ∀ (i : Nat), (fun (σ : L2.St) (H : Hp) => ∃ c2 ρ2 μ2, Ext c1 c2 ∧ RM X.K c2 μ2 H ∧ RS X.K c2 ρ2 σ ∧ forD G dg ds d (xs.drop i) ρ2 μ2) = fun (σ : L2.St) (H : Hp) => ∃ c2 ρ2 μ2, Ext c1 c2 ∧ RM X.K c2 μ2 H ∧ RS X.K c2 ρ2 σ ∧ forD G dg ds d (xs.drop i) ρ2 μ2 := fun _ => rfl
  refine for_it wk (fun i σ H => ∃ c2 ρ2 μ2, Ext c1 c2 ∧ RM X.K c2 μ2 H ∧ RS X.K c2 ρ2 σ ∧ forD G dg ds d (xs.drop i) ρ2 μ2) ⟨c1, ρ, μ1, Ext.refl c1, R1, S.up E1.toExt0, q1⟩ (fun i σ H hi pv => ?_) (fun i v σ H H' hi pv y => ?_) fun σ H pv => ?_
  · obtain ⟨c2, ρ2, μ2, E2, R2, S2, q2⟩ := pv
    refine hG c2 μ2 H E2.toExt0 R2 ?_
    cases hx : xs.drop i with
    | nil => rw [hx] at q2; exact q2.1
    | cons z r => rw [hx] at q2; exact q2.1
  · obtain ⟨c2, ρ2, μ2, E2, R2, S2, q2⟩ := pv
    rw [List.drop_eq_getElem_cons hi] at q2
    obtain ⟨g, q2⟩ := q2
    obtain ⟨c3, x, E3, R3, e3, r3⟩ := hY i H v H' c2 μ2 hi E2.toExt0 R2 g y
    rw [List.getElem?_eq_getElem hi] at e3
    have e3 := Option.some.inj e3
    subst e3
    refine hg.s c3 ρ2 μ2 σ H' v _ _ _ R3 (S2.up E3.toExt0) r3 q2 fun c4 ρ4 μ4 σ4 H4 E4 R4 S4 q4 => ?_
    have E14 := (E2.trans E3).trans E4
    refine hb.s c4 ρ4 μ4 σ4 H4 _ _ R4 S4 ?_ q4
    refine ⟨fun c5 ρ5 μ5 σ5 H5 E5 R5 S5 q5 => ⟨c5, ρ5, μ5, E14.trans E5, R5, S5, q5⟩, fun c5 x5 μ5 v5 H5 E5 R5 r5 q5 => k.rt c5 x5 μ5 v5 H5 ((E1.trans E14).trans E5) R5 r5 q5, fun c5 ρ5 μ5 σ5 H5 E5 R5 S5 q5 => k.nx c5 ρ5 μ5 σ5 H5 ((E1.trans E14).trans E5) R5 S5 q5, fun c5 ρ5 μ5 σ5 H5 E5 R5 S5 q5 => ⟨c5, ρ5, μ5, E14.trans E5, R5, S5, q5⟩⟩
  · obtain ⟨c2, ρ2, μ2, E2, R2, S2, q2⟩ := pv
    rw [List.drop_length] at q2
    exact k.nx c2 ρ2 μ2 σ H (E1.trans E2) R2 S2 q2.2
def dWhile (dt : DT) (body : DS) : DS := fun d ρ μ => ∃ W : Nat → Rho → Mu → Prop, (∃ m, W m ρ μ) ∧ ∀ m ρ μ, W m ρ μ → dt ρ μ fun b μ1 => match b with
  | true => body { d with nx := fun ρ' μ' => ∃ m', m' < m ∧ W m' ρ' μ', ct := fun ρ' μ' => ∃ m', m' < m ∧ W m' ρ' μ', bk := d.nx } ρ μ1
  | false => d.nx ρ μ1
theorem qs_while {c : Expr} (hp : PassesOwn (model X.prog X.w) X.A X.env X.xe) (hc : QT X c tt dt) (hb : QSs X sts ts ds) : QS X (.While c sts [] pos) (tWhile tt ts) (dWhile dt ds) := by
  refine ⟨ps_while hp hc.p hb.p, fun c ρ μ σ H D d R S k h => ?_⟩
  obtain ⟨W, ⟨m0, w0⟩, turn⟩ := h
  refine ⟨fun m σ H => ∃ c2 ρ2 μ2, Ext c c2 ∧ RM X.K c2 μ2 H ∧ RS X.K c2 ρ2 σ ∧ W m ρ2 μ2, ⟨m0, c, ρ, μ, Ext.refl c, R, S, w0⟩, fun m σ1 H1 pv => ?_⟩
  obtain ⟨c2, ρ2, μ2, E2, R2, S2, w2⟩ := pv
  refine hc.s c2 ρ2 μ2 σ1 H1 _ _ R2 S2 (turn m ρ2 μ2 w2) fun c3 z μ3 H3 E3 R3 q3 => ?_
  have E13 := E2.trans E3
  cases z with
  | true =>
    rw [if_pos rfl]
    refine ⟨fun σ H => ∃ m', m' < m ∧ ∃ c2 ρ2 μ2, Ext c c2 ∧ RM X.K c2 μ2 H ∧ RS X.K c2 ρ2 σ ∧ W m' ρ2 μ2, fun σ' H' n => n, ?_⟩
    refine hb.s c3 ρ2 μ3 σ1 H3 _ _ R3 (S2.up E3.toExt0) ?_ q3
    exact ⟨fun c5 ρ5 μ5 σ5 H5 E5 R5 S5 ⟨m', hm, q5⟩ => ⟨m', hm, c5, ρ5, μ5, E13.trans E5, R5, S5, q5⟩, fun c5 x5 μ5 v5 H5 E5 R5 r5 q5 => k.rt c5 x5 μ5 v5 H5 (E13.trans E5) R5 r5 q5,
      fun c5 ρ5 μ5 σ5 H5 E5 R5 S5 q5 => k.nx c5 ρ5 μ5 σ5 H5 (E13.trans E5) R5 S5 q5, fun c5 ρ5 μ5 σ5 H5 E5 R5 S5 ⟨m', hm, q5⟩ => ⟨m', hm, c5, ρ5, μ5, E13.trans E5, R5, S5, q5⟩⟩
  | false =>
    rw [if_neg Bool.false_ne_true]
    exact k.nx c3 ρ2 μ3 σ1 H3 E13 R3 (S2.up E3.toExt0) q3

/-! ### comprehensions -/
def wipeD (ρ : Rho) : List Nat → Rho
  | [] => ρ
  | v :: vs => (wipeD ρ vs).set v none
theorem RS.none {K : PySem.W.Frag} {c : Cf} {ρ : Rho} {σ : L2.St} (h : RS K c ρ σ) (i : Nat) : RS K c (ρ.set i none) (σ.set i none) := by
  refine ⟨by rw [List.length_set, List.length_set]; exact h.len, fun j y e => ?_⟩
  by_cases hj : i = j
  · subst hj
    by_cases hl : i < ρ.length
    · rw [List.getElem?_set_self hl] at e
      cases e
    · rw [List.getElem?_eq_none (by rw [List.length_set]; omega)] at e
      cases e
  · rw [List.getElem?_set_ne hj] at e
    rw [List.getElem?_set_ne hj]
    exact h.get j y e
theorem RS.wipe {K : PySem.W.Frag} {c : Cf} {ρ : Rho} {σ : L2.St} (h : RS K c ρ σ) : ∀ vs : List Nat, RS K c (wipeD ρ vs) (L2.wipe σ vs)
  | [] => h
  | v :: vs => (RS.wipe h vs).none v
/-- the items made of those that are left; what ends with acc -/
def lcD (G : Mu → Prop) (g : DG) (dt : DT) (de : DE) (ρ : Rho) (Q : List Vl → Mu → Prop) : List Vl → List Vl → Mu → Prop
  | [], acc, μ => G μ ∧ Q acc μ
  | x :: r, acc, μ => G μ ∧ g x ρ μ fun ρ2 μ2 => dt ρ2 μ2 fun b μ3 => match b with
    | true => de ρ2 μ3 fun y μ4 => lcD G g dt de ρ Q r (acc ++ [y]) μ4
    | false => lcD G g dt de ρ Q r acc μ3
def dLc (di : DI) (g : DG) (dt : DT) (de : DE) (vs : List Nat) : DE := fun ρ μ Q => di ρ μ fun xs G μ1 => lcD G g dt de (wipeD ρ vs) (fun acc μ2 => newL acc μ2 Q) xs [] μ1
/-- a target changes the slots at vs alone -/
def InSlots (tg : TG) (vs : List Nat) : Prop := ∀ (v : V) (σ : L2.St) (H : Hp) (P P' : L2.St → Hp → Prop), (∀ σ2 H2, L2.wipe σ2 vs = L2.wipe σ vs → P σ2 H2 → P' σ2 H2) → tg v σ H P → tg v σ H P'
def InSlotss (tg : TGs) (vs : List Nat) : Prop := ∀ (ws : List V) (σ : L2.St) (H : Hp) (P P' : L2.St → Hp → Prop), (∀ σ2 H2, L2.wipe σ2 vs = L2.wipe σ vs → P σ2 H2 → P' σ2 H2) → tg ws σ H P → tg ws σ H P'
theorem wipe_get (σ : L2.St) (k : Nat) : ∀ vs : List Nat, (L2.wipe σ vs)[k]? = if k ∈ vs then (σ[k]?).map (fun _ => none) else σ[k]?
  | [] => by simp [L2.wipe]
  | v :: vs => by
    unfold L2.wipe
    have ih := wipe_get σ k vs
    have hl := wipe_length σ vs
    by_cases hv : v = k
    · subst hv
      rw [if_pos List.mem_cons_self]
      by_cases hk : v < σ.length
      · rw [List.getElem?_set_self (by rw [hl]; exact hk), List.getElem?_eq_getElem hk]
        rfl
      · rw [List.getElem?_eq_none (by rw [List.length_set, hl]; omega), List.getElem?_eq_none (by omega)]
        rfl
    · rw [List.getElem?_set_ne hv, ih]
      by_cases hm : k ∈ vs
      · rw [if_pos hm, if_pos (List.mem_cons_of_mem _ hm)]
      · rw [if_neg hm, if_neg (by simp only [List.mem_cons, not_or]; exact ⟨fun e => hv e.symm, hm⟩)]
theorem wipe_set {σ : L2.St} {i : Nat} {x : Option V} {vs : List Nat} (h : i ∈ vs) : L2.wipe (σ.set i x) vs = L2.wipe σ vs := by
  apply List.ext_getElem?
  intro k
  rw [wipe_get, wipe_get]
  by_cases hk : k ∈ vs
  · rw [if_pos hk, if_pos hk]
    by_cases hi : i = k
    · subst hi
      by_cases hl : i < σ.length
      · rw [List.getElem?_set_self hl, List.getElem?_eq_getElem hl]; rfl
      · rw [List.getElem?_eq_none (by rw [List.length_set]; omega), List.getElem?_eq_none (by omega)]
    · rw [List.getElem?_set_ne hi]
  · rw [if_neg hk, if_neg hk, List.getElem?_set_ne (fun (e : i = k) => hk (by rw [← e]; exact h))]
theorem wipe_wipe {σ : L2.St} {vs : List Nat} : L2.wipe (L2.wipe σ vs) vs = L2.wipe σ vs := by
  apply List.ext_getElem?
  intro k
  rw [wipe_get, wipe_get]
  by_cases hk : k ∈ vs
  · rw [if_pos hk, if_pos hk]
    cases σ[k]? <;> rfl
  · rw [if_neg hk, if_neg hk]
theorem is_name {i : Nat} {vs : List Nat} (h : i ∈ vs) : InSlots (gName i) vs := fun _ _ _ _ _ k q => k _ _ (wipe_set h) q
theorem is_nil {vs : List Nat} : InSlotss gNil vs := fun _ _ _ _ _ k q => ⟨q.1, k _ _ rfl q.2⟩
theorem is_cons {tg : TG} {tgs : TGs} {vs : List Nat} (h1 : InSlots tg vs) (h2 : InSlotss tgs vs) : InSlotss (gCons tg tgs) vs := fun ws σ H P P' k q => by
  obtain ⟨v, r, e, q⟩ := q
  refine ⟨v, r, e, h1 v σ H _ _ (fun σ1 H1 e1 q1 => ?_) q⟩
  exact h2 r σ1 H1 P P' (fun σ2 H2 e2 q2 => k σ2 H2 (e2.trans e1) q2) q1
theorem is_tup {K : PySem.W.Frag} {n : Nat} {tgs : TGs} {vs : List Nat} (h : InSlotss tgs vs) : InSlots (gTup K n tgs) vs := fun v σ H P P' k q => by
  obtain ⟨a, xs, e1, e2, e3, q⟩ := q
  exact ⟨a, xs, e1, e2, e3, h xs σ H P P' k q⟩
def dYes : DT := fun _ μ Q => Q true μ
theorem qts_nil : QTs X [] tYes dYes := ⟨pts_nil, fun c ρ μ σ H Q P R S h k => k c true μ H (Ext.refl c) R h⟩
theorem qts_one (h : QT X e tt dt) : QTs X [e] tt dt := ⟨pts_one h.p, h.s⟩
theorem sim_lc {K : PySem.W.Frag} {wi : TI} {di : DI} {tg : TG} {dg : DG} {vs : List Nat} (hi : SimI K wi di) (hg : SimG K tg dg) (hw : InSlots tg vs) (ht : SimT K tt dt) (he : SimE K te de) : SimE K (tLc wi tg tt te vs) (dLc di dg dt de vs) := by
  intro c ρ μ σ H Q P R S h k
  refine hi c ρ μ σ H _ _ R S h fun c1 xs G μ1 J H1 E1 R1 hz wd q1 => ?_
  obtain ⟨Gh, Y, wk, hG, hY⟩ := wd
  intro D hD
  have hF : c1.Fr D = none := R1.fsb.free hD
  have Sw : RS K c1 (wipeD ρ vs) (L2.wipe σ vs) := (S.up E1.toExt0).wipe vs
  refine lc_it wk (fun i H => ∃ c2 μ2 acc ws, Ext0 c1 c2 ∧ c2.Fr = upd c1.Fr D (.lst ws) ∧ RM K c2 μ2 H ∧ Reps K c2 ws acc ∧ acc.length ≤ i ∧ lcD G dg dt de (wipeD ρ vs) (fun acc μ2 => newL acc μ2 Q) (xs.drop i) acc μ2) ⟨⟨c1.al, c1.Hd, upd c1.Fr D (.lst [])⟩, μ1, [], [], ⟨fun _ _ z => z, Same.refl _⟩, rfl, R1.aside hD, .nil, Nat.le_refl _, q1⟩ (fun i H2 hi pv => ?_) (fun i v H2 H3 hi pv y => ?_) fun H2 pv => ?_
  · obtain ⟨c2, μ2, acc, ws, E2, f2, R2, r2, l2, q2⟩ := pv
    refine hG c2 μ2 H2 E2 R2 ?_
    cases hx : xs.drop i with
    | nil => rw [hx] at q2; exact q2.1
    | cons z r => rw [hx] at q2; exact q2.1
  · obtain ⟨c2, μ2, acc, ws, E2, f2, R2, r2, l2, q2⟩ := pv
    rw [List.drop_eq_getElem_cons hi] at q2
    obtain ⟨g, q2⟩ := q2
    obtain ⟨c3, x, E3, R3, e3, r3⟩ := hY i H2 v H3 c2 μ2 hi E2 R2 g y
    rw [List.getElem?_eq_getElem hi] at e3
    have e3 := Option.some.inj e3
    subst e3
    refine hw v (L2.wipe σ vs) H3 (fun σ2 H2 => tt σ2 H2 fun b H3 => if b = true then te σ2 H3 fun y H4 => ∃ acc, H4 D = some (.lst acc) ∧ acc.length < sizeLine ∧ _ else _) _ (fun σ4 H4 e4 q4 => ⟨e4.trans wipe_wipe, q4⟩) ?_
    refine hg c3 (wipeD ρ vs) μ2 (L2.wipe σ vs) H3 v _ _ _ R3 ((Sw.up E2).up E3.toExt0) r3 q2 fun c4 ρ4 μ4 σ4 H4 E4 R4 S4 q4 => ?_
    refine ht c4 ρ4 μ4 σ4 H4 _ _ R4 S4 q4 fun c5 b μ5 H5 E5 R5 q5 => ?_
    have E25 := (E3.trans E4).trans E5
    cases b with
    | true =>
      rw [if_pos rfl]
      refine he c5 ρ4 μ5 σ4 H5 _ _ R5 (S4.up E5.toExt0) q5 fun c6 z μ6 u H6 E6 R6 r6 q6 => ?_
      have E26 := E25.trans E6
      have f6 : c6.Fr = upd c1.Fr D (.lst ws) := E26.fr.trans f2
      have hD6 : c6.Fr D = some (.lst ws) := by rw [f6]; exact upd_same
      have la : acc.length = ws.length := r2.length.symm
      refine ⟨ws, R6.fsb _ _ hD6, by omega, ⟨c6.al, c6.Hd, upd c6.Fr D (.lst (ws ++ [u]))⟩, μ6, acc ++ [z], ws ++ [u], ?_, ?_, R6.asideW hD6, ?_, ?_, q6⟩
      · exact ⟨(E2.trans E26.toExt0).al, (E2.trans E26.toExt0).hd⟩
      · show upd c6.Fr D _ = _
        rw [f6, upd_upd]
      · have E0 : Ext0 c6 ⟨c6.al, c6.Hd, upd c6.Fr D (.lst (ws ++ [u]))⟩ := ⟨fun _ _ z => z, Same.refl _⟩
        exact ((r2.up E26.toExt0).append (.one r6)).up E0
      · rw [List.length_append]
        show acc.length + 1 ≤ i + 1
        omega
    | false =>
      rw [if_neg Bool.false_ne_true]
      exact ⟨c5, μ5, acc, ws, E2.trans E25.toExt0, E25.fr.trans f2, R5, r2.up E25.toExt0, by omega, q5⟩
  · obtain ⟨c2, μ2, acc, ws, E2, f2, R2, r2, l2, q2⟩ := pv
    rw [List.drop_length] at q2
    obtain ⟨g, q2⟩ := q2
    have hD2 : c2.Fr D = some (.lst ws) := by rw [f2]; exact upd_same
    have hF2 : ∀ b u, c1.Fr b = some u → c2.Fr b = some u := fun b u e => by
      rw [f2, upd_ne (ne_of_none e hF)]; exact e
    have lacc : acc.length ≤ sizeLine := by omega
    rcases q2 with q2 | q2
    · obtain ⟨R9, E9⟩ := R2.asideStill hD2 hF hF2
      refine k _ _ _ _ _ ⟨(E1.toExt0.trans E2).trans E9, E1.fr⟩ R9 (.lst ?_ lacc (r2.up E9)) q2
      show upd c2.Hd D _ D = _
      exact upd_same
    · have E9 : Ext0 c2 ⟨c2.al ++ [D], c2.Hd, c1.Fr⟩ := ⟨fun k a h => by
        show (c2.al ++ [D])[k]? = some a
        rw [List.getElem?_append_left (List.getElem?_eq_some_iff.mp h).1]; exact h, Same.refl _⟩
      obtain ⟨R9, _⟩ := R2.asideFresh (m := .lst acc) hD2 hF hF2 ⟨ws, rfl, lacc, r2.up E9⟩
      refine k _ _ _ _ _ ⟨(E1.toExt0.trans E2).trans E9, E1.fr⟩ R9 (.ref ?_) q2
      show (c2.al ++ [D])[μ2.length]? = some D
      rw [← R2.len]; simp
/-- the readings that data have by themselves -/
def canE (K : PySem.W.Frag) (de : DE) : TE := fun σ H P => ∃ c ρ μ Q, RM K c μ H ∧ RS K c ρ σ ∧ de ρ μ Q ∧ ∀ c' x μ' v H', Ext c c' → RM K c' μ' H' → Rep K c' v x → Q x μ' → P v H'
def canT (K : PySem.W.Frag) (dt : DT) : TT := fun σ H P => ∃ c ρ μ Q, RM K c μ H ∧ RS K c ρ σ ∧ dt ρ μ Q ∧ ∀ c' b μ' H', Ext c c' → RM K c' μ' H' → Q b μ' → P b H'
def canG (K : PySem.W.Frag) (dg : DG) (vs : List Nat) : TG := fun v σ H P => ∃ c ρ μ x Q, RM K c μ H ∧ RS K c ρ σ ∧ Rep K c v x ∧ dg x ρ μ Q ∧ ∀ c' ρ' μ' σ' H', L2.wipe σ' vs = L2.wipe σ vs → Ext c c' → RM K c' μ' H' → RS K c' ρ' σ' → Q ρ' μ' → P σ' H'
theorem can_e {K : PySem.W.Frag} : SimE K (canE K de) de := fun c ρ μ σ H Q P R S h k => ⟨c, ρ, μ, Q, R, S, h, k⟩
theorem can_t {K : PySem.W.Frag} : SimT K (canT K dt) dt := fun c ρ μ σ H Q P R S h k => ⟨c, ρ, μ, Q, R, S, h, k⟩
theorem can_g {K : PySem.W.Frag} {dg : DG} {vs : List Nat} : SimG K (canG K dg vs) dg := fun c ρ μ σ H v x Q P R S r h k => ⟨c, ρ, μ, x, Q, R, S, r, h, fun c' ρ' μ' σ' H' _ => k c' ρ' μ' σ' H'⟩
theorem can_is {K : PySem.W.Frag} {dg : DG} {vs : List Nat} : InSlots (canG K dg vs) vs := fun v σ H P P' k ⟨c, ρ, μ, x, Q, R, S, r, h, q⟩ => ⟨c, ρ, μ, x, Q, R, S, r, h, fun c' ρ' μ' σ' H' e E' R' S' z => k σ' H' e (q c' ρ' μ' σ' H' e E' R' S' z)⟩
theorem pe_can (h : ∃ te, QE X e te de) : PE X e (canE X.K de) := by
  obtain ⟨te, h⟩ := h
  exact ⟨fun pins s σ H P I ⟨c, ρ, μ, Q, R, S, q, k⟩ => h.p.run pins s σ H P I (h.s c ρ μ σ H Q P R S q k)⟩
theorem pts_can {ifs : List Expr} (h : ∃ tt, QTs X ifs tt dt) : PTs X ifs (canT X.K dt) := by
  obtain ⟨tt, h⟩ := h
  exact ⟨fun pins s σ H P I ⟨c, ρ, μ, Q, R, S, q, k⟩ => h.p.run pins s σ H P I (h.s c ρ μ σ H Q P R S q k)⟩
theorem pg_can {tgt : Expr} {dg : DG} {vs : List Nat} (h : ∃ tg, QG X tgt tg dg ∧ InSlots tg vs) : PG X tgt (canG X.K dg vs) := by
  obtain ⟨tg, h, hw⟩ := h
  refine ⟨fun pins s σ H v u P I rv ⟨c, ρ, μ, x, Q, R, S, r, q, k⟩ => h.p.run pins s σ H v u P I rv ?_⟩
  exact hw v σ H (fun σ' H' => ∃ c' ρ' μ', Ext c c' ∧ RM X.K c' μ' H' ∧ RS X.K c' ρ' σ' ∧ Q ρ' μ') P (fun σ2 H2 e2 ⟨c', ρ', μ', E', R', S', q'⟩ => k c' ρ' μ' σ2 H2 e2 E' R' S' q') (h.s c ρ μ σ H v x Q _ R S r q fun c' ρ' μ' σ' H' E' R' S' q' => ⟨c', ρ', μ', E', R', S', q'⟩)
variable {elt tgt iter : Expr} {ifs : List Expr} {scope : Scope} {own : List (Str × Nat)} {wi : TI} {di : DI} {dg : DG}
theorem q_lc (own : List (Str × Nat)) (hc : X.calm = true) (hN : X.N.Nodup) (hi : QI X tgt iter wi di) (ok : BlkOk X.N X.env.scope scope own)
    (hg : ∀ (s : Shared) (H : Hp) (C : Addr) (cl : List (Str × Addr)) (fp : List Addr), ∃ tg, QG (X.blk s H scope (compEnvC scope cl C X.env) fp) tgt tg dg ∧ InSlots tg (own.map (·.2)))
    (ht : ∀ (s : Shared) (H : Hp) (C : Addr) (cl : List (Str × Addr)) (fp : List Addr), ∃ tt, QTs (X.blk s H scope (compEnvC scope cl C X.env) fp) ifs tt dt)
    (he : ∀ (s : Shared) (H : Hp) (C : Addr) (cl : List (Str × Addr)) (fp : List Addr), ∃ te, QE (X.blk s H scope (compEnvC scope cl C X.env) fp) elt te de) (hs : ∀ x, foldedSetIterable iter X.env x = pure x := by intro _; rfl) :
    QE X (.ListComp elt [⟨tgt, iter, ifs, 0⟩] scope pos) (tLc wi (canG X.K dg (own.map (·.2))) (canT X.K dt) (canE X.K de) (own.map (·.2))) (dLc di dg dt de (own.map (·.2))) :=
  ⟨pe_lc hc hN hi.p ok (fun s H C cl fp => pg_can (hg s H C cl fp)) (fun s H C cl fp => pts_can (ht s H C cl fp)) (fun s H C cl fp => pe_can (he s H C cl fp)) hs, sim_lc hi.s can_g can_is can_t can_e⟩
theorem qs_setLc (i : Nat) {y : Str} {py spos : Pos} (own : List (Str × Nat)) (hc : X.calm = true) (hN : X.N.Nodup) (hi : QI X tgt iter wi di) (ok : BlkOk X.N X.env.scope scope own)
    (hg : ∀ (s : Shared) (H : Hp) (C : Addr) (cl : List (Str × Addr)) (fp : List Addr), ∃ tg, QG (X.blk s H scope (compEnvC scope cl C X.env) fp) tgt tg dg ∧ InSlots tg (own.map (·.2)))
    (ht : ∀ (s : Shared) (H : Hp) (C : Addr) (cl : List (Str × Addr)) (fp : List Addr), ∃ tt, QTs (X.blk s H scope (compEnvC scope cl C X.env) fp) ifs tt dt)
    (he : ∀ (s : Shared) (H : Hp) (C : Addr) (cl : List (Str × Addr)) (fp : List Addr), ∃ te, QE (X.blk s H scope (compEnvC scope cl C X.env) fp) elt te de) (hy : X.N[i]? = some y := by rfl) (hyl : X.env.scope.names.lookup y = some .local := by rfl)
    (hsw : swapsWith (.ListComp elt [⟨tgt, iter, ifs, 0⟩] scope pos) (some (.Name y py)) spos.line X.env = pure true := by exact sw_true rfl rfl rfl (by decide +kernel)) (hs : ∀ x, foldedSetIterable iter X.env x = pure x := by intro _; rfl) :
    QS X (.Assign [.Name y py] (.ListComp elt [⟨tgt, iter, ifs, 0⟩] scope pos) spos) (tAsg (tLc wi (canG X.K dg (own.map (·.2))) (canT X.K dt) (canE X.K de) (own.map (·.2))) (gName i)) (dAsg (dLc di dg dt de (own.map (·.2))) (dgName i)) := by
  refine ⟨ps_setLc hc hN hy hyl hsw hi.p ok (fun s H C cl fp => pg_can (hg s H C cl fp)) (fun s H C cl fp => pts_can (ht s H C cl fp)) (fun s H C cl fp => pe_can (he s H C cl fp)) hs, sim_asg (sim_lc hi.s can_g can_is can_t can_e) ?_⟩
  exact fun c ρ μ σ H v x Q P R S r h k => k c _ μ _ H (Ext.refl c) R (S.set i r) h
def dNotV (da : DE) : DE := fun ρ μ Q => da ρ μ fun x μ1 => match x with
  | .bl b => Q (.bl (!b)) μ1
  | _ => False
theorem q_not (ha : QE X a ta da) : QE X (.UnaryOp .Not a pos) (tNotV ta) (dNotV da) := by
  refine ⟨pe_not ha.p, fun c ρ μ σ H Q P R S h k => ?_⟩
  refine ha.s c ρ μ σ H _ _ R S h fun c1 x μ1 v H1 E1 R1 r1 q1 => ?_
  split at q1
  · cases r1
    exact ⟨_, rfl, k c1 _ μ1 _ H1 E1 R1 (.bl _) q1⟩
  · exact q1.elim
abbrev dFdiv : D2 := dI (fun _ j => j ≠ 0 ∧ j.natAbs.log2 < 9000) fun i j => .int (i.fdiv j)
abbrev dMod : D2 := dI (fun _ j => j ≠ 0) fun i j => .int (i.fmod j)
abbrev dPow : D2 := dI CPow fun i j => .int (i ^ j.toNat)
end
end DL

/-! DLe: defs and their calls; the law's end. -/
namespace DL
open PySem PySem.Spec L2 StX PyProof.Rows

/-- a def's contract over data: arguments, objects, what is wanted -/
abbrev Ct := List Vl → Mu → DK → Prop
def spOf (K : PySem.W.Frag) (C : Ct) (vs : List V) (H : Hp) (Q : VK) : Prop := ∃ c xs μ Q0, RM K c μ H ∧ Reps K c vs xs ∧ C xs μ Q0 ∧ ∀ c' x μ' v H', Ext c c' → RM K c' μ' H' → Rep K c' v x → Q0 x μ' → Q v H'
/-- where a call stands -/
structure Amb (P : Program) (A : Around) (base : Heap) : Prop where
  guards : A.guards = some []
  seer : base.NoSeer
  tree : P.given.tree = none
structure FnG (P : Program) (w : World) (K : PySem.W.Frag) (mg : Str → Option Value) (base : Heap) (k : Nat) (f : Addr) (fd : FuncData) (ps : List Str) (C : Ct) : Prop where
  len : ∀ xs μ Q, C xs μ Q → xs.length = ps.length
  run : ∀ (A : Around) (outer : List Env) (s : Shared) (H : Hp) (args : Args) (us : List Value) (vs : List V) (Q : VK), Amb P A base → Room k A → Env0 P w K mg base A outer s H → BindsTo s fd args (ps.zip us) → Vals vs us → spOf K C vs H Q →
    codeAny (model P w) A (.call (.ref f) args) (CR CX0 outer P w H s Q E0) s
theorem FnG.mono {P : Program} {w : World} {K : PySem.W.Frag} {mg : Str → Option Value} {base : Heap} {j k : Nat} {f : Addr} {fd : FuncData} {ps : List Str} {C : Ct} (F : FnG P w K mg base j f fd ps C) (h : j ≤ k) : FnG P w K mg base k f fd ps C :=
  ⟨F.len, fun A outer s H args us vs Q a hr => F.run A outer s H args us vs Q a (hr.mono h)⟩
theorem FnG.imp {P : Program} {w : World} {K : PySem.W.Frag} {mg : Str → Option Value} {base : Heap} {k : Nat} {f : Addr} {fd : FuncData} {ps : List Str} {C C' : Ct} (F : FnG P w K mg base k f fd ps C) (h : ∀ xs μ Q, C' xs μ Q → C xs μ Q) : FnG P w K mg base k f fd ps C' :=
  ⟨fun xs μ Q q => F.len xs μ Q (h _ _ _ q), fun A outer s H args us vs Q a hr e0 hb hv hs => F.run A outer s H args us vs Q a hr e0 hb hv (let ⟨c, xs, μ, Q0, r1, r2, r3, r4⟩ := hs; ⟨c, xs, μ, Q0, r1, r2, h _ _ _ r3, r4⟩)⟩
/-- where a body stands -/
structure AmbX (P : Program) (A : Around) (base : Heap) : Prop extends Amb P A base where
  frames : ∃ env l, A.frames = some (env :: l) ∧ env.scope.isGenerator = false ∧ env.scope.isCoroutine = false ∧ env.builtins = builtinsNs ∧ env.globals = mainGlobals

/-! ### a def of the text -/
def startD (N : List Str) (xs : List Vl) : Rho := xs.map some ++ List.replicate (N.length - xs.length) none
theorem start_rs {K : PySem.W.Frag} {c : Cf} {N : List Str} {vs : List V} {xs : List Vl} (r : Reps K c vs xs) : RS K c (startD N xs) (start N vs) := by
  have hl := r.length
  refine ⟨by simp [startD, L2.start, hl], fun i x e => ?_⟩
  unfold startD at e
  unfold L2.start
  by_cases hi : i < xs.length
  · rw [List.getElem?_append_left (by simpa using hi), List.getElem?_map] at e
    rw [List.getElem?_append_left (by rw [List.length_map, hl]; exact hi), List.getElem?_map]
    have e1 : xs[i]? = some x := by
      cases q : xs[i]? with
      | none => rw [q] at e; cases e
      | some y =>
        rw [q] at e
        have e' : y = x := by simpa using e
        rw [e']
    obtain ⟨v, e2, rv⟩ := r.get e1
    exact ⟨v, by rw [e2]; rfl, rv⟩
  · rw [List.getElem?_append_right (by simpa using hi)] at e
    simp [List.getElem?_replicate] at e
section
variable {P : Program} {w : World} {K : PySem.W.Frag} {mg : Str → Option Value} {base : Heap}
theorem Fun.okGen {x qual : Str} {st : Stmt} {f : Addr} {fd : FuncData} {N ps : List Str} {k : Nat} {C : Ct} {ds : DS} (F : Fun K x qual st f fd) (S : FnScope N ps (defScope st)) (len : ∀ xs μ Q, C xs μ Q → xs.length = ps.length)
    (hbody : ∀ (cdv : Value) (A : Around) (outer : List Env) (s : Shared) (H : Hp), Room k (A.deeper (envOfC qual (defScope st) s.heap.objs.size f cdv)) → AmbX P (A.deeper (envOfC qual (defScope st) s.heap.objs.size f cdv)) base →
      ∃ ts : TS, QSs (cxOf CX0 P w K mg base N qual (defScope st) f cdv A outer s H E0).nox (defBody st) ts ds)
    (hC : ∀ xs μ Q, C xs μ Q → ∃ d : DEnds, (∀ (c c' : Cf) (μ' : Mu) (v : V) (x : Vl) (H H' : Hp) (U : VK), RM K c μ H → Ext c c' → RM K c' μ' H' → Rep K c' v x → (∀ c' x μ' v H', Ext c c' → RM K c' μ' H' → Rep K c' v x → Q x μ' → U v H') → d.rt x μ' → U v H') ∧ (∀ ρ μ', d.nx ρ μ' → d.rt .non μ') ∧ (∀ ρ μ', ¬ d.bk ρ μ') ∧ (∀ ρ μ', ¬ d.ct ρ μ') ∧ ds d (startD N xs) μ) : FnG P w K mg base (k + 1) f fd ps C := by
  obtain ⟨oc, od, kV, doc, pm, an, cdv, ct, osl, e9, lk, hcd⟩ := F.ex
  subst e9
  refine ⟨len, fun A outer s H args us vs Q am hr e0 hb r hsp => ?_⟩
  obtain ⟨c, xs, μ, Q0, R, rs, hc, hQ⟩ := hsp
  have hl : vs.length = ps.length := rs.length.trans (len _ _ _ hc)
  have KX : K.In s.heap := e0.mod.kin.keeps fun b o e => (e0.bs b o e).1
  have lim : s.heap.NoLimit := e0.mod.nolimit.keeps fun b o e => (e0.bs b o e).1
  have hkind : ∀ y ∈ ps.zip us, (defScope st).names.lookup y.1 = some .local ∨ ((defScope st).names.lookup y.1 = some .cell ∧ ((cellsFrom (s.heap.objs.size + 1) (defScope st).names []).lookup y.1).isSome = true) := fun ⟨n, v⟩ hy => by
    rcases S.par n (List.of_mem_zip hy).1 with q | q
    · exact .inl q
    · exact .inr ⟨q, PySem.W.cellsFrom_some _ _ _ (.inl q)⟩
  refine codeAny_call_function hr.depth (KX _ _ lk) rfl S.co S.gen rfl (PySem.W.codeRec_of KX hcd) (hb _ _ _ _ ?_)
  refine wpAny_newFunctionEnv_cells S.kind hkind fun env he s1 x => ?_
  subst he
  refine ⟨lim.keeps x.toInCall.keep, codeAny_func ?_⟩
  have amx : AmbX P (A.deeper (envOfC qual (defScope st) s.heap.objs.size f cdv)) base := ⟨⟨am.guards, am.seer, am.tree⟩, _, _, Around.frames_deeper e0.frames, S.gen, S.co, rfl, rfl⟩
  obtain ⟨ts, B⟩ := hbody cdv A outer s H (hr.deeper _) amx
  have I : L2.Inv (cxOf CX0 P w K mg base N qual (defScope st) f cdv A outer s H E0) [] (start N vs) H s1 := inv_start S hr.hd e0 hl r x
  have fin : ∀ (H' : Hp) (s' : Shared) (σ' : L2.St) (v : V) (u : Value), L2.Inv (cxOf CX0 P w K mg base N qual (defScope st) f cdv A outer s H E0).nox [] σ' H' s' → RelV v u → Q v H' → CE outer P w H s Q u s' :=
    fun H' s' σ' v u J rv q => ⟨v, H', J.os, J.bare, J.base, J.hok, rv, q⟩
  obtain ⟨d, k1, k2, k3, k4, hd⟩ := hC xs μ Q0 hc
  have go := B.s c (startD N xs) μ (start N vs) H { nx := fun _ H' => Q .non H', rt := Q } d R (start_rs rs)
    ⟨fun c' ρ μ' σ H' E R' S' q => k1 c c' μ' .non .non H H' Q R E R' .non hQ (k2 ρ μ' q), fun c' x μ' v H' E R' r' q => k1 c c' μ' v x H H' Q R E R' r' hQ q, fun c' ρ μ' σ H' E R' S' q => (k3 ρ μ' q).elim, fun c' ρ μ' σ H' E R' S' q => (k4 ρ μ' q).elim⟩ hd
  refine wpAny_mono (B.p.run [] s1 (start N vs) H _ (I.wish _) go) (fun fl s' hs => ?_) fun e s' hs => hs.elim
  cases fl with
  | ret u =>
    obtain ⟨v, σ', H', J, rv, q⟩ := hs
    exact fin H' s' σ' v u J rv q
  | next =>
    obtain ⟨σ', H', J, q⟩ := hs
    exact fin H' s' σ' V.non Value.none J rfl q
  | brk =>
    obtain ⟨_, _, _, q⟩ := hs
    exact q.elim
  | cont =>
    obtain ⟨_, _, _, q⟩ := hs
    exact q.elim
end

/-! ### what a def leaves behind that nobody names any more -/
mutual
/-- all changing objects that are named have numbers below n -/
def rfb (n : Nat) : Vl → Bool
  | .tup xs => rfbs n xs
  | .lst xs => rfbs n xs
  | .frl xs => rfbs n xs
  | .ref k => decide (k < n)
  | _ => true
def rfbs (n : Nat) : List Vl → Bool
  | [] => true
  | x :: xs => rfb n x && rfbs n xs
end
mutual
theorem rfb_of {K : PySem.W.Frag} {c : Cf} : ∀ (x : Vl) (v : V), Rep K c v x → rfb c.al.length x = true
  | .tup xs, _, h => by
    cases h with
    | tup h1 hz h2 => rw [rfb]; exact rfbs_of xs _ h2
  | .lst xs, _, h => by
    cases h with
    | lst h1 hz h2 => rw [rfb]; exact rfbs_of xs _ h2
  | .frl xs, _, h => by
    cases h with
    | frl h1 hz h2 => rw [rfb]; exact rfbs_of xs _ h2
  | .ref k, _, h => by
    cases h with
    | ref h1 => rw [rfb]; exact decide_eq_true (List.getElem?_eq_some_iff.mp h1).1
  | .non, _, _ => by rw [rfb] <;> simp
  | .bl _, _, _ => by rw [rfb] <;> simp
  | .int _, _, _ => by rw [rfb] <;> simp
  | .str _, _, _ => by rw [rfb] <;> simp
  | .op _, _, _ => by rw [rfb] <;> simp
theorem rfbs_of {K : PySem.W.Frag} {c : Cf} : ∀ (xs : List Vl) (vs : List V), Reps K c vs xs → rfbs c.al.length xs = true
  | [], _, _ => by rw [rfbs]
  | x :: xs, _, h => by
    cases h with
    | cons h1 h2 => rw [rfbs, rfb_of x _ h1, rfbs_of xs _ h2]; rfl
end
/-- the first n changing objects alone -/
abbrev cutC (c : Cf) (n : Nat) : Cf := ⟨c.al.take n, c.Hd, c.Fr⟩
mutual
theorem rep_cut {K : PySem.W.Frag} {c : Cf} {n : Nat} : ∀ (x : Vl) (v : V), Rep K c v x → rfb n x = true → Rep K (cutC c n) v x
  | .tup xs, _, h, b => by
    cases h with
    | tup h1 hz h2 => rw [rfb] at b; exact .tup h1 hz (reps_cut xs _ h2 b)
  | .lst xs, _, h, b => by
    cases h with
    | lst h1 hz h2 => rw [rfb] at b; exact .lst h1 hz (reps_cut xs _ h2 b)
  | .frl xs, _, h, b => by
    cases h with
    | frl h1 hz h2 => rw [rfb] at b; exact .frl h1 hz (reps_cut xs _ h2 b)
  | .ref k, _, h, b => by
    cases h with
    | ref h1 =>
      rw [rfb] at b
      have hk : k < n := of_decide_eq_true b
      refine .ref ?_
      show (c.al.take n)[k]? = _
      rw [List.getElem?_take_of_lt hk]; exact h1
  | .non, _, h, _ => by cases h; exact .non
  | .bl b, _, h, _ => by cases h; exact .bl b
  | .int i, _, h, _ => by cases h; exact .int i
  | .str s, _, h, _ => by cases h; exact .str s
  | .op v, _, h, _ => by cases h; exact .op v
theorem reps_cut {K : PySem.W.Frag} {c : Cf} {n : Nat} : ∀ (xs : List Vl) (vs : List V), Reps K c vs xs → rfbs n xs = true → Reps K (cutC c n) vs xs
  | [], _, h, _ => by cases h; exact .nil
  | x :: xs, _, h, b => by
    cases h with
    | cons h1 h2 =>
      rw [rfbs, Bool.and_eq_true] at b
      exact .cons (rep_cut x _ h1 b.1) (reps_cut xs _ h2 b.2)
end
def rfbF (n : Nat) {κ : Type} : List (κ × Vl) → Bool
  | [] => true
  | (_, x) :: xs => rfb n x && rfbF n xs
theorem rfbF_of {K : PySem.W.Frag} {c : Cf} {κ : Type} : ∀ (xs : List (κ × Vl)) (vs : List (κ × V)), RepF K c vs xs → rfbF c.al.length xs = true
  | [], _, _ => rfl
  | (_, x) :: xs, _, h => by
    cases h with
    | cons h1 h2 => rw [rfbF, rfb_of x _ h1, rfbF_of xs _ h2]; rfl
theorem repF_cut {K : PySem.W.Frag} {c : Cf} {n : Nat} {κ : Type} : ∀ (xs : List (κ × Vl)) (vs : List (κ × V)), RepF K c vs xs → rfbF n xs = true → RepF K (cutC c n) vs xs
  | [], _, h, _ => by cases h; exact .nil
  | (_, x) :: xs, _, h, b => by
    cases h with
    | cons h1 h2 =>
      rw [rfbF, Bool.and_eq_true] at b
      exact .cons (rep_cut x _ h1 b.1) (repF_cut xs _ h2 b.2)
def rfbM (n : Nat) : Mo → Bool
  | .dead => true
  | .lst xs => rfbs n xs
  | .dict kvs => rfbF n kvs
  | .ins _ fs => rfbF n fs
theorem rfbM_of {K : PySem.W.Frag} {c : Cf} {h : Option HO} : ∀ {m : Mo}, ObR K c h m → rfbM c.al.length m = true
  | .dead, _ => rfl
  | .lst xs, x => let ⟨vs, _, _, r⟩ := x; rfbs_of xs vs r
  | .dict kvs, x => let ⟨vs, _, r⟩ := x; rfbF_of kvs vs r
  | .ins _ fs, x => let ⟨_, vs, _, r⟩ := x; rfbF_of fs vs r
theorem obR_cut {K : PySem.W.Frag} {c : Cf} {h : Option HO} {n : Nat} : ∀ {m : Mo}, ObR K c h m → rfbM n m = true → ObR K (cutC c n) h m
  | .dead, x, _ => x
  | .lst xs, x, b => let ⟨vs, e, z, r⟩ := x; ⟨vs, e, z, reps_cut xs vs r b⟩
  | .dict kvs, x, b => let ⟨vs, e, r⟩ := x; ⟨vs, e, repF_cut kvs vs r b⟩
  | .ins _ fs, x, b => let ⟨dx, vs, e, r⟩ := x; ⟨dx, vs, e, repF_cut fs vs r b⟩
theorem RM.cut {K : PySem.W.Frag} {c c' : Cf} {μ ex : Mu} {H H' : Hp} (R : RM K c μ H) (R' : RM K c' (μ ++ ex) H') (E : Ext c c') : RM K (cutC c' μ.length) μ H' ∧ Ext c (cutC c' μ.length) := by
  have hl := R'.len
  rw [List.length_append] at hl
  have tk : ∀ (k : Nat) (a : Addr), (c'.al.take μ.length)[k]? = some a → k < μ.length ∧ c'.al[k]? = some a := fun k a h => by
    have hk : k < (c'.al.take μ.length).length := (List.getElem?_eq_some_iff.mp h).1
    rw [List.length_take] at hk
    have hk2 : k < μ.length := by omega
    rw [List.getElem?_take_of_lt hk2] at h
    exact ⟨hk2, h⟩
  refine ⟨⟨R'.sub, by show (c'.al.take μ.length).length = _; rw [List.length_take]; omega, R'.nod.sublist (List.take_sublist _ _), fun k a m h1 h2 => ?_, R'.fsb, fun a o h => ?_⟩, ⟨⟨fun k a h => ?_, E.hd⟩, E.fr⟩⟩
  · obtain ⟨hk, h1⟩ := tk k a h1
    obtain ⟨q1, q2⟩ := R'.obj k a m h1 (by rw [List.getElem?_append_left hk]; exact h2)
    refine ⟨q1, obR_cut q2 ?_⟩
    have hk' : k < c.al.length := by rw [R.len]; exact hk
    obtain ⟨_, q3⟩ := R.obj k c.al[k] m (by simp [hk']) h2
    have q4 := rfbM_of q3
    rw [R.len] at q4
    exact q4
  · obtain ⟨q1, q2⟩ := R'.fds a o h
    exact ⟨q1, fun hm => q2 (List.mem_of_mem_take hm)⟩
  · have hk : k < μ.length := by rw [← R.len]; exact (List.getElem?_eq_some_iff.mp h).1
    show (c'.al.take μ.length)[k]? = some a
    rw [List.getElem?_take_of_lt hk]
    exact E.al k a h
/-- the ends of a def that changes nothing of what was there -/
def pureEnds (μ : Mu) (Q : DK) : DEnds := { nx := fun _ μ' => (∃ ex, μ' = μ ++ ex) ∧ Q .non μ, rt := fun x μ' => rfb μ.length x = true ∧ (∃ ex, μ' = μ ++ ex) ∧ Q x μ }
def spEnds (Q : DK) : DEnds := { nx := fun _ μ' => Q .non μ', rt := Q }

section
variable {P : Program} {w : World} {K : PySem.W.Frag} {mg : Str → Option Value} {base : Heap}
theorem Fun.okD {x qual : Str} {st : Stmt} {f : Addr} {fd : FuncData} {N ps : List Str} {k : Nat} {C : Ct} {ds : DS} (F : Fun K x qual st f fd) (S : FnScope N ps (defScope st)) (len : ∀ xs μ Q, C xs μ Q → xs.length = ps.length)
    (hbody : ∀ (cdv : Value) (A : Around) (outer : List Env) (s : Shared) (H : Hp), Room k (A.deeper (envOfC qual (defScope st) s.heap.objs.size f cdv)) → AmbX P (A.deeper (envOfC qual (defScope st) s.heap.objs.size f cdv)) base →
      ∃ ts : TS, QSs (cxOf CX0 P w K mg base N qual (defScope st) f cdv A outer s H E0).nox (defBody st) ts ds)
    (hC : ∀ xs μ Q, C xs μ Q → ds (spEnds Q) (startD N xs) μ) : FnG P w K mg base (k + 1) f fd ps C :=
  Fun.okGen F S len hbody fun xs μ Q h => ⟨spEnds Q, fun c c' μ' v x H H' P R E R' r k q => k c' x μ' v H' E R' r q, fun ρ μ' q => q, fun ρ μ' q => q, fun ρ μ' q => q, hC xs μ Q h⟩
theorem Fun.okP {x qual : Str} {st : Stmt} {f : Addr} {fd : FuncData} {N ps : List Str} {k : Nat} {C : Ct} {ds : DS} (F : Fun K x qual st f fd) (S : FnScope N ps (defScope st)) (len : ∀ xs μ Q, C xs μ Q → xs.length = ps.length)
    (hbody : ∀ (cdv : Value) (A : Around) (outer : List Env) (s : Shared) (H : Hp), Room k (A.deeper (envOfC qual (defScope st) s.heap.objs.size f cdv)) → AmbX P (A.deeper (envOfC qual (defScope st) s.heap.objs.size f cdv)) base →
      ∃ ts : TS, QSs (cxOf CX0 P w K mg base N qual (defScope st) f cdv A outer s H E0).nox (defBody st) ts ds)
    (hC : ∀ xs μ Q, C xs μ Q → ds (pureEnds μ Q) (startD N xs) μ) : FnG P w K mg base (k + 1) f fd ps C :=
  Fun.okGen F S len hbody fun xs μ Q h => ⟨pureEnds μ Q, fun c c' μ' v x H H' P R E R' r k q => by
    obtain ⟨b, ⟨ex, e⟩, q⟩ := q
    subst e
    obtain ⟨R2, E2⟩ := R.cut R' E
    exact k _ x μ v H' E2 R2 (rep_cut x v r b) q, fun ρ μ' q => ⟨by rw [rfb] <;> simp, q⟩, fun ρ μ' q => q, fun ρ μ' q => q, hC xs μ Q h⟩
end

/-! ### calls -/
def dCall (C : Ct) (d : DA) : DE := fun ρ μ Q => d ρ μ fun xs μ1 => C xs μ1 Q
def tCl (K : PySem.W.Frag) (C : Ct) (t : TA) : TE := fun σ H Q => t σ H fun vs H1 => spOf K C vs H1 Q
section
variable {X : Cx} {k : Nat} {f : Addr} {fd : FuncData} {ps : List Str} {C : Ct} {x : Str} {p pos : Pos} {e : Expr} {es : List Expr} {t : TA} {d : DA}
theorem run_G {pins : List (Addr × Obj)} {σ : L2.St} {H : Hp} {s : Shared} {Q : VK} {args : Args} {us : List Value} {vs : List V} (F : FnG X.prog X.w X.K X.mg X.base k f fd ps C) (am : AmbX X.prog X.A X.base) (hr : Room k X.A) (I : L2.Inv X pins σ H s) (hb : BindsTo s fd args (ps.zip us)) (r : Vals vs us) (h : spOf X.K C vs H Q) :
    codeAny (model X.prog X.w) X.A (.call (.ref f) args) (fun r s' => match r with
      | .ok (.ret u) => EP X pins σ Q u s'
      | _ => False) s := by
  refine codeAny_mono (F.run X.A X.stack s H args us vs Q am.toAmb hr I.env0 hb r h) fun r s' hq => ?_
  cases r with
  | error e => exact hq.elim
  | ok fl =>
    cases fl with
    | ret u => exact I.after hq
    | next => exact hq.elim
    | brk => exact hq.elim
    | cont => exact hq.elim
theorem run_Gw {pins : List (Addr × Obj)} {σ : L2.St} {H : Hp} {s : Shared} {Q : VK} {us ws : List Value} {kw : List (Str × Value)} {vs : List V} (F : FnG X.prog X.w X.K X.mg X.base k f fd ps C) (am : AmbX X.prog X.A X.base) (hr : Room k X.A) (I : L2.Inv X pins σ H s) (hb : BindsTo s fd ⟨us, kw⟩ (ps.zip ws)) (r : Vals vs ws) (h : spOf X.K C vs H Q) :
    wpAny (model X.prog X.w) X.A (call (.ref f) us kw) (EP X pins σ Q) X.xe s := by
  refine wpAny_call (codeAny_mono (run_G F am hr I hb r h) fun r s' hq => ?_)
  cases r with
  | error e => exact hq.elim
  | ok fl =>
    cases fl with
    | ret u => exact hq
    | next => exact hq.elim
    | brk => exact hq.elim
    | cont => exact hq.elim
theorem spOf_len {K : PySem.W.Frag} {vs : List V} {H : Hp} {Q : VK} {n : Nat} (hl : ∀ xs μ Q, C xs μ Q → xs.length = n) (h : spOf K C vs H Q) : vs.length = n := by
  obtain ⟨c, xs, μ, Q0, _, r, hc, _⟩ := h
  exact r.length.trans (hl _ _ _ hc)
theorem sim_call {K : PySem.W.Frag} (ha : SimA K t d) : SimE K (tCl K C t) (dCall C d) := by
  intro c ρ μ σ H Q P R S h k
  refine ha c ρ μ σ H _ _ R S h fun c1 xs μ1 vs H1 E1 R1 r1 q1 => ?_
  exact ⟨c1, xs, μ1, Q, R1, r1, q1, fun c2 z μ2 v2 H2 E2 => k c2 z μ2 v2 H2 (E1.trans E2)⟩
theorem q_call (F : FnG X.prog X.w X.K X.mg X.base k f fd ps C) (am : AmbX X.prog X.A X.base) (hr : Room k X.A) (hm : X.mg x = some (.ref f)) (hk : PySem.W.keepIn X.K (.ref f) = true) (hb : Binds X.K fd ps []) (ha : QA X (e :: es) t d) (hg : Gl X x := by rfl) (hdb : (x == ("__debug__" : Str)) = false := by decide)
    (he : starEach (e :: es) X.env = (false, eval e X.env) :: starEach es X.env := by rfl) (hpl : (backTo pos (starEach es X.env)).any (·.1) = false := by rfl) : QE X (.Call (.Name x p) (e :: es) [] pos) (tCl X.K C t) (dCall C d) := by
  refine ⟨⟨fun pins s σ H Q I h => ?_⟩, sim_call ha.s⟩
  refine wpAny_Call_Name_kw (ld_glob I hg hm ?_ hdb)
  refine PySem.W.callWith_K (h₀ := X.base) I.ok.mod.kin hk (thn (ha.p.run pos pins s σ H _ I h) fun us s1 ⟨vs, H1, I1, r, q⟩ => ⟨I1.kIn, ?_⟩) he hpl
  have hl : (us ++ ([] : List Value)).length = ps.length := by
    rw [List.append_nil, ← r.length]; exact spOf_len F.len q
  have z := hb s1 us I1.kIn hl
  rw [List.append_nil] at z
  exact run_Gw F am hr I1 z r q
theorem q_call0 (F : FnG X.prog X.w X.K X.mg X.base k f fd ps C) (am : AmbX X.prog X.A X.base) (hr : Room k X.A) (hm : X.mg x = some (.ref f)) (hk : PySem.W.keepIn X.K (.ref f) = true) (hb : Binds X.K fd ps []) (hg : Gl X x := by rfl) (hdb : (x == ("__debug__" : Str)) = false := by decide) :
    QE X (.Call (.Name x p) [] [] pos) (tCl X.K C tNil) (dCall C dNil) := by
  refine ⟨⟨fun pins s σ H Q I h => ?_⟩, sim_call qa_nil.s⟩
  refine wpAny_Call_Name_kw (ld_glob I hg hm ?_ hdb)
  have h : spOf X.K C [] H Q := h
  have z := hb s [] I.kIn (spOf_len F.len h)
  rw [List.append_nil] at z
  exact PySem.W.callWith_K0 I.kIn hk (run_Gw (us := []) F am hr I z .nil h)

/-! ### keywords -/
/-- values by their places among the positional ones and those by keyword -/
def pick {α : Type} (us ws : List α) (ix : List Nat) : List α := ix.filterMap fun i => (us ++ ws)[i]?
theorem vals_pick {vs zs : List V} {us ws : List Value} (h1 : Vals vs us) (h2 : Vals zs ws) : ∀ ix : List Nat, Vals (pick vs zs ix) (pick us ws ix)
  | [] => .nil
  | i :: ix => by
    have ih := vals_pick h1 h2 ix
    have r := h1.append h2
    unfold pick
    rw [List.filterMap_cons, List.filterMap_cons]
    cases q : (vs ++ zs)[i]? with
    | none =>
      rw [r.none_of q]
      exact ih
    | some v =>
      obtain ⟨u, e, ru⟩ := r.get q
      rw [e]
      exact .cons ru ih
theorem reps_pick {K : PySem.W.Frag} {c : Cf} {vs zs : List V} {us ws : List Vl} (h1 : Reps K c vs us) (h2 : Reps K c zs ws) : ∀ ix : List Nat, Reps K c (pick vs zs ix) (pick us ws ix)
  | [] => .nil
  | i :: ix => by
    have ih := reps_pick h1 h2 ix
    have r := h1.append h2
    unfold pick
    rw [List.filterMap_cons, List.filterMap_cons]
    cases q : (us ++ ws)[i]? with
    | none =>
      have q' : (vs ++ zs)[i]? = none := by
        rw [List.getElem?_eq_none_iff] at q ⊢
        rw [r.length]; exact q
      rw [q']
      exact ih
    | some v =>
      obtain ⟨u, e, ru⟩ := r.get q
      rw [e]
      exact .cons ru ih
structure QK (X : Cx) (kws : List Keyword) (t : TA) (d : DA) : Prop where
  p : PK X kws t
  s : SimA X.K t d
theorem qk_nil : QK X [] tNil dNil := ⟨pk_nil, qa_nil.s⟩
theorem qk_cons {nm : Option Str} {kpos : Pos} {kws : List Keyword} {te : TE} {de : DE} (ha : QE X e te de) (hr : QK X kws t d) : QK X (⟨nm, e, kpos⟩ :: kws) (tCons te t) (dCons de d) := by
  refine ⟨pk_cons ha.p hr.p, fun c ρ μ σ H Q P R S h k => ?_⟩
  refine ha.s c ρ μ σ H _ _ R S h fun c1 x μ1 v H1 E1 R1 r1 q1 => ?_
  exact hr.s c1 ρ μ1 σ H1 _ _ R1 (S.up E1.toExt0) q1 fun c2 xs μ2 vs H2 E2 R2 r2 q2 => k c2 (x :: xs) μ2 (v :: vs) H2 (E1.trans E2) R2 (.cons (r1.up E2.toExt0) r2) q2
/-- how a call with n positional values and those named ks is bound -/
def BindsK (K : PySem.W.Frag) (fd : FuncData) (ps ks : List Str) (n : Nat) (ix : List Nat) : Prop := ∀ (s : Shared) (us ws : List Value), K.In s.heap → us.length = n → ws.length = ks.length → BindsTo s fd ⟨us, ks.zip ws⟩ (ps.zip (pick us ws ix))
def tClK (K : PySem.W.Frag) (C : Ct) (n m : Nat) (ix : List Nat) (t tk : TA) : TE := fun σ H Q => t σ H fun vs H1 => tk σ H1 fun zs H2 => vs.length = n ∧ zs.length = m ∧ spOf K C (pick vs zs ix) H2 Q
def dCallK (C : Ct) (n m : Nat) (ix : List Nat) (d dk : DA) : DE := fun ρ μ Q => d ρ μ fun xs μ1 => dk ρ μ1 fun ys μ2 => xs.length = n ∧ ys.length = m ∧ C (pick xs ys ix) μ2 Q
theorem sim_callK {K : PySem.W.Frag} {n m : Nat} {ix : List Nat} {tk : TA} {dk : DA} (ha : SimA K t d) (hk : SimA K tk dk) : SimE K (tClK K C n m ix t tk) (dCallK C n m ix d dk) := by
  intro c ρ μ σ H Q P R S h k
  refine ha c ρ μ σ H _ _ R S h fun c1 xs μ1 vs H1 E1 R1 r1 q1 => ?_
  refine hk c1 ρ μ1 σ H1 _ _ R1 (S.up E1.toExt0) q1 fun c2 ys μ2 zs H2 E2 R2 r2 q2 => ?_
  have r1' := r1.up E2.toExt0
  exact ⟨by rw [r1.length]; exact q2.1, by rw [r2.length]; exact q2.2.1, c2, _, μ2, Q, R2, reps_pick r1' r2 ix, q2.2.2, fun c3 z μ3 v3 H3 E3 => k c3 z μ3 v3 H3 ((E1.trans E2).trans E3)⟩
variable {kws : List Keyword} {tk : TA} {dk : DA} {ks : List Str} {n : Nat} {ix : List Nat}
theorem q_callK (F : FnG X.prog X.w X.K X.mg X.base k f fd ps C) (am : AmbX X.prog X.A X.base) (hr : Room k X.A) (hm : X.mg x = some (.ref f)) (hk : PySem.W.keepIn X.K (.ref f) = true) (hb : BindsK X.K fd ps ks n ix) (ha : QA X (e :: es) t d) (hw : QK X kws tk dk)
    (hg : Gl X x := by rfl) (hall : (backToKw pos (keywordEach kws X.env)).all (·.1.isSome) = true := by rfl) (hks : (backToKw pos (keywordEach kws X.env)).filterMap (·.1) = ks := by rfl)
    (hdb : (x == ("__debug__" : Str)) = false := by decide) (he : starEach (e :: es) X.env = (false, eval e X.env) :: starEach es X.env := by rfl)
    (hpl : ((backTo pos (starEach (e :: es) X.env)).any (·.1) || (backToKw pos (keywordEach kws X.env)).any (·.1.isNone)) = false := by rfl) : QE X (.Call (.Name x p) (e :: es) kws pos) (tClK X.K C n ks.length ix t tk) (dCallK C n ks.length ix d dk) := by
  refine ⟨⟨fun pins s σ H Q I h => ?_⟩, sim_callK ha.s hw.s⟩
  refine wpAny_Call_Name_kw (ld_glob I hg hm ?_ hdb)
  refine PySem.W.callWith_KW (h₀ := X.base) I.ok.mod.kin hk hall (thn (ha.p.run pos pins s σ H _ I h) fun us s1 ⟨vs, H1, I1, r, q⟩ => ?_) hpl he
  refine thn (hw.p.run pos pins s1 σ H1 _ I1 q) fun ws s2 ⟨zs, H2, I2, rz, l1, l2, q2⟩ => ⟨I2.kIn, ?_⟩
  rw [hks]
  exact run_Gw F am hr I2 (hb s2 us ws I2.kIn (r.length.symm.trans l1) (rz.length.symm.trans l2)) (vals_pick r rz ix) q2
theorem q_callK0 (F : FnG X.prog X.w X.K X.mg X.base k f fd ps C) (am : AmbX X.prog X.A X.base) (hr : Room k X.A) (hm : X.mg x = some (.ref f)) (hk : PySem.W.keepIn X.K (.ref f) = true) (hb : BindsK X.K fd ps ks 0 ix) (hw : QK X kws tk dk)
    (hg : Gl X x := by rfl) (hall : (backToKw pos (keywordEach kws X.env)).all (·.1.isSome) = true := by rfl) (hks : (backToKw pos (keywordEach kws X.env)).filterMap (·.1) = ks := by rfl)
    (hdb : (x == ("__debug__" : Str)) = false := by decide)
    (hpl : ((backTo pos (starEach [] X.env)).any (·.1) || (backToKw pos (keywordEach kws X.env)).any (·.1.isNone)) = false := by rfl) : QE X (.Call (.Name x p) [] kws pos) (tClK X.K C 0 ks.length ix tNil tk) (dCallK C 0 ks.length ix dNil dk) := by
  refine ⟨⟨fun pins s σ H Q I h => ?_⟩, sim_callK qa_nil.s hw.s⟩
  refine wpAny_Call_Name_kw (ld_glob I hg hm ?_ hdb)
  have h : tk σ H (fun zs H2 => ([] : List V).length = 0 ∧ zs.length = ks.length ∧ spOf X.K C (pick [] zs ix) H2 Q) := h
  refine PySem.W.callWith_KW0 (h₀ := X.base) I.ok.mod.kin hk hall (thn (hw.p.run pos pins s σ H _ I h) fun ws s2 ⟨zs, H2, I2, rz, l1, l2, q2⟩ => ⟨I2.kIn, ?_⟩) hpl
  rw [hks]
  exact run_Gw (us := []) F am hr I2 (hb s2 [] ws I2.kIn rfl (rz.length.symm.trans l2)) (vals_pick .nil rz ix) q2
end

/-! ### the law's end -/
theorem law_G {P : Program} {w : World} {K : PySem.W.Frag} {mg mb : Str → Option Value} {k : Nat} {fa a : Addr} {fd : FuncData} {x : Str} {C : Ct} {s₁ : Shared} {vs : List Value} {ns : List Int}
    (KX : K.In s₁.heap) (hns : s₁.heap.Ns mainGlobals mg) (hb : s₁.heap.Ns builtinsNs mb) (hbb : ∀ x : Str, x ≠ "__name__" → mb x = bootBuiltins x) (hlim : s₁.heap.NoLimit) (hse : s₁.heap.NoSeer) (htr : P.given.tree = none) (hg : s₁.gens = #[])
    (ha : s₁.heap.get? a = some { cls := .type "list", data := .seq vs.toArray }) (hi : IntsAre vs ns) (hl : ns.length ≤ sizeLine) (hr : Room k callerA)
    (F : ∀ base : Heap, K.In base → base.Ns mainGlobals mg → FnG P w K mg base k fa fd [x] C) (hbind : ∀ (s : Shared) (u : Value), BindsTo s fd ⟨[u], []⟩ [(x, u)])
    (hC : C [.frl (ns.map Vl.int)] [] fun v _ => v = .bl true) :
    codeAny (model P w) callerA (.call (.ref fa) ⟨[.ref a], []⟩) (fun r s' => r = .ok (.ret (.bool true)) ∧ OldK s₁.heap s'.heap ∧ s'.os = s₁.os ∧ AllBare s'.gens) s₁ := by
  have rv := vals_ints hi
  have lenV := hi.length
  have core : ∀ H : Hp, Only H → SqL K H a (ns.map V.int) → HOk P w H s₁.heap → (∀ b, H b ≠ none → b = a) → (H a ≠ none → K.lookup a = none) →
      codeAny (model P w) callerA (.call (.ref fa) ⟨[.ref a], []⟩) (fun r s' => r = .ok (.ret (.bool true)) ∧ OldK s₁.heap s'.heap ∧ s'.os = s₁.os ∧ AllBare s'.gens) s₁ := by
    intro H hO hS hok hA hK
    have base_of : ∀ {b : Addr} {o : Obj}, s₁.heap.get? b = some o → H b = none → (hidT s₁.heap H).get? b = some o := fun e n => hidT_get e n
    have out : ∀ {b : Addr} {o : Obj}, s₁.heap.get? b = some o → (∀ n, o.data ≠ .seq vs.toArray n) → H b = none := fun {b o} e d => by
      cases q : H b with
      | none => rfl
      | some u =>
        have e' : b = a := hA b (by rw [q]; simp)
        rw [e', ha] at e
        have e2 := Option.some.inj e
        exact absurd (by rw [← e2]) (d _)
    have nsK : ∀ {b : Addr} {m : Str → Option Value}, s₁.heap.Ns b m → (hidT s₁.heap H).Ns b m := fun {b m} ⟨o, es, ep, e, d, r⟩ => ⟨o, es, ep, base_of e (out e fun n z => by rw [d] at z; cases z), d, r⟩
    have hKb : K.In (hidT s₁.heap H) := fun b o e => base_of (KX b o e) (by
      cases q : H b with
      | none => rfl
      | some u =>
        have e' : b = a := hA b (by rw [q]; simp)
        rw [e'] at e q
        rw [hK (by rw [q]; simp)] at e; cases e)
    have hM : Mod K mg (hidT s₁.heap H) := ⟨hKb, nsK hns, ⟨mb, nsK hb, hbb⟩, let ⟨mc, h1, h2⟩ := hlim; ⟨mc, nsK h1, h2⟩⟩
    have hSe : (hidT s₁.heap H).NoSeer := by
      obtain ⟨⟨mc, h1, h2⟩, ⟨mm, h3, h4⟩, ⟨mb', h5, h6⟩, ⟨mg', bm, ob, h7, h8, h9, h10, h11⟩⟩ := hse
      refine ⟨⟨mc, nsK h1, h2⟩, ⟨mm, nsK h3, h4⟩, ⟨mb', nsK h5, h6⟩, ⟨mg', bm, ob, nsK h7, h8, base_of h9 ?_, h10, h11⟩⟩
      cases q : H bm with
      | none => rfl
      | some u =>
        have e' : bm = a := hA bm (by rw [q]; simp)
        rw [e', ha] at h9
        have e2 := Option.some.inj h9
        rw [← e2] at h10
        exact absurd h10 (by intro z; injection z with z; exact absurd z (by decide))
    have e0 : Env0 P w K mg (hidT s₁.heap H) callerA [] s₁ H := ⟨rfl, hM, fun b o e => of_hidT e, Nat.le_of_eq (hidT_size _ _), trivial, fun b hb => absurd (show b ∈ ([] : List Addr) from hb) (by simp), hok, .of_eq hg⟩
    have sp0 : spOf K C [.ref a] H fun v _ => v = .bl true := by
      refine ⟨⟨[], H, fun _ => none⟩, [.frl (ns.map Vl.int)], [], _, ⟨Same.refl _, rfl, List.nodup_nil, fun k b o h => by simp at h, fun b o h => by simp at h, fun b o h => by simp at h⟩, .one (.frl hS (by rw [List.length_map]; exact hl) (Reps.ints ns)), hC, fun c' y μ' v H' E R' r' q => ?_⟩
      subst q
      cases r'
      rfl
    refine codeAny_mono ((F _ hKb (nsK hns)).run callerA [] s₁ H ⟨[.ref a], []⟩ [.ref a] [.ref a] _ ⟨rfl, hSe, htr⟩ hr e0 (hbind s₁ (.ref a)) (.cons rfl .nil) sp0) fun r s' h => ?_
    cases r with
    | error e => exact h.elim
    | ok fl =>
      cases fl with
      | next => exact h.elim
      | brk => exact h.elim
      | cont => exact h.elim
      | ret u =>
        obtain ⟨v, H', os, bare, un, hok', r', q⟩ := h
        have q' : v = .bl true := q
        subst q'
        have r2 : u = Value.bool true := r'
        subst r2
        refine ⟨rfl, OldK.of_keep fun b o e => ?_, os, bare⟩
        cases q : H b with
        | none => exact un.keep b o e q (fun z => absurd (show b ∈ ([] : List Addr) from z) (by simp)) (by simp)
        | some u =>
          rcases hO b with z | ⟨ob, xs, z⟩
          · rw [q] at z; cases z
          · obtain ⟨e1, _⟩ := hok b _ z
            obtain ⟨e2, _⟩ := hok' b _ (un.frzs b ob _ z)
            rw [e] at e1
            rw [Option.some.inj e1]
            exact e2
  cases hk : K.lookup a with
  | some o =>
    have e := KX a o hk
    rw [ha] at e
    cases e
    refine core (fun _ => none) (fun _ => .inl rfl) (.inr ⟨_, vs.toArray, _, hk, rfl, rfl, rfl, by rw [List.size_toArray, lenV]; exact hl, by simpa using rv⟩) (fun b u z => by simp at z) (fun b z => absurd rfl z) fun z => absurd rfl z
  | none =>
    refine core (fun b => if b = a then some (.frz { cls := .type "list", data := .seq vs.toArray } (.lst (ns.map V.int))) else none) (fun b => ?_) (.inl (.inr ⟨{ cls := .type "list", data := .seq vs.toArray }, if_pos rfl⟩)) (fun b u z => ?_) (fun b z => ?_) fun _ => hk
    · by_cases hb : b = a
      · exact .inr ⟨_, _, if_pos hb⟩
      · exact .inl (if_neg hb)
    · by_cases hb : b = a
      · have z' := (if_pos hb).symm.trans z
        cases z'
        subst hb
        exact ⟨ha, by rw [List.length_map]; exact hl, vs, _, rv, ha⟩
      · have z' := (if_neg hb).symm.trans z
        cases z'
    · by_cases hb : b = a
      · exact hb
      · exact absurd (if_neg hb) z
theorem walk_G {l : PySem.W.OpenLaw} {n k : Nat} {q : Program} {loose : List Str} {XP : (Str → Option Value) → Heap → Prop} {YP : World → Heap → Prop} {d : DefRec} {K : Params → PySem.W.Frag} {C : Ct} {x : Str}
    (hn : l.most = some n) (hn2 : n ≤ sizeLine) (hdf : d.params.defaults = []) (hr : Room k callerA) (him : importsNone q = true) (htr : l.prog.given.tree = none)
    (hY : ∀ (w : World) (h : Heap), YP w h → (K w.params).In h)
    (F : ∀ (w : World) (mg : Str → Option Value) (fa : Addr) (h : Heap), (K w.params).In h → h.Ns mainGlobals mg → mg d.name = some (.ref fa) →
      ∃ fd : FuncData, (∀ (s : Shared) (u : Value), BindsTo s fd ⟨[u], []⟩ [(x, u)]) ∧
        ∀ base : Heap, (K w.params).In base → base.Ns mainGlobals mg → FnG l.prog w (K w.params) mg base k fa fd [x] C)
    (hC : ∀ ns : List Int, ns.length ≤ n → C [.frl (ns.map Vl.int)] [] fun v _ => v = .bl true) : PySem.W.WalkO q loose XP YP l.row.toRowW d [] (fun f vs => PySem.call f vs) := by
  refine Att.attach_call hn hdf fun w s₀ s₁ mg mb fa o pm cd doc a vs ns G Y ho hd hcd hmg hobj hints hlen hg => ?_
  have KX := hY w _ Y
  obtain ⟨fd, hb, hF⟩ := F w mg fa _ KX G.T.g hmg
  exact law_G KX G.T.g G.T.b G.T.builtins G.T.nolimit (G.T.seer him) htr hg hobj hints (Nat.le_trans hlen hn2) hr hF hb (hC ns hlen)
end DL

/-! plain data: what == and repr need of it -/
namespace DL
open PySem PySem.Spec L2 StX PyProof.Rows
/-- is, is not of bools -/
def dIsB (neg : Bool) : D2 := fun x y μ Q => match x, y with
  | .bl a, .bl b => Q (.bl (decide (a = b) != neg)) μ
  | _, _ => False
section
variable {X : Cx} {a b : Expr} {ta tb : TE} {da db : DE} {pos : Pos}
theorem sim_isB {K : PySem.W.Frag} : Sim2 K rIsB (dIsB false) := by
  intro c μ H vx vy x y Q P R rx ry h k
  unfold dIsB at h
  split at h
  · rename_i i j
    cases rx; cases ry
    refine ⟨_, _, rfl, rfl, k c _ μ _ H (Ext.refl c) R (.bl _) ?_⟩
    rw [show (decide (i = j) != false) = decide (i = j) from by cases decide (i = j) <;> rfl] at h
    exact h
  · exact h.elim
theorem sim_notB {K : PySem.W.Frag} : Sim2 K rNotB (dIsB true) := by
  intro c μ H vx vy x y Q P R rx ry h k
  unfold dIsB at h
  split at h
  · rename_i i j
    cases rx; cases ry
    refine ⟨_, _, rfl, rfl, k c _ μ _ H (Ext.refl c) R (.bl _) ?_⟩
    rw [show (decide (i = j) != true) = !decide (i = j) from by cases decide (i = j) <;> rfl] at h
    exact h
  · exact h.elim
theorem q_isB (ha : QE X a ta da) (hb : QE X b tb db) : QE X (.Compare a [.Is] [b] pos) (tOp rIsB ta tb) (dOp (dIsB false) da db) := q_cmp op_isBl sim_isB ha hb (nomark _)
theorem q_notB (ha : QE X a ta da) (hb : QE X b tb db) : QE X (.Compare a [.IsNot] [b] pos) (tOp rNotB ta tb) (dOp (dIsB true) da db) := q_cmp op_notBl sim_notB ha hb (nomark _)
theorem qt_isB (ha : QE X a ta da) (hb : QE X b tb db) : QT X (.Compare a [.Is] [b] pos) (tTest (tOp rIsB ta tb)) (dTest (dOp (dIsB false) da db)) := qt_cmp op_isBl sim_isB ha hb (nomark _)
theorem qt_notB (ha : QE X a ta da) (hb : QE X b tb db) : QT X (.Compare a [.IsNot] [b] pos) (tTest (tOp rNotB ta tb)) (dTest (dOp (dIsB true) da db)) := qt_cmp op_notBl sim_notB ha hb (nomark _)
end
mutual
/-- no text, no ref within -/
def plainV : Vl → Bool
  | .non | .bl _ | .int _ => true
  | .tup xs | .lst xs => plainVs xs
  | .str _ | .frl _ | .ref _ | .op _ => false
def plainVs : List Vl → Bool
  | [] => true
  | x :: xs => plainV x && plainVs xs
end
mutual
def depV : Vl → Nat
  | .tup xs | .lst xs => depVs xs + 1
  | .non | .bl _ | .int _ | .str _ | .frl _ | .ref _ | .op _ => 0
def depVs : List Vl → Nat
  | [] => 0
  | x :: xs => max (depV x) (depVs xs)
end
mutual
/-- how many things are shown -/
def nodV : Vl → Nat
  | .tup xs | .lst xs => nodVs xs + 1
  | .non | .bl _ | .int _ | .str _ | .frl _ | .ref _ | .op _ => 1
def nodVs : List Vl → Nat
  | [] => 0
  | x :: xs => nodV x + nodVs xs
end
mutual
/-- its numbers may be shown -/
def shortV : Vl → Bool
  | .int i => decide (i.natAbs.log2 < 1920)
  | .tup xs | .lst xs => shortVs xs
  | .non | .bl _ | .str _ | .frl _ | .ref _ | .op _ => true
def shortVs : List Vl → Bool
  | [] => true
  | x :: xs => shortV x && shortVs xs
end
mutual
def dataV : Vl → PyData
  | .bl b => .bool b
  | .int i => .int i
  | .str x => .str x
  | .tup xs => .tuple (dataVs xs)
  | .lst xs => .list (dataVs xs)
  | .non | .frl _ | .ref _ | .op _ => .none
def dataVs : List Vl → List PyData
  | [] => []
  | x :: xs => dataV x :: dataVs xs
end
mutual
theorem plain_data : ∀ x : Vl, plainV x = true → dat x = some (dataV x) ∧ (dataV x).canLay0 = true ∧ (dataV x).depth = depV x
  | .non, _ => by refine ⟨rfl, rfl, ?_⟩ <;> simp [dataV, PyData.depth, depV]
  | .bl b, _ => by refine ⟨rfl, rfl, ?_⟩ <;> simp [dataV, PyData.depth, depV]
  | .int i, _ => by refine ⟨rfl, rfl, ?_⟩ <;> simp [dataV, PyData.depth, depV]
  | .tup xs, h => by
    obtain ⟨h1, h2, h3⟩ := plain_datas xs (by rw [plainV] at h; exact h)
    refine ⟨?_, ?_, ?_⟩
    · rw [dat, h1, dataV]; rfl
    · rw [dataV, PyData.canLay0]; exact h2
    · rw [dataV, PyData.depth, depV, h3]
  | .lst xs, h => by
    obtain ⟨h1, h2, h3⟩ := plain_datas xs (by rw [plainV] at h; exact h)
    refine ⟨?_, ?_, ?_⟩
    · rw [dat, h1, dataV]; rfl
    · rw [dataV, PyData.canLay0]; exact h2
    · rw [dataV, PyData.depth, depV, h3]
  | .str _, h => by rw [plainV] at h; cases h
  | .frl _, h => by rw [plainV] at h; cases h
  | .ref _, h => by rw [plainV] at h; cases h
  | .op _, h => by rw [plainV] at h; cases h
theorem plain_datas : ∀ xs : List Vl, plainVs xs = true → dats xs = some (dataVs xs) ∧ PyData.canLayAll0 (dataVs xs) = true ∧ PyData.depthAll (dataVs xs) = depVs xs
  | [], _ => by refine ⟨rfl, rfl, ?_⟩ <;> simp [dataVs, PyData.depthAll, depVs]
  | x :: xs, h => by
    rw [plainVs, Bool.and_eq_true] at h
    obtain ⟨a1, a2, a3⟩ := plain_data x h.1
    obtain ⟨b1, b2, b3⟩ := plain_datas xs h.2
    refine ⟨?_, ?_, ?_⟩
    · rw [dats, a1, b1, dataVs]
    · rw [dataVs, PyData.canLayAll0, a2, b2]; rfl
    · rw [dataVs, PyData.depthAll, depVs, a3, b3]
end
mutual
theorem short_show : ∀ x : Vl, plainV x = true → shortV x = true → (dataV x).showable = true ∧ (dataV x).shown.length + 2 ≤ 1932 * nodV x
  | .non, _, _ => ⟨rfl, by rw [nodV]; decide⟩
  | .bl b, _, _ => ⟨rfl, by rw [nodV]; cases b <;> decide⟩
  | .int i, _, h => by
    rw [shortV] at h
    refine ⟨by rw [dataV, PyData.showable]; exact h, ?_⟩
    have := PyProof.Rows.int_text_len_1921 (of_decide_eq_true h)
    rw [dataV, PyData.shown, nodV]
    exact Nat.le_trans (Nat.add_le_add_right this 2) (by decide)
  | .tup xs, h, k => by
    obtain ⟨h1, h2⟩ := short_shows xs (by rw [plainV] at h; exact h) (by rw [shortV] at k; exact k)
    refine ⟨by rw [dataV, PyData.showable]; exact h1, ?_⟩
    have e := tupleText_len_le (PyData.shownAll (dataVs xs))
    rw [dataV, PyData.shown, nodV]
    omega
  | .lst xs, h, k => by
    obtain ⟨h1, h2⟩ := short_shows xs (by rw [plainV] at h; exact h) (by rw [shortV] at k; exact k)
    refine ⟨by rw [dataV, PyData.showable]; exact h1, ?_⟩
    have e := listText_len_le (PyData.shownAll (dataVs xs))
    rw [dataV, PyData.shown, nodV]
    omega
  | .str _, h, _ => by rw [plainV] at h; cases h
  | .frl _, h, _ => by rw [plainV] at h; cases h
  | .ref _, h, _ => by rw [plainV] at h; cases h
  | .op _, h, _ => by rw [plainV] at h; cases h
theorem short_shows : ∀ xs : List Vl, plainVs xs = true → shortVs xs = true → PyData.showableAll (dataVs xs) = true ∧ ((PyData.shownAll (dataVs xs)).map (·.length)).sum + 2 * (PyData.shownAll (dataVs xs)).length ≤ 1932 * nodVs xs
  | [], _, _ => ⟨rfl, by simp [dataVs, PyData.shownAll]⟩
  | x :: xs, h, k => by
    rw [plainVs, Bool.and_eq_true] at h
    rw [shortVs, Bool.and_eq_true] at k
    obtain ⟨a1, a2⟩ := short_show x h.1 k.1
    obtain ⟨b1, b2⟩ := short_shows xs h.2 k.2
    have n1 : 1 ≤ nodV x := by
      cases x <;> rw [nodV] <;> omega
    refine ⟨by rw [dataVs, PyData.showableAll, a1, b1]; rfl, ?_⟩
    rw [dataVs, PyData.shownAll, nodVs, List.map_cons, List.sum_cons, List.length_cons]
    omega
end
theorem datM_plain {μ : Mu} {x : Vl} (h : plainV x = true) : datM μ x = some (dataV x) := by
  have e := (plain_data x h).1
  cases x <;> first | exact e | (rw [plainV] at h; cases h)
theorem shaped_plain {x : Vl} (h : plainV x = true) (hd : depV x ≤ 64) : SeqAt.shaped (dataV x) = true := by
  obtain ⟨_, h2, h3⟩ := plain_data x h
  unfold SeqAt.shaped
  rw [h2, h3, decide_eq_true hd]; rfl
theorem shown_le {x : Vl} (h : plainV x = true) (hs : shortV x = true) (hn : 1932 * nodV x ≤ sizeLine) : (dataV x).shown.length ≤ sizeLine := by
  have := (short_show x h hs).2
  omega
theorem repr_plain {μ : Mu} {x : Vl} {Q : DK} (h : plainV x = true) (hs : shortV x = true) (hd : depV x ≤ 64) (hn : 1932 * nodV x ≤ sizeLine) (q : Q (.str (dataV x).shown) μ) : fRepr [x] μ Q := by
  obtain ⟨h1, h2⟩ := short_show x h hs
  exact ⟨x, dataV x, rfl, datM_plain h, shaped_plain h hd, h1, by omega, q⟩
theorem datEq_plain {neg : Bool} {μ : Mu} {x y : Vl} {Q : DK} (hx : plainV x = true) (hy : plainV y = true) (dx : depV x ≤ 64) (dy : depV y ≤ 64) (q : Q (.bl (PyData.eqv (dataV x) (dataV y) != neg)) μ) : datEq neg x y μ Q :=
  ⟨_, _, datM_plain hx, datM_plain hy, shaped_plain hx dx, shaped_plain hy dy, q⟩

/-! whole numbers in a row -/
theorem plainVs_ints : ∀ r : List Int, plainVs (r.map .int) = true
  | [] => rfl
  | x :: r => by rw [List.map_cons, plainVs, plainVs_ints r]; rfl
theorem depVs_ints : ∀ r : List Int, depVs (r.map .int) = 0
  | [] => rfl
  | x :: r => by rw [List.map_cons, depVs, depVs_ints r]; rfl
theorem nodVs_ints : ∀ r : List Int, nodVs (r.map .int) = r.length
  | [] => rfl
  | x :: r => by rw [List.map_cons, nodVs, nodVs_ints r, nodV, List.length_cons]; omega
theorem dataVs_ints : ∀ r : List Int, dataVs (r.map .int) = r.map .int
  | [] => rfl
  | x :: r => by rw [List.map_cons, dataVs, dataVs_ints r]; rfl
theorem shortVs_ints : ∀ r : List Int, shortVs (r.map .int) = r.all fun i => decide (i.natAbs.log2 < 1920)
  | [] => rfl
  | x :: r => by rw [List.map_cons, shortVs, shortVs_ints r]; rfl
theorem eqvAll_ints : ∀ r s : List Int, PyData.eqvAll (r.map .int) (s.map .int) = decide (r = s)
  | [], [] => rfl
  | [], y :: s => by rw [List.map_nil, List.map_cons, PyData.eqvAll]; simp
  | x :: r, [] => by rw [List.map_nil, List.map_cons, PyData.eqvAll]; simp
  | x :: r, y :: s => by
    rw [List.map_cons, List.map_cons, PyData.eqvAll, eqvAll_ints r s]
    show ((x == y) && decide (r = s)) = _
    by_cases h1 : x = y <;> by_cases h2 : r = s <;> simp [h1, h2]
/-- == and != of tuples, of lists of whole numbers -/
theorem eq_tupI {neg : Bool} {μ : Mu} {r s : List Int} {Q : DK} (q : Q (.bl (decide (r = s) != neg)) μ) : dEqN neg (.tup (r.map .int)) (.tup (s.map .int)) μ Q := by
  refine datEq_plain (by rw [plainV]; exact plainVs_ints r) (by rw [plainV]; exact plainVs_ints s) (by rw [depV, depVs_ints]; omega) (by rw [depV, depVs_ints]; omega) ?_
  rw [dataV, dataV, dataVs_ints, dataVs_ints, PyData.eqv, eqvAll_ints]
  exact q
theorem eq_lstI {neg : Bool} {μ : Mu} {r s : List Int} {Q : DK} (q : Q (.bl (decide (r = s) != neg)) μ) : dEqN neg (.lst (r.map .int)) (.lst (s.map .int)) μ Q := by
  refine datEq_plain (by rw [plainV]; exact plainVs_ints r) (by rw [plainV]; exact plainVs_ints s) (by rw [depV, depVs_ints]; omega) (by rw [depV, depVs_ints]; omega) ?_
  rw [dataV, dataV, dataVs_ints, dataVs_ints, PyData.eqv, eqvAll_ints]
  exact q
end DL

/-! tests by cases; loops that keep something; the law's pen -/
namespace DL
open PySem PySem.Spec L2 StX PyProof.Rows
theorem dec_split {p : Prop} [Decidable p] {A B : Prop} (h1 : p → A) (h2 : ¬p → B) : (match decide p with
    | true => A
    | false => B) := by
  by_cases h : p
  · rw [decide_eq_true h]; exact h1 h
  · rw [decide_eq_false h]; exact h2 h
theorem dec_splitN {p : Prop} [Decidable p] {A B : Prop} (h1 : ¬p → A) (h2 : p → B) : (match (decide p != true) with
    | true => A
    | false => B) := by
  by_cases h : p
  · rw [decide_eq_true h]; exact h2 h
  · rw [decide_eq_false h]; exact h1 h
theorem dec_splitE {p : Prop} [Decidable p] {A B : Prop} (h1 : p → A) (h2 : ¬p → B) : (match (decide p != false) with
    | true => A
    | false => B) := by
  by_cases h : p
  · rw [decide_eq_true h]; exact h1 h
  · rw [decide_eq_false h]; exact h2 h
theorem dVar_at {i : Nat} {ρ : Rho} {μ : Mu} {Q : DK} {x : Vl} (h : ρ[i]? = some (some x)) (q : Q x μ) : dVar i ρ μ Q := by
  unfold dVar
  rw [h]; exact q
theorem dec_splitB {p : Prop} [Decidable p] {A B : Prop} (h1 : ¬p → A) (h2 : p → B) : (match (!decide p) with
    | true => A
    | false => B) := by
  by_cases h : p
  · rw [decide_eq_true h]; exact h2 h
  · rw [decide_eq_false h]; exact h1 h
theorem bool_split {b : Bool} {A B : Prop} (h1 : b = true → A) (h2 : b = false → B) : (match b with
    | true => A
    | false => B) := by
  cases b with
  | true => exact h1 rfl
  | false => exact h2 rfl
theorem bool_splitB {b : Bool} {A B : Prop} (h1 : b = false → A) (h2 : b = true → B) : (match !b with
    | true => A
    | false => B) := by
  cases b with
  | true => exact h2 rfl
  | false => exact h1 rfl
theorem bl_split {p : Prop} [Decidable p] {A B : Prop} (h1 : p → A) (h2 : ¬p → B) : (match Vl.bl (decide p) with
    | .bl true => A
    | .bl false => B
    | _ => False) := by
  by_cases h : p
  · rw [decide_eq_true h]; exact h1 h
  · rw [decide_eq_false h]; exact h2 h
/-- a loop that keeps something -/
theorem forD_inv {G : Mu → Prop} {g : DG} {body : DS} {d : DEnds} (I : List Vl → Rho → Mu → Prop) (hG : ∀ r ρ μ, I r ρ μ → G μ) (hn : ∀ ρ μ, I [] ρ μ → d.nx ρ μ)
    (hs : ∀ x r ρ μ, I (x :: r) ρ μ → ∀ D : DEnds, (∀ ρ' μ', I r ρ' μ' → D.nx ρ' μ') → D.rt = d.rt → (∀ ρ' μ', I r ρ' μ' → D.ct ρ' μ') → g x ρ μ fun ρ2 μ2 => body D ρ2 μ2) : ∀ (xs : List Vl) (ρ : Rho) (μ : Mu), I xs ρ μ → forD G g body d xs ρ μ
  | [], ρ, μ, h => ⟨hG _ _ _ h, hn _ _ h⟩
  | x :: r, ρ, μ, h => ⟨hG _ _ _ h, hs x r ρ μ h _ (fun ρ' μ' h' => forD_inv I hG hn hs r ρ' μ' h') rfl (fun ρ' μ' h' => forD_inv I hG hn hs r ρ' μ' h')⟩
/-- a comprehension that keeps something: what is left, what is made -/
theorem lcD_inv {G : Mu → Prop} {g : DG} {dt : DT} {de : DE} {ρ : Rho} {Q : List Vl → Mu → Prop} (I : List Vl → List Vl → Mu → Prop) (hG : ∀ r acc μ, I r acc μ → G μ) (hn : ∀ acc μ, I [] acc μ → Q acc μ)
    (hs : ∀ x r acc μ, I (x :: r) acc μ → ∀ D : List Vl → Mu → Prop, (∀ acc' μ', I r acc' μ' → D acc' μ') → g x ρ μ fun ρ2 μ2 => dt ρ2 μ2 fun b μ3 => match b with
      | true => de ρ2 μ3 fun y μ4 => D (acc ++ [y]) μ4
      | false => D acc μ3) : ∀ (xs acc : List Vl) (μ : Mu), I xs acc μ → lcD G g dt de ρ Q xs acc μ
  | [], acc, μ, h => ⟨hG _ _ _ h, hn _ _ h⟩
  | x :: r, acc, μ, h => ⟨hG _ _ _ h, hs x r acc μ h _ fun acc' μ' h' => lcD_inv I hG hn hs r acc' μ' h'⟩
/-- each item made by a function -/
theorem lc_map {α : Type} {G : Mu → Prop} {g : DG} {de : DE} {ρ : Rho} {Q : List Vl → Mu → Prop} {μ : Mu} (hG : G μ) (it : α → Vl) (f : α → Vl) : ∀ (xs : List α) (acc : List Vl), (∀ x ∈ xs, ∀ P : DK, P (f x) μ → g (it x) ρ μ fun ρ2 μ2 => de ρ2 μ2 P) → Q (acc ++ xs.map f) μ →
    lcD G g dYes de ρ Q (xs.map it) acc μ
  | [], acc, _, q => ⟨hG, by simpa using q⟩
  | x :: xs, acc, h, q => by
    refine ⟨hG, ?_⟩
    refine h x List.mem_cons_self _ ?_
    exact lc_map hG it f xs (acc ++ [f x]) (fun y hy => h y (List.mem_cons_of_mem _ hy)) (by simpa using q)
/-- each item kept or not, and made by a function -/
theorem lc_filter {α : Type} {G : Mu → Prop} {g : DG} {dt : DT} {de : DE} {ρ : Rho} {Q : List Vl → Mu → Prop} {μ : Mu} (hG : G μ) (it : α → Vl) (p : α → Bool) (f : α → Vl) : ∀ (xs : List α) (acc : List Vl),
    (∀ x ∈ xs, ∀ P : Bool → Mu → Prop, ∀ R : DK, (p x = true → R (f x) μ) → (p x = false → P false μ) → g (it x) ρ μ fun ρ2 μ2 => dt ρ2 μ2 fun b μ3 => match b with
      | true => de ρ2 μ3 R
      | false => P false μ3) → Q (acc ++ (xs.filter p).map f) μ →
    lcD G g dt de ρ Q (xs.map it) acc μ
  | [], acc, _, q => ⟨hG, by simpa using q⟩
  | x :: xs, acc, h, q => by
    refine ⟨hG, ?_⟩
    refine h x List.mem_cons_self (fun _ μ3 => lcD G g dt de ρ Q (xs.map it) acc μ3) _ (fun e => ?_) (fun e => ?_)
    · refine lc_filter hG it p f xs (acc ++ [f x]) (fun y hy => h y (List.mem_cons_of_mem _ hy)) ?_
      rw [List.filter_cons_of_pos e] at q
      simpa using q
    · refine lc_filter hG it p f xs acc (fun y hy => h y (List.mem_cons_of_mem _ hy)) ?_
      rw [List.filter_cons_of_neg (by rw [e]; exact Bool.false_ne_true)] at q
      exact q

/-! the pen: what the script holds, how far it is read, what is left of a great cell -/
def penM (ns : List Int) (a l : Int) : Mo := .lst [.lst (ns.map .int), .int a, .int l]
def c_draw : Ct := fun xs μ Q => ∃ (k : Nat) (ns : List Int) (a l many : Int), xs = [.ref k, .int many] ∧ μ[k]? = some (penM ns a l) ∧ (0 ≤ a ∧ a ≤ 1000000) ∧ 0 ≤ l ∧ many < 2 ^ 64 ∧
  ∀ d a' l' : Int, 0 ≤ d → (d < many ∨ d = 0) → a ≤ a' → a' ≤ a + 1 → 0 ≤ l' → Q (.int d) (μ.set k (penM ns a' l'))
theorem pure_rt {μ : Mu} {Q : DK} {x : Vl} (b : rfb μ.length x = true) (h : Q x μ) : (pureEnds μ Q).rt x μ := ⟨b, ⟨[], by simp⟩, h⟩
theorem pure_rt' {μ ex : Mu} {Q : DK} {x : Vl} (b : rfb μ.length x = true) (h : Q x μ) : (pureEnds μ Q).rt x (μ ++ ex) := ⟨b, ⟨ex, rfl⟩, h⟩
theorem l_draw : ∀ xs μ Q, c_draw xs μ Q → xs.length = 2 := by
  intro xs μ Q ⟨_, _, _, _, _, e, _⟩
  subst e; rfl
def c_pen : Ct := fun xs μ Q => ∃ ns : List Int, xs = [.frl (ns.map .int)] ∧ ns.length ≤ 63 ∧ Q (.ref μ.length) (μ ++ [penM ns 0 0])
theorem l_pen : ∀ xs μ Q, c_pen xs μ Q → xs.length = 1 := by
  intro xs μ Q ⟨_, e, _⟩
  subst e; rfl
def b_pen : DS :=
    (dRet (dLst (dCons (dCB fList (dCons (dSl (dVar 0) dNoPart (dPart (dC (.int 63)))) dNil)) (dCons (dC (.int 0)) (dCons (dC (.int 0)) dNil)))))
theorem r_pen : ∀ xs μ Q, c_pen xs μ Q → b_pen (spEnds Q) (startD ["script"] xs) μ := by
  intro xs μ Q ⟨ns, e, hn, q⟩
  subst e
  have e : cutD (ns.map Vl.int) none (some 63) = ns.map Vl.int := by
    unfold cutD
    rw [HT.sIx_none, show (63 : Int) = ((63 : Nat) : Int) from rfl, HT.sIx_nat, List.drop_zero, Nat.sub_zero]
    exact List.take_of_length_le (by rw [List.length_map]; omega)
  have hsl := sizeLine_eq
  refine ⟨_, rfl, .inl ?_⟩
  rw [e]
  refine ⟨_, ns.map .int, rfl, rfl, .inl ?_⟩
  exact ⟨by show 3 ≤ _; omega, .inr q⟩
def drawT (cA cB cC cD : Int) : DS :=
    (dSeq (dIf (dAndT (dTest (dOp dLt (dVar 3) (dCB fLen (dCons (dOp dIx (dVar 0) (dC (.int 0))) dNil)))) (dTest (dOp dGe (dCB fAbs (dCons (dVar 4) dNil)) (dOp dPow (dC (.int 10)) (dC (.int 18)))))) (dSeq (dAsg (dOp dAdd (dOp dMul (dC (.int 2)) (dOp (dI0 fun i j => .int (i - j)) (dCB fAbs (dCons (dVar 4) dNil)) (dOp dPow (dC (.int 10)) (dC (.int 18))))) (dCB fInt (dCons (dOp dLt (dVar 4) (dC (.int 0))) dNil))) (dgName 5))
    (dSeq (dAsg (dOp dFdiv (dCB fInt (dCons (dVar 5) dNil)) (dVar 1)) (dgIx (dVar 0) (dC (.int 2))))
    (dRet (dOp dMod (dCB fInt (dCons (dVar 5) dNil)) (dVar 1))))) dNext)
    (dSeq (dAsg (dOp dMod (dCB fInt (dCons (dOp dPow (dOp dAdd (dOp dAdd (dOp dMod (dCB fInt (dCons (dVar 4) dNil)) (dC (.int 2147483549))) (dOp dMul (dC (.int cC)) (dVar 3))) (dC (.int cB))) (dC (.int 3))) dNil)) (dC (.int 2147483629))) (dgName 6))
    (dSeq (dAsg (dOp dMod (dCB fInt (dCons (dOp dPow (dOp dAdd (dOp dAdd (dOp dMul (dVar 6) (dOp dAdd (dOp dMul (dC (.int 2)) (dVar 3)) (dC (.int cD)))) (dOp dMul (dOp dMul (dC (.int cA)) (dVar 3)) (dVar 3))) (dC (.int cC))) (dC (.int 5))) dNil)) (dC (.int 2147483563))) (dgName 6))
    (dRet (dOp dMod (dCB fInt (dCons (dOp dFdiv (dVar 6) (dC (.int 16))) dNil)) (dVar 1))))))
def drawB (cA cB cC cD : Int) : DS :=
    (dSeq (dIf (dTest (dOp dLt (dVar 1) (dC (.int 2)))) (dRet (dC (.int 0))) dNext)
    (dSeq (dIf (dTest (dOp dGt (dOp dIx (dVar 0) (dC (.int 2))) (dC (.int 0)))) (dSeq (dAsg (dOp dMod (dCB fInt (dCons (dOp dIx (dVar 0) (dC (.int 2))) dNil)) (dVar 1)) (dgName 2))
    (dSeq (dAsg (dOp dFdiv (dCB fInt (dCons (dOp dIx (dVar 0) (dC (.int 2))) dNil)) (dVar 1)) (dgIx (dVar 0) (dC (.int 2))))
    (dRet (dVar 2)))) dNext)
    (dSeq (dAsg (dOp dIx (dVar 0) (dC (.int 1))) (dgName 3))
    (dSeq (dAsg (dOp dAdd (dVar 3) (dC (.int 1))) (dgIx (dVar 0) (dC (.int 1))))
    (dSeq (dAsg (dOp dAdd (dOp dMul (dC (.int cA)) (dVar 3)) (dC (.int cB))) (dgName 4))
    (dSeq (dIf (dTest (dOp dNe (dOp dIx (dVar 0) (dC (.int 0))) (dLst dNil))) (dAsg (dOp dIx (dOp dIx (dVar 0) (dC (.int 0))) (dOp dMod (dCB fInt (dCons (dVar 3) dNil)) (dCB fLen (dCons (dOp dIx (dVar 0) (dC (.int 0))) dNil)))) (dgName 4)) dNext)
    (drawT cA cB cC cD)))))))

theorem atI_ints {ns : List Int} {i : Int} (h1 : 0 ≤ i) (h2 : i < (ns.length : Int)) : ∃ x, x ∈ ns ∧ atI (ns.map Vl.int) i = some (.int x) := by
  have hj : i.toNat < ns.length := by omega
  refine ⟨ns[i.toNat], List.getElem_mem hj, ?_⟩
  unfold atI
  unfold ixN
  rw [if_pos h1, List.length_map, if_pos h2]
  simp [hj]
theorem log_lt {i : Int} (h : i.natAbs < 2 ^ 64) : i.natAbs.log2 < 9000 := by
  by_cases hz : i.natAbs = 0
  · rw [hz]; decide
  · have := (Nat.log2_lt hz).mpr h
    omega
theorem set_set {μ : Mu} {k : Nat} {a b : Mo} : (μ.set k a).set k b = μ.set k b := List.set_set _
theorem set_get {μ : Mu} {k : Nat} {a b : Mo} (h : μ[k]? = some a) : (μ.set k b)[k]? = some b := by
  rw [List.getElem?_set_self (List.getElem?_eq_some_iff.mp h).1]
theorem set_same {μ : Mu} {k : Nat} {a : Mo} (h : μ[k]? = some a) : μ.set k a = μ := by
  obtain ⟨h1, h2⟩ := List.getElem?_eq_some_iff.mp h
  rw [← h2]; exact List.set_getElem_self h1
theorem fmod_lo {i m : Int} (h : 0 < m) : 0 ≤ i.fmod m := Int.fmod_nonneg_of_pos _ h
theorem fmod_hi {i m : Int} (h : 0 < m) : i.fmod m < m := Int.fmod_lt_of_pos _ h
theorem r_drawT {cA cB cC cD : Int} (hA : 0 ≤ cA ∧ cA < 1000000) (hB : 0 ≤ cB ∧ cB < 1000000) (hC : 0 ≤ cC ∧ cC < 1000000) (hD : 0 ≤ cD ∧ cD < 1000000) {μ : Mu} {k : Nat} {ns : List Int} {a many cell : Int} {Q : DK} (hk : μ[k]? = some (penM ns (a + 1) 0)) (ha : 0 ≤ a ∧ a ≤ 1000000) (h2 : 2 ≤ many) (hm : many < 2 ^ 64)
    (q : ∀ d l' : Int, 0 ≤ d → d < many → 0 ≤ l' → Q (.int d) (μ.set k (penM ns (a + 1) l'))) : drawT cA cB cC cD (spEnds Q) [some (.ref k), some (.int many), none, some (.int a), some (.int cell), none, none] μ := by
  have hsl := sizeLine_eq
  have vw : sview μ (.ref k) = some [.lst (ns.map .int), .int (a + 1), .int 0] := by
    show (match μ[k]? with
      | some (.lst xs) => some xs
      | _ => none) = _
    rw [hk]; rfl
  refine ⟨_, .lst (ns.map .int), vw, rfl, ?_⟩
  refine ⟨_, ns.map .int, rfl, rfl, ?_⟩
  have rest : (dSeq (dAsg (dOp dMod (dCB fInt (dCons (dOp dPow (dOp dAdd (dOp dAdd (dOp dMod (dCB fInt (dCons (dVar 4) dNil)) (dC (.int 2147483549))) (dOp dMul (dC (.int cC)) (dVar 3))) (dC (.int cB))) (dC (.int 3))) dNil)) (dC (.int 2147483629))) (dgName 6))
    (dSeq (dAsg (dOp dMod (dCB fInt (dCons (dOp dPow (dOp dAdd (dOp dAdd (dOp dMul (dVar 6) (dOp dAdd (dOp dMul (dC (.int 2)) (dVar 3)) (dC (.int cD)))) (dOp dMul (dOp dMul (dC (.int cA)) (dVar 3)) (dVar 3))) (dC (.int cC))) (dC (.int 5))) dNil)) (dC (.int 2147483563))) (dgName 6))
    (dRet (dOp dMod (dCB fInt (dCons (dOp dFdiv (dVar 6) (dC (.int 16))) dNil)) (dVar 1))))) (spEnds Q) [some (.ref k), some (.int many), none, some (.int a), some (.int cell), none, none] μ := by
    have m1 := fmod_lo (i := cell) (m := 2147483549) (by decide)
    have m2 := fmod_hi (i := cell) (m := 2147483549) (by decide)
    have c1 : 0 ≤ cC * a ∧ cC * a ≤ 1000000 * 1000000 := ⟨Int.mul_nonneg hC.1 ha.1, Int.mul_le_mul (by omega) ha.2 ha.1 (by decide)⟩
    refine ⟨by show (2147483549 : Int) ≠ 0; decide, .inl (by omega), ⟨by decide, by decide, by omega⟩, by show (2147483629 : Int) ≠ 0; decide, ?_⟩
    have rest2 : ∀ mx : Int, 0 ≤ mx → mx < 2147483629 → (dSeq (dAsg (dOp dMod (dCB fInt (dCons (dOp dPow (dOp dAdd (dOp dAdd (dOp dMul (dVar 6) (dOp dAdd (dOp dMul (dC (.int 2)) (dVar 3)) (dC (.int cD)))) (dOp dMul (dOp dMul (dC (.int cA)) (dVar 3)) (dVar 3))) (dC (.int cC))) (dC (.int 5))) dNil)) (dC (.int 2147483563))) (dgName 6))
        (dRet (dOp dMod (dCB fInt (dCons (dOp dFdiv (dVar 6) (dC (.int 16))) dNil)) (dVar 1)))) (spEnds Q) [some (.ref k), some (.int many), none, some (.int a), some (.int cell), none, some (.int mx)] μ := by
      intro mx n1 n2
      have c2 : 0 ≤ cA * a ∧ cA * a ≤ 1000000 * 1000000 := ⟨Int.mul_nonneg hA.1 ha.1, Int.mul_le_mul (by omega) ha.2 ha.1 (by decide)⟩
      have c3 : 0 ≤ cA * a * a ∧ cA * a * a ≤ 1000000 * 1000000 * 1000000 := ⟨Int.mul_nonneg c2.1 ha.1, Int.mul_le_mul c2.2 ha.2 ha.1 (by decide)⟩
      have c4 : 0 ≤ mx * (2 * a + cD) ∧ mx * (2 * a + cD) ≤ 2147483629 * 3000000 := ⟨Int.mul_nonneg n1 (by omega), Int.mul_le_mul (by omega) (by omega) (by omega) (by decide)⟩
      refine ⟨.inl (by decide), .inl (by omega), .inl (by omega), .inl (by omega), ⟨by decide, by decide, by omega⟩, by show (2147483563 : Int) ≠ 0; decide, ?_⟩
      refine ⟨⟨by decide, by decide⟩, by omega, ?_⟩
      have := q (((mx * (2 * a + cD) + cA * a * a + cC) ^ Int.toNat 5).fmod 2147483563 |>.fdiv 16 |>.fmod many) 0 (fmod_lo (by omega)) (fmod_hi (by omega)) (by omega)
      rw [set_same hk] at this
      exact this
    exact rest2 _ (fmod_lo (by decide)) (fmod_hi (by decide))
  refine dec_split (p := a < ((ns.map Vl.int).length : Int)) (fun h3 => ?_) (fun h3 => rest)
  refine ⟨⟨by decide, by decide, by decide⟩, ?_⟩
  refine dec_split (p := (10 : Int) ^ (18 : Int).toNat ≤ (if cell < 0 then -cell else cell)) (fun h4 => ?_) (fun h4 => rest)
  refine ⟨⟨by decide, by decide, by decide⟩, .inl (by decide), ?_⟩
  have hg : 0 ≤ 2 * ((if cell < 0 then -cell else cell) - (10 : Int) ^ (18 : Int).toNat) + (if decide (cell < 0) then 1 else 0) := by
    have : (0 : Int) ≤ (if decide (cell < 0) then 1 else 0) := by split <;> omega
    omega
  refine ⟨⟨by omega, log_lt (by omega)⟩, k, 2, _, 2, rfl, rfl, hk, rfl, ?_⟩
  refine ⟨by omega, ?_⟩
  exact q _ _ (fmod_lo (by omega)) (fmod_hi (by omega)) (Int.fdiv_nonneg hg (by omega))
theorem r_draw {cA cB cC cD : Int} (hA : 0 ≤ cA ∧ cA < 1000000) (hB : 0 ≤ cB ∧ cB < 1000000) (hC : 0 ≤ cC ∧ cC < 1000000) (hD : 0 ≤ cD ∧ cD < 1000000) : ∀ xs μ Q, c_draw xs μ Q → drawB cA cB cC cD (spEnds Q) (startD ["pen", "many", "digit", "at", "cell", "great", "mixed"] xs) μ := by
  intro xs μ Q ⟨k, ns, a, l, many, e, hk, ⟨ha, ha6⟩, hl, hm, q⟩
  subst e
  have hsl := sizeLine_eq
  have vw : ∀ {μ : Mu} {a l : Int}, μ[k]? = some (penM ns a l) → sview μ (.ref k) = some [.lst (ns.map .int), .int a, .int l] := by
    intro μ a l hk
    show (match μ[k]? with
      | some (.lst xs) => some xs
      | _ => none) = _
    rw [hk]; rfl
  refine dec_split (p := many < 2) (fun h => ?_) (fun h => ?_)
  · have := q 0 a l (by omega) (.inr rfl) (by omega) (by omega) hl
    rw [set_same hk] at this
    exact this
  refine ⟨_, .int l, vw hk, rfl, ?_⟩
  refine dec_split (p := 0 < l) (fun h2 => ?_) (fun h2 => ?_)
  · refine ⟨_, .int l, vw hk, rfl, by omega, ?_⟩
    refine ⟨_, .int l, vw hk, rfl, ⟨by omega, log_lt (by omega)⟩, ?_⟩
    refine ⟨k, 2, _, 2, rfl, rfl, hk, rfl, ?_⟩
    exact q _ a _ (fmod_lo (by omega)) (.inl (fmod_hi (by omega))) (by omega) (by omega) (Int.fdiv_nonneg (by omega) (by omega))
  have hl0 : l = 0 := by omega
  subst hl0
  refine ⟨_, .int a, vw hk, rfl, ?_⟩
  refine ⟨k, 1, _, 1, rfl, rfl, hk, rfl, ?_⟩
  refine ⟨.inl (by omega), ?_⟩
  have hk1 : (μ.set k (penM ns (a + 1) 0))[k]? = some (penM ns (a + 1) 0) := set_get hk
  have rest : ∀ cell : Int, drawT cA cB cC cD (spEnds Q) [some (.ref k), some (.int many), none, some (.int a), some (.int cell), none, none] (μ.set k (penM ns (a + 1) 0)) := by
    intro cell
    refine r_drawT hA hB hC hD hk1 ⟨ha, ha6⟩ (by omega) hm fun d l' h1 h2 h3 => ?_
    rw [set_set]
    exact q d _ l' h1 (.inl h2) (by omega) (by omega) h3
  refine ⟨_, .lst (ns.map .int), vw hk1, rfl, by show 0 ≤ _; omega, .inl ?_⟩
  refine eq_lstI (s := []) ?_
  refine dec_splitN (p := ns = []) (fun h3 => ?_) (fun h3 => rest _)
  have hn : 0 < ns.length := List.length_pos_iff.mpr h3
  refine ⟨_, .lst (ns.map .int), vw hk1, rfl, _, .lst (ns.map .int), vw hk1, rfl, _, ns.map .int, rfl, rfl, by rw [List.length_map]; omega, ?_⟩
  have lo := fmod_lo (i := a) (m := ((ns.map Vl.int).length : Int)) (by rw [List.length_map]; omega)
  have hi := fmod_hi (i := a) (m := ((ns.map Vl.int).length : Int)) (by rw [List.length_map]; omega)
  rw [List.length_map] at hi lo
  obtain ⟨x, _, hx⟩ := atI_ints lo hi
  exact ⟨ns.map .int, .int x, rfl, by rw [List.length_map]; exact hx, rest _⟩
end DL

/-! DLh: instances of own classes: fields, methods, making; dicts. -/
namespace DL
open PySem PySem.Spec L2 StX PyProof.Rows
/-! ### fields -/
def putD {κ : Type} [DecidableEq κ] (f : κ) (v : Vl) : List (κ × Vl) → List (κ × Vl)
  | [] => [(f, v)]
  | (g, x) :: r => if g = f then (g, v) :: r else (g, x) :: putD f v r
theorem RepF.lookup {K : PySem.W.Frag} {c : Cf} {f : Str} : ∀ {fs : List (Str × Vl)} {vs : List (Str × V)}, RepF K c vs fs → ∀ {x : Vl}, fs.lookup f = some x → ∃ v, vs.lookup f = some v ∧ Rep K c v x
  | [], _, r, _, h => by cases h
  | (g, x') :: fs, _, r, x, h => by
    cases r with
    | cons r1 r2 =>
      rw [List.lookup_cons] at h
      rw [List.lookup_cons]
      cases hg : f == g with
      | true =>
        rw [hg] at h
        have e : x' = x := Option.some.inj h
        subst e
        exact ⟨_, rfl, r1⟩
      | false =>
        rw [hg] at h
        exact RepF.lookup r2 h
theorem RepF.lookup_none {K : PySem.W.Frag} {c : Cf} {f : Str} : ∀ {fs : List (Str × Vl)} {vs : List (Str × V)}, RepF K c vs fs → fs.lookup f = none → vs.lookup f = none
  | [], _, r, h => by cases r; rfl
  | (g, x') :: fs, _, r, h => by
    cases r with
    | cons r1 r2 =>
      rw [List.lookup_cons] at h
      rw [List.lookup_cons]
      cases hg : f == g with
      | true => rw [hg] at h; cases h
      | false =>
        rw [hg] at h
        exact RepF.lookup_none r2 h
theorem RepF.length {K : PySem.W.Frag} {c : Cf} {κ : Type} : ∀ {fs : List (κ × Vl)} {vs : List (κ × V)}, RepF K c vs fs → vs.length = fs.length
  | [], _, r => by cases r; rfl
  | _ :: _, _, r => by
    cases r with
    | cons r1 r2 => exact congrArg (· + 1) (RepF.length r2)
theorem RepF.putF {K : PySem.W.Frag} {c : Cf} {f : Str} {v : V} {x : Vl} (rx : Rep K c v x) : ∀ {fs : List (Str × Vl)} {vs : List (Str × V)}, RepF K c vs fs → RepF K c (L2.putF f v vs) (putD f x fs)
  | [], _, r => by cases r; exact .cons rx .nil
  | (g, x') :: fs, _, r => by
    cases r with
    | cons r1 r2 =>
      unfold L2.putF putD
      by_cases hg : g = f
      · rw [if_pos hg, if_pos hg]; exact .cons rx r2
      · rw [if_neg hg, if_neg hg]; exact .cons r1 (RepF.putF rx r2)
theorem ins_at {K : PySem.W.Frag} {c : Cf} {μ : Mu} {H : Hp} {v : V} {k : Nat} {C : Addr} {fs : List (Str × Vl)} (R : RM K c μ H) (r : Rep K c v (.ref k)) (h : μ[k]? = some (.ins C fs)) : ∃ a dx vs, v = .ref a ∧ c.al[k]? = some a ∧ H a = some (.ins C dx vs) ∧ RepF K c vs fs := by
  obtain ⟨a, e, hk, dx, vs, h1, h2⟩ := ref_at R r h
  exact ⟨a, dx, vs, e, hk, h1, h2⟩
section
variable {X : Cx} {e a b o value i : Expr} {es : List Expr} {te ta tb tv to ti : TE} {t : TA} {d : DA} {de da db dv do_ di : DE} {pos pos' apos : Pos} {C f : Addr} {m n : Str}
def dFld (C : Addr) (n : Str) (do_ : DE) : DE := fun ρ μ Q => do_ ρ μ fun x μ1 => ∃ (k : Nat) (fs : List (Str × Vl)) (v : Vl), x = .ref k ∧ μ1[k]? = some (.ins C fs) ∧ fs.lookup n = some v ∧ Q v μ1
theorem q_fld (hC : Cls X.K C) (hn : NoAttr X.K C n) (ho : QE X o to do_) (hb : attributeBase o n X.env (eval o X.env) = eval o X.env := by rfl) : QE X (.Attribute o n pos) (tFld X.K to n) (dFld C n do_) := by
  refine ⟨pe_fld ho.p hb, fun c ρ μ σ H Q P R S h k => ?_⟩
  refine ho.s c ρ μ σ H _ _ R S h fun c1 x μ1 v H1 E1 R1 r1 q1 => ?_
  obtain ⟨j, fs, x', e1, hj, hl, q⟩ := q1
  subst e1
  obtain ⟨ad, dx, vs, e2, _, h2, rf⟩ := ins_at R1 r1 hj
  obtain ⟨v', h3, rv⟩ := rf.lookup hl
  exact ⟨ad, C, dx, vs, v', e2, h2, hC, hn, h3, k c1 x' μ1 v' H1 E1 R1 rv q⟩
def dgFld (C : Addr) (n : Str) (do_ dv : DE) : DS := fun D ρ μ => dv ρ μ fun y μ1 => do_ ρ μ1 fun x μ2 => ∃ (k : Nat) (fs : List (Str × Vl)), x = .ref k ∧ μ2[k]? = some (.ins C fs) ∧ fs.length < 1000 ∧ D.nx ρ (μ2.set k (.ins C (putD n y fs)))
theorem qs_fld (hC : Cls X.K C) (hn : NoAttr X.K C n) (ho : QE X o to do_) (hv : QE X value tv dv) (hs : swapsWith value (some (.Attribute o n pos')) pos.line X.env = pure false := by rfl) : QS X (.Assign [.Attribute o n pos'] value pos) (sFld X.K to tv n) (dgFld C n do_ dv) := by
  refine ⟨ps_fld ho.p hv.p hs, fun c ρ μ σ H D d R S k h => ?_⟩
  refine hv.s c ρ μ σ H _ _ R S h fun c1 y μ1 v H1 E1 R1 r1 q1 => ?_
  refine ho.s c1 ρ μ1 σ H1 _ _ R1 (S.up E1.toExt0) q1 fun c2 x μ2 v2 H2 E2 R2 r2 q2 => ?_
  obtain ⟨j, fs, e1, hj, hz, q⟩ := q2
  subst e1
  obtain ⟨ad, dx, vs, e2, hk, h2, rf⟩ := ins_at R2 r2 hj
  refine ⟨ad, C, dx, vs, e2, h2, hC, hn, by rw [rf.length]; exact hz, ?_⟩
  exact k.nx c2 ρ _ σ _ (E1.trans E2) (R2.write (m := .ins C (putD n y fs)) hk ⟨dx, _, rfl, rf.putF (r1.up E2.toExt0)⟩) (S.up (E1.trans E2).toExt0) q

/-! ### methods -/
def tMethG (K : PySem.W.Frag) (C : Addr) (m : Str) (Cm : Ct) (ta : TE) (t : TA) : TE := fun σ H Q => ta σ H fun x H1 => ∃ a dx fs, x = .ref a ∧ H1 a = some (.ins C dx fs) ∧ fs.lookup m = none ∧ t σ H1 fun vs H2 => spOf K Cm (x :: vs) H2 Q
def dMeth (C : Addr) (m : Str) (Cm : Ct) (do_ : DE) (d : DA) : DE := fun ρ μ Q => do_ ρ μ fun x μ1 => (∃ (k : Nat) (fs : List (Str × Vl)), x = .ref k ∧ μ1[k]? = some (.ins C fs) ∧ fs.lookup m = none) ∧ d ρ μ1 fun xs μ2 => Cm (x :: xs) μ2 Q
theorem sim_meth {Cm : Ct} {K : PySem.W.Frag} (ho : SimE K to do_) (ha : SimA K t d) : SimE K (tMethG K C m Cm to t) (dMeth C m Cm do_ d) := by
  intro c ρ μ σ H Q P R S h k
  refine ho c ρ μ σ H _ _ R S h fun c1 x μ1 v H1 E1 R1 r1 q1 => ?_
  obtain ⟨⟨j, fs, e1, hj, hl⟩, q1⟩ := q1
  subst e1
  obtain ⟨ad, dx, vs, e2, _, h2, rf⟩ := ins_at R1 r1 hj
  refine ⟨ad, dx, vs, e2, h2, rf.lookup_none hl, ?_⟩
  refine ha c1 ρ μ1 σ H1 _ _ R1 (S.up E1.toExt0) q1 fun c2 xs μ2 ws H2 E2 R2 r2 q2 => ?_
  exact ⟨c2, .ref j :: xs, μ2, Q, R2, .cons (r1.up E2.toExt0) r2, q2, fun c3 z μ3 w H3 E3 => k c3 z μ3 w H3 ((E1.trans E2).trans E3)⟩
theorem q_meth {pl : Sem Bool} {Cm : Ct} {k : Nat} {fd : FuncData} {ps : List Str} (ho : QE X o to do_) (c : Cls X.K C) (hm : Meth X.K C m f) (F : FnG X.prog X.w X.K X.mg X.base k f fd ps Cm) (am : AmbX X.prog X.A X.base) (hr : Room k X.A) (hb : Binds X.K fd ps []) (ha : QA X (e :: es) t d)
    (hst : starEach (e :: es) X.env = (false, eval e X.env) :: starEach es X.env := by rfl) (hpl : (backTo pos (starEach es X.env)).any (·.1) = false := by rfl)
    (ht : eval (.Call (.Attribute o m apos) (e :: es) [] pos) X.env = (do
      let ov ← eval o X.env
      standAt apos.atName
      let (f, first) ← holding [ov] (getMethod ov m pl)
      callWith pos f first (backTo pos (starEach (e :: es) X.env)) (backToKw pos (keywordEach [] X.env))) := by rfl) :
    QE X (.Call (.Attribute o m apos) (e :: es) [] pos) (tMethG X.K C m Cm to t) (dMeth C m Cm do_ d) := by
  refine ⟨⟨fun pins s σ H Q I h => ?_⟩, sim_meth ho.s ha.s⟩
  refine PySem.W.methodCall_KW (pl := pl) (thn (ho.p.run pins s σ H _ I h) fun u s1 ⟨x, H1, I1, rx, a, dx, fs, ex, ea, l, q⟩ => ?_) ht
  subst ex
  obtain rfl : u = Value.ref a := rx
  refine getmeth_ok I1 ea c hm l ?_
  refine PySem.W.callWith_K (first := [.ref a]) (h₀ := X.base) I.ok.mod.kin hm.kp (thn (ha.p.run pos pins s1 σ H1 _ I1 q) fun us s2 ⟨vs, H2, I2, r, q2⟩ => ⟨I2.kIn, ?_⟩) hst hpl
  have hl : ((.ref a :: us) ++ ([] : List Value)).length = ps.length := by
    have := spOf_len F.len q2
    rw [List.append_nil, ← this, List.length_cons, List.length_cons, r.length]
  have z := hb s2 (.ref a :: us) I2.kIn hl
  rw [List.append_nil] at z
  exact run_Gw (us := .ref a :: us) (vs := .ref a :: vs) F am hr I2 z (.cons rfl r) q2
theorem q_meth0 {pl : Sem Bool} {Cm : Ct} {k : Nat} {fd : FuncData} {ps : List Str} (ho : QE X o to do_) (c : Cls X.K C) (hm : Meth X.K C m f) (F : FnG X.prog X.w X.K X.mg X.base k f fd ps Cm) (am : AmbX X.prog X.A X.base) (hr : Room k X.A) (hb : Binds X.K fd ps [])
    (ht : eval (.Call (.Attribute o m apos) [] [] pos) X.env = (do
      let ov ← eval o X.env
      standAt apos.atName
      let (f, first) ← holding [ov] (getMethod ov m pl)
      callWith pos f first (backTo pos (starEach [] X.env)) (backToKw pos (keywordEach [] X.env))) := by rfl) :
    QE X (.Call (.Attribute o m apos) [] [] pos) (tMethG X.K C m Cm to tNil) (dMeth C m Cm do_ dNil) := by
  refine ⟨⟨fun pins s σ H Q I h => ?_⟩, sim_meth ho.s qa_nil.s⟩
  refine PySem.W.methodCall_KW (pl := pl) (thn (ho.p.run pins s σ H _ I h) fun u s1 ⟨x, H1, I1, rx, a, dx, fs, ex, ea, l, q⟩ => ?_) ht
  subst ex
  obtain rfl : u = Value.ref a := rx
  refine getmeth_ok I1 ea c hm l ?_
  have q : spOf X.K Cm [.ref a] H1 Q := q
  have z := hb s1 [.ref a] I1.kIn (spOf_len F.len q)
  rw [List.append_nil] at z
  exact PySem.W.callWith_K0 (first := [.ref a]) I1.kIn hm.kp (run_Gw (us := [.ref a]) (vs := [.ref a]) F am hr I1 z (.cons rfl .nil) q)

/-! ### making -/
theorem RM.junk {K : PySem.W.Frag} {c : Cf} {μ : Mu} {H : Hp} {p : Addr} {o : HO} (R : RM K c μ H) (hp : H p = none) : RM K c μ (upd H p o) := by
  refine ⟨fun a u h => ?_, R.len, R.nod, fun k a m h1 h2 => ?_, fun a u h => ?_, R.fds⟩
  · have := R.sub a u h
    rw [upd_ne (ne_of_none this hp)]; exact this
  · obtain ⟨q1, q2⟩ := R.obj k a m h1 h2
    have hs := q2.some
    have ne : a ≠ p := fun e => by rw [e, hp] at hs; cases hs
    exact ⟨q1, by rw [upd_ne ne]; exact q2⟩
  · have := R.fsb a u h
    rw [upd_ne (ne_of_none this hp)]; exact this
def tMakeG (K : PySem.W.Frag) (C : Addr) (Ci : Ct) (t : TA) : TE := fun σ H Q => t σ H fun vs H1 => ∀ x dx, H1 x = none → H1 dx = none → dx ≠ x →
  spOf K Ci (.ref x :: vs) (upd (upd H1 dx (.own x)) x (.ins C dx [])) (fun v H2 => v = .non ∧ Q (.ref x) H2)
def dMake (C : Addr) (Ci : Ct) (d : DA) : DE := fun ρ μ Q => d ρ μ fun xs μ1 => Ci (.ref μ1.length :: xs) (μ1 ++ [.ins C []]) fun v μ2 => v = .non ∧ Q (.ref μ1.length) μ2
theorem sim_make {Ci : Ct} {K : PySem.W.Frag} (ha : SimA K t d) : SimE K (tMakeG K C Ci t) (dMake C Ci d) := by
  intro c ρ μ σ H Q P R S h k
  refine ha c ρ μ σ H _ _ R S h fun c1 xs μ1 vs H1 E1 R1 r1 q1 => ?_
  intro x dx hx hdx hne
  have R2 := R1.junk (o := .own x) hdx
  have hx2 : (upd H1 dx (.own x)) x = none := by rw [upd_ne (Ne.symm hne)]; exact hx
  obtain ⟨R3, E3⟩ := R2.fresh (o := .ins C dx []) (m := .ins C []) hx2 ⟨dx, [], rfl, .nil⟩
  have hat : (c1.al ++ [x])[μ1.length]? = some x := by rw [← R1.len]; simp
  refine ⟨_, .ref μ1.length :: xs, _, _, R3, .cons (.ref hat) (r1.up E3.toExt0), q1, fun c4 z μ4 w H4 E4 R4 r4 q4 => ?_⟩
  obtain ⟨e, q4⟩ := q4
  subst e
  cases r4
  exact ⟨rfl, k c4 (.ref μ1.length) μ4 (.ref x) H4 ((E1.trans E3).trans E4) R4 (.ref (E4.al _ _ hat)) q4⟩
theorem Amb.under {P : Program} {A : Around} {base : Heap} (a : Amb P A base) (c : Code) (hc : c.guards = []) : Amb P (A.under c) base := by
  refine ⟨?_, a.seer, a.tree⟩
  show pushGuards c.guards A.guards = _
  rw [a.guards, hc]
  rfl
theorem run_makeG {Ci : Ct} {k : Nat} {fd : FuncData} {ps : List Str} {pins : List (Addr × Obj)} {σ : L2.St} {H : Hp} {s : Shared} {Q : VK} {us : List Value} {vs : List V} (M : Mk X.K C f) (F : FnG X.prog X.w X.K X.mg X.base k f fd ps Ci) (am : AmbX X.prog X.A X.base) (hr : Room (k + 1) X.A) (hb : Binds X.K fd ps [])
    (I : L2.Inv X pins σ H s) (r : Vals vs us)
    (h : ∀ x dx, H x = none → H dx = none → dx ≠ x → spOf X.K Ci (.ref x :: vs) (upd (upd H dx (.own x)) x (.ins C dx [])) (fun v H2 => v = .non ∧ Q (.ref x) H2)) :
    wpAny (model X.prog X.w) X.A (call (.ref C) us) (EP X pins σ Q) X.xe s := by
  have hq := h (s.heap.objs.size + 1) s.heap.objs.size (I.hok.fresh (Nat.le_succ _)) (I.hok.fresh (Nat.le_refl _)) (Nat.ne_of_lt (Nat.lt_succ_self _))
  have I2 := Inv.made (C := C) I
  have r2 : Vals (V.ref (s.heap.objs.size + 1) :: vs) (Value.ref (s.heap.objs.size + 1) :: us) := .cons rfl r
  have hl : ((Value.ref (s.heap.objs.size + 1) :: us) ++ ([] : List Value)).length = ps.length := by
    rw [List.append_nil, ← r2.length]; exact spOf_len F.len hq
  have z := hb _ (Value.ref (s.heap.objs.size + 1) :: us) I2.kIn hl
  rw [List.append_nil] at z
  refine wpAny_call (make_map (f := f) I.kIn M.makes M.init (beq_iff_eq.mp M.fn) (codeAny_mono (F.run _ X.stack _ _ ⟨Value.ref (s.heap.objs.size + 1) :: us, []⟩ (Value.ref (s.heap.objs.size + 1) :: us) _ _ (am.toAmb.under _ (by rfl)) (hr.make C us [])
    (I2.env0.make C us []) z r2 hq) fun r s' hq' => ?_))
  cases r with
  | error e => exact hq'.elim
  | ok fl =>
    cases fl with
    | ret u =>
      obtain ⟨v, H', I3, rv, ev, q3⟩ := I2.after hq'
      subst ev
      exact ⟨rv, ⟨V.ref (s.heap.objs.size + 1), H', I3, rfl, q3⟩⟩
    | next => exact hq'.elim
    | brk => exact hq'.elim
    | cont => exact hq'.elim
theorem q_make {Ci : Ct} {k : Nat} {fd : FuncData} {ps : List Str} {x : Str} {p : Pos} (M : Mk X.K C f) (F : FnG X.prog X.w X.K X.mg X.base k f fd ps Ci) (am : AmbX X.prog X.A X.base) (hr : Room (k + 1) X.A) (hm : X.mg x = some (.ref C)) (hb : Binds X.K fd ps []) (ha : QA X (e :: es) t d) (hg : Gl X x := by rfl)
    (hdb : (x == ("__debug__" : Str)) = false := by decide) (he : starEach (e :: es) X.env = (false, eval e X.env) :: starEach es X.env := by rfl) (hpl : (backTo pos (starEach es X.env)).any (·.1) = false := by rfl) :
    QE X (.Call (.Name x p) (e :: es) [] pos) (tMakeG X.K C Ci t) (dMake C Ci d) := by
  refine ⟨⟨fun pins s σ H Q I h => ?_⟩, sim_make ha.s⟩
  refine wpAny_Call_Name_kw (ld_glob I hg hm ?_ hdb)
  refine PySem.W.callWith_K (h₀ := X.base) I.ok.mod.kin M.kp (thn (ha.p.run pos pins s σ H _ I h) fun us s1 ⟨vs, H1, I1, r, q⟩ => ⟨I1.kIn, ?_⟩) he hpl
  exact run_makeG M F am hr hb I1 r q
end
end DL

/-! DLi: dicts with ints and texts as keys; pop; range downwards; gcd; great divisors. -/
namespace DL
open PySem PySem.Spec L2 StX PyProof.Rows
def keyV : Vl → Option Key
  | .int i => some (.inl i)
  | .str x => some (.inr x)
  | _ => none
theorem keyV_rep {K : PySem.W.Frag} {c : Cf} {v : V} {y : Vl} {k : Key} (r : Rep K c v y) (h : keyV y = some k) : v = kV k := by
  cases r <;> first | (cases h; rfl) | cases h
def valD (kvs : List (Key × Vl)) (k : Key) : Option Vl := (kvs.find? fun kv => decide (kv.1 = k)).map (·.2)
def putK' (kvs : List (Key × Vl)) (k : Key) (v : Vl) : List (Key × Vl) :=
  if (kvs.any fun kv => decide (kv.1 = k)) = true then kvs.map (fun kv => if kv.1 = k then (kv.1, v) else kv) else kvs ++ [(k, v)]
theorem RepF.valK {K : PySem.W.Frag} {c : Cf} {k : Key} : ∀ {fs : List (Key × Vl)} {vs : List (Key × V)}, RepF K c vs fs → (∀ x, valD fs k = some x → ∃ v, valV vs k = some v ∧ Rep K c v x) ∧ (valD fs k = none → valV vs k = none)
  | [], _, r => by cases r; exact ⟨fun x h => (by cases h), fun _ => rfl⟩
  | (g, x') :: fs, _, r => by
    cases r with
    | cons r1 r2 =>
      rename_i v' vs'
      obtain ⟨i1, i2⟩ := RepF.valK (k := k) r2
      by_cases hg : g = k
      · subst hg
        have e1 : valD ((g, x') :: fs) g = some x' := by simp [valD, List.find?_cons]
        have e2 : valV ((g, v') :: vs') g = some v' := by simp [valV, List.find?_cons]
        rw [e1, e2]
        exact ⟨fun x h => ⟨v', rfl, by rw [← Option.some.inj h]; exact r1⟩, fun h => (by cases h)⟩
      · have e1 : valD ((g, x') :: fs) k = valD fs k := by simp [valD, List.find?_cons, hg]
        have e2 : valV ((g, v') :: vs') k = valV vs' k := by simp [valV, List.find?_cons, hg]
        rw [e1, e2]
        exact ⟨i1, i2⟩
theorem RepF.any {K : PySem.W.Frag} {c : Cf} {k : Key} : ∀ {fs : List (Key × Vl)} {vs : List (Key × V)}, RepF K c vs fs → (vs.any fun kv => decide (kv.1 = k)) = (fs.any fun kv => decide (kv.1 = k))
  | [], _, r => by cases r; rfl
  | (g, x') :: fs, _, r => by
    cases r with
    | cons r1 r2 => rw [List.any_cons, List.any_cons, RepF.any r2]
theorem RepF.mapP {K : PySem.W.Frag} {c : Cf} {k : Key} {v : V} {x : Vl} (rx : Rep K c v x) : ∀ {fs : List (Key × Vl)} {vs : List (Key × V)}, RepF K c vs fs → RepF K c (vs.map fun kv => if kv.1 = k then (kv.1, v) else kv) (fs.map fun kv => if kv.1 = k then (kv.1, x) else kv)
  | [], _, r => by cases r; exact .nil
  | (g, x') :: fs, _, r => by
    cases r with
    | cons r1 r2 =>
      rw [List.map_cons, List.map_cons]
      by_cases hg : g = k
      · rw [if_pos hg, if_pos hg]; exact .cons rx (RepF.mapP rx r2)
      · rw [if_neg hg, if_neg hg]; exact .cons r1 (RepF.mapP rx r2)
theorem RepF.snoc {K : PySem.W.Frag} {c : Cf} {κ : Type} {k : κ} {v : V} {x : Vl} (rx : Rep K c v x) : ∀ {fs : List (κ × Vl)} {vs : List (κ × V)}, RepF K c vs fs → RepF K c (vs ++ [(k, v)]) (fs ++ [(k, x)])
  | [], _, r => by cases r; exact .cons rx .nil
  | (g, x') :: fs, _, r => by
    cases r with
    | cons r1 r2 => exact .cons r1 (RepF.snoc rx r2)
theorem RepF.putK {K : PySem.W.Frag} {c : Cf} {k : Key} {v : V} {x : Vl} (rx : Rep K c v x) {fs : List (Key × Vl)} {vs : List (Key × V)} (r : RepF K c vs fs) : RepF K c (L2.putK vs k v) (putK' fs k x) := by
  unfold L2.putK putK'
  rw [r.any]
  split
  · exact r.mapP rx
  · exact r.snoc rx
theorem dict_at {K : PySem.W.Frag} {c : Cf} {μ : Mu} {H : Hp} {v : V} {k : Nat} {fs : List (Key × Vl)} (R : RM K c μ H) (r : Rep K c v (.ref k)) (h : μ[k]? = some (.dict fs)) : ∃ a vs, v = .ref a ∧ c.al[k]? = some a ∧ H a = some (.dK vs) ∧ RepF K c vs fs := by
  obtain ⟨a, e, hk, vs, h1, h2⟩ := ref_at R r h
  exact ⟨a, vs, e, hk, h1, h2⟩
section
variable {X : Cx} {e a b o value i tg : Expr} {es : List Expr} {te ta tb tv to ti : TE} {t : TA} {tA : TA} {dA : DA} {d : DA} {de da db dv do_ di : DE} {pos pos' apos cpos p : Pos} {k : Nat}
def dDict0 : DE := fun _ μ Q => Q (.ref μ.length) (μ ++ [.dict []])
theorem q_dnew : QE X (.Dict [] [] pos) tDNewK dDict0 := by
  refine ⟨pe_dnewK, fun c ρ μ σ H Q P R S h k => ?_⟩
  intro p hp
  obtain ⟨R1, E1⟩ := R.fresh (o := .dK []) (m := .dict []) hp ⟨[], rfl, .nil⟩
  exact k _ _ _ _ _ E1 R1 (.ref (by show (c.al ++ [p])[μ.length]? = some p; rw [← R.len]; simp)) h
def dDGet (do_ di : DE) : DE := fun ρ μ Q => do_ ρ μ fun x μ1 => di ρ μ1 fun y μ2 => ∃ (k : Nat) (fs : List (Key × Vl)) (ky : Key) (v : Vl), x = .ref k ∧ μ2[k]? = some (.dict fs) ∧ keyV y = some ky ∧ valD fs ky = some v ∧ Q v μ2
theorem q_dget (hr : Room k X.A) (ho : QE X o to do_) (hi : QE X i ti di) (hs : NoSl i := by intro _ _; rfl) : QE X (.Subscript o i pos) (tDGet to ti) (dDGet do_ di) := by
  refine ⟨pe_dget (by have := hr.units; omega) ho.p hi.p hs, fun c ρ μ σ H Q P R S h kk => ?_⟩
  refine ho.s c ρ μ σ H _ _ R S h fun c1 x μ1 v H1 E1 R1 r1 q1 => ?_
  refine hi.s c1 ρ μ1 σ H1 _ _ R1 (S.up E1.toExt0) q1 fun c2 y μ2 v2 H2 E2 R2 r2 q2 => ?_
  obtain ⟨j, fs, ky, w, e1, hj, hy, hl, q⟩ := q2
  subst e1
  obtain ⟨ad, vs, e2, _, h2, rf⟩ := dict_at R2 (r1.up E2.toExt0) hj
  obtain ⟨w', h3, rw'⟩ := (rf.valK (k := ky)).1 w hl
  refine ⟨ad, w', e2, ?_, kk c2 w μ2 w' H2 (E1.trans E2) R2 rw' q⟩
  rw [keyV_rep r2 hy, ← h3]
  exact DGet.k h2
def dDIn (neg : Bool) (di do_ : DE) : DE := fun ρ μ Q => di ρ μ fun y μ1 => do_ ρ μ1 fun x μ2 => ∃ (k : Nat) (fs : List (Key × Vl)) (ky : Key), x = .ref k ∧ μ2[k]? = some (.dict fs) ∧ keyV y = some ky ∧ Q (.bl ((valD fs ky).isSome != neg)) μ2
theorem valK_some {K : PySem.W.Frag} {c : Cf} {ky : Key} {fs : List (Key × Vl)} {vs : List (Key × V)} (rf : RepF K c vs fs) : (valV vs ky).isSome = (valD fs ky).isSome := by
  obtain ⟨h1, h2⟩ := rf.valK (k := ky)
  cases hx : valD fs ky with
  | none => rw [h2 hx]; rfl
  | some x =>
    obtain ⟨v, e, _⟩ := h1 x hx
    rw [e]; rfl
theorem sim_din {K : PySem.W.Frag} (hi : SimE K ti di) (ho : SimE K to do_) : SimE K (tDIn ti to) (dDIn false di do_) := by
  intro c ρ μ σ H Q P R S h kk
  refine hi c ρ μ σ H _ _ R S h fun c1 y μ1 v H1 E1 R1 r1 q1 => ?_
  refine ho c1 ρ μ1 σ H1 _ _ R1 (S.up E1.toExt0) q1 fun c2 x μ2 v2 H2 E2 R2 r2 q2 => ?_
  obtain ⟨j, fs, ky, e1, hj, hy, q⟩ := q2
  subst e1
  obtain ⟨ad, vs, e2, _, h2, rf⟩ := dict_at R2 r2 hj
  refine ⟨ad, valV vs ky, e2, by rw [keyV_rep r1 hy]; exact DGet.k h2, kk c2 _ μ2 _ H2 (E1.trans E2) R2 (.bl _) ?_⟩
  rw [show ((valD fs ky).isSome != false) = (valV vs ky).isSome from by rw [valK_some rf]; cases (valD fs ky).isSome <;> rfl] at q
  exact q
theorem sim_dnotin {K : PySem.W.Frag} (hi : SimE K ti di) (ho : SimE K to do_) : SimE K (tDNotIn ti to) (dDIn true di do_) := by
  intro c ρ μ σ H Q P R S h kk
  refine hi c ρ μ σ H _ _ R S h fun c1 y μ1 v H1 E1 R1 r1 q1 => ?_
  refine ho c1 ρ μ1 σ H1 _ _ R1 (S.up E1.toExt0) q1 fun c2 x μ2 v2 H2 E2 R2 r2 q2 => ?_
  obtain ⟨j, fs, ky, e1, hj, hy, q⟩ := q2
  subst e1
  obtain ⟨ad, vs, e2, _, h2, rf⟩ := dict_at R2 r2 hj
  refine ⟨ad, valV vs ky, e2, by rw [keyV_rep r1 hy]; exact DGet.k h2, kk c2 _ μ2 _ H2 (E1.trans E2) R2 (.bl _) ?_⟩
  rw [show ((valD fs ky).isSome != true) = !(valV vs ky).isSome from by rw [valK_some rf]; cases (valD fs ky).isSome <;> rfl] at q
  exact q
theorem q_din (hr : Room k X.A) (hi : QE X i ti di) (ho : QE X o to do_) (hm : behindInMarks .In o = false := by rfl) : QE X (.Compare i [.In] [o] pos) (tDIn ti to) (dDIn false di do_) := ⟨pe_cmp (pc_din (by have := hr.units; omega) hi.p ho.p) hm, sim_din hi.s ho.s⟩
theorem q_dnotin (hr : Room k X.A) (hi : QE X i ti di) (ho : QE X o to do_) (hm : behindInMarks .NotIn o = false := by rfl) : QE X (.Compare i [.NotIn] [o] pos) (tDNotIn ti to) (dDIn true di do_) := ⟨pe_cmp (pc_dnotin (by have := hr.units; omega) hi.p ho.p) hm, sim_dnotin hi.s ho.s⟩
theorem qt_din (hr : Room k X.A) (hi : QE X i ti di) (ho : QE X o to do_) (hm : behindInMarks .In o = false := by rfl) : QT X (.Compare i [.In] [o] pos) (tB (tDIn ti to)) (dTest (dDIn false di do_)) := ⟨pt_cmp (pc_din (by have := hr.units; omega) hi.p ho.p) hm, sim_testB (sim_din hi.s ho.s)⟩
theorem qt_dnotin (hr : Room k X.A) (hi : QE X i ti di) (ho : QE X o to do_) (hm : behindInMarks .NotIn o = false := by rfl) : QT X (.Compare i [.NotIn] [o] pos) (tB (tDNotIn ti to)) (dTest (dDIn true di do_)) := ⟨pt_cmp (pc_dnotin (by have := hr.units; omega) hi.p ho.p) hm, sim_testB (sim_dnotin hi.s ho.s)⟩
/-- o[i] = .. of a dict -/
def dgDIx (do_ di : DE) : DG := fun x ρ μ Q => do_ ρ μ fun y μ1 => di ρ μ1 fun i μ2 => ∃ (k : Nat) (fs : List (Key × Vl)) (ky : Key), y = .ref k ∧ keyV i = some ky ∧ μ2[k]? = some (.dict fs) ∧ fs.length < sizeLine ∧ Q ρ (μ2.set k (.dict (putK' fs ky x)))
theorem qg_dix (hr : Room k X.A) (ho : QE X o to do_) (hi : QE X i ti di) (ha : ∀ v, assign (.Subscript o i pos) X.env v = (do
      let ov ← holding [v] (eval o X.env)
      let iv ← holding [v, ov] (eval i X.env)
      standAt pos
      holding [v, ov, iv] (setItem ov iv v)
      release [v, ov, iv] []) := by intro _; rfl) : QG X (.Subscript o i pos) (gSub to ti rSetD) (dgDIx do_ di) := by
  refine ⟨pg_sub ho.p hi.p (set_dict (by have := hr.units; omega)) ha, fun c ρ μ σ H v x Q P R S r h k => ?_⟩
  refine ho.s c ρ μ σ H _ _ R S h fun c1 y μ1 v1 H1 E1 R1 r1 q1 => ?_
  refine hi.s c1 ρ μ1 σ H1 _ _ R1 (S.up E1.toExt0) q1 fun c2 z μ2 v2 H2 E2 R2 r2 q2 => ?_
  obtain ⟨j, fs, ky, e1, hky, hm, hz, q⟩ := q2
  subst e1
  obtain ⟨ad, vs, e3, hk, h2, rf⟩ := dict_at R2 (r1.up E2.toExt0) hm
  subst e3
  have rx := r.up (E1.trans E2).toExt0
  refine ⟨ad, _, rfl, by rw [keyV_rep r2 hky]; exact DPut.k h2 (by rw [rf.length]; exact hz), ?_⟩
  exact k c2 ρ _ σ _ (E1.trans E2) (R2.write (m := .dict (putK' fs ky x)) hk ⟨_, rfl, rf.putK rx⟩) (S.up (E1.trans E2).toExt0) q
end

/-! ### pop at a place -/
section
variable {X : Cx} {e a b o tg : Expr} {t : TA} {d : DA} {to : TE} {do_ : DE} {pos apos cpos p : Pos}
def mPopAt : DM := fun x xs μ Q => ∃ (k : Nat) (ys : List Vl) (i : Nat) (y : Vl), x = .ref k ∧ xs = [.int (i : Int)] ∧ μ[k]? = some (.lst ys) ∧ i < 2 ^ 62 ∧ ys[i]? = some y ∧ Q y (μ.set k (.lst (ys.eraseIdx i)))
theorem Reps.eraseIdx {K : PySem.W.Frag} {c : Cf} : ∀ {xs : List Vl} {vs : List V} (i : Nat), Reps K c vs xs → Reps K c (vs.eraseIdx i) (xs.eraseIdx i)
  | [], _, i, r => by cases r; exact .nil
  | x :: xs, _, 0, r => by
    cases r with
    | cons r1 r2 => exact r2
  | x :: xs, _, i + 1, r => by
    cases r with
    | cons r1 r2 => exact .cons r1 (Reps.eraseIdx i r2)
theorem sim_popAt {K : PySem.W.Frag} : SimM K rPopAt mPopAt := by
  intro c μ H v x vs xs Q P R rx rs h k
  obtain ⟨j, ys, i, y, e1, e2, hm, hi, hy, q⟩ := h
  subst e1; subst e2
  obtain ⟨a, e3, hk, ws, e4, hz4, r4⟩ := ref_at R rx hm
  obtain ⟨u, e5, ru⟩ := reps1 rs
  subst e3; subst e5
  cases ru
  obtain ⟨w, hw, rw'⟩ := r4.get hy
  have hl : i < ws.length := (List.getElem?_eq_some_iff.mp hw).1
  refine ⟨a, ws, (i : Int), i, w, rfl, rfl, e4, by omega, by omega, ?_, hw, ?_⟩
  · have hn : ¬ ((i : Int) < 0) := by omega
    simp [seqIndex?, hn, hl]
  refine k c _ _ _ _ (Ext.refl c) (R.write (m := .lst (ys.eraseIdx i)) hk ⟨_, rfl, ?_, Reps.eraseIdx i r4⟩) rw' q
  exact Nat.le_trans (List.length_eraseIdx_le _ _) hz4
theorem ty_list_pop : typeOf (.builtin "list.pop") = pure (.type "method_descriptor") := by kernel_rfl
theorem q_popAt (ho : QE X o to do_) (ha : QA X [e] t d) (hbase : attributeBase o "pop" X.env (eval o X.env) = eval o X.env := by rfl)
    (hfew : ((backTo cpos (starEach [e] X.env)).all (fun x => !x.1) && (backToKw cpos (keywordEach [] X.env)).all (fun x => x.1.isSome) && decide ([e].length + ([] : List Keyword).length + (if ([] : List Keyword).isEmpty then 0 else 1) < 30)) = true := by rfl)
    (hline : (apos.endLine == cpos.line) = true := by rfl) (hs : starEach [e] X.env = (false, eval e X.env) :: starEach [] X.env := by rfl) (hpl : (backTo cpos (starEach [] X.env)).any (·.1) = false := by rfl) : QE X (.Call (.Attribute o "pop" apos) [e] [] cpos) (tBM X.K "list" rPopAt to t) (dBM mPopAt do_ d) :=
  ⟨pe_bm PySem.F.plainAttrs_list PySem.F.slot_list_pop ty_list_pop mt_popAt ho.p ha.p hbase hfew hline hs hpl, sim_bm sim_popAt ho.s ha.s⟩

/-! ### range(i, j, -1) -/
def downD (lo : Int) (n : Nat) : List Vl := (List.range n).map fun (i : Nat) => Vl.int (lo + (i : Int) * -1)
theorem downD_len {lo : Int} {n : Nat} : (downD lo n).length = n := by simp [downD]
theorem walkD_down {K : PySem.W.Frag} {c : Cf} {lo : Int} {n : Nat} : WalkD K c (Itc lo (-1) n) (downD lo n) fun _ => True := by
  refine ⟨fun _ => True, YFn fun i => .int (lo + (i : Nat) * (-1)), ?_, fun _ _ _ _ _ _ => trivial, fun i H2 v H3 c2 μ2 hi E R2 _ y => ?_⟩
  · rw [downD_len]; exact walk_rangeC
  · rw [downD_len] at hi
    obtain ⟨e, y⟩ := y
    subst e; subst y
    exact ⟨c2, _, Ext.refl c2, R2, by simp [downD, hi], .int _⟩
def dRangeDown (d : DA) : DI := fun ρ μ Q => d ρ μ fun xs μ1 => ∃ i j : Int, xs = [.int i, .int j, .int (-1)] ∧ (-(2 ^ 62) ≤ i ∧ i < 2 ^ 62 ∧ -(2 ^ 62) ≤ j ∧ j < 2 ^ 62) ∧ i - j ≤ 16777216 ∧ Q (downD i (i - j).toNat) (fun _ => True) μ1
theorem qi_rangeDown {c : Expr} (hm : X.mg "range" = none) (ha : QA X [a, b, c] t d) (hg : Gl X "range" := by rfl) (hs : starEach [a, b, c] X.env = (false, eval a X.env) :: starEach [b, c] X.env := by rfl) (hpl : (backTo pos (starEach [b, c] X.env)).any (·.1) = false := by rfl) :
    QI X tg (.Call (.Name "range" p) [a, b, c] [] pos) (iRng3 t) (dRangeDown d) := by
  refine ⟨pi_range3 hg hm ha.p hs hpl, fun c ρ μ σ H Q P R S h k => ?_⟩
  refine ha.s c ρ μ σ H _ _ R S h fun c1 xs μ1 vs H1 E1 R1 r1 q1 => ?_
  obtain ⟨i, j, e, ⟨b1, b2, b3, b4⟩, h2, q⟩ := q1
  subst e
  cases r1 with
  | cons r1 r2 =>
    cases r2 with
    | cons r2 r3 =>
      obtain ⟨v, e, rv⟩ := reps1 r3
      subst e
      cases rv; cases r2; cases r1
      exact ⟨i, j, -1, _, rfl, RgC.neg b1 b2 b3 b4, k c1 _ _ μ1 _ H1 E1 R1 (by rw [downD_len, sizeLine_eq]; omega) walkD_down q⟩

/-! ### gcd, imported from math -/
def fGcd : DC := fun xs μ Q => match xs with
  | [.int a, .int b] => Q (.int ((Nat.gcd a.natAbs b.natAbs : Nat) : Int)) μ
  | _ => False
theorem sim_gcd {K : PySem.W.Frag} : SimC K rGcd fGcd := by
  intro c μ H vs xs Q P R r h k
  unfold fGcd at h
  split at h
  · cases r with
    | cons r1 r2 =>
      obtain ⟨v, e, rv⟩ := reps1 r2
      subst e
      cases rv; cases r1
      exact ⟨_, _, rfl, k c _ μ _ H (Ext.refl c) R (.int _) h⟩
  · exact h.elim
theorem q_gcd {x : Str} {es : List Expr} (hm : X.mg x = some (.builtin "math.gcd")) (ha : QA X (e :: es) t d) (hg : Gl X x := by rfl) (hdb : (x == ("__debug__" : Str)) = false := by decide)
    (he : starEach (e :: es) X.env = (false, eval e X.env) :: starEach es X.env := by rfl) (hpl : (backTo pos (starEach es X.env)).any (·.1) = false := by rfl) : QE X (.Call (.Name x p) (e :: es) [] pos) (tCB rGcd t) (dCB fGcd d) := by
  refine ⟨pe_callBfun cr_gcd hg hm ha.p hdb he hpl, fun c ρ μ σ H Q P R S h k => ?_⟩
  refine ha.s c ρ μ σ H _ _ R S h fun c1 xs μ1 vs H1 E1 R1 r1 q1 => ?_
  exact sim_gcd c1 μ1 H1 vs xs Q P R1 r1 q1 fun c2 z μ2 v H2 E2 => k c2 z μ2 v H2 (E1.trans E2)
end
end DL

/-! DLk: set(xs) of a list of ints, kept as a set that may be sorted. -/
namespace L2
open PySem PySem.Spec PyProof.Rows
section
variable {P : Program} {w : World} {A : Around} {E : Value → Shared → Prop} {s : Shared}
/-- a set without members -/
abbrev bareS (w : World) : Obj := { cls := .type "set", dict := none, data := .set #[] 0 (.fresh 0 0 (!w.params.followText "set-order")) }
/-- what is there behind set(xs) -/
abbrev Filled (w : World) (s : Shared) (ns : List Int) (h' : Heap) (c : Nat) : Prop := SetR w h' s.heap.objs.size (fun j => decide (j ∈ ns)) c ∧ c ≤ ns.length ∧ ∀ b o, s.heap.get? b = some o → h'.get? b = some o
theorem old_two {s : Shared} {w : World} {b : Addr} (hb : b < s.heap.objs.size) : b ≠ s.heap.objs.size ∧ b ≠ (s.heap.push (bareS w)).objs.size := by
  exact ⟨Nat.ne_of_lt hb, by rw [Heap.size_push]; exact Nat.ne_of_lt (Nat.lt_succ_of_lt hb)⟩
set_option maxHeartbeats 3200000 in
theorem set_of_list {l : Addr} {items : Array Value} {ns : List Int} {Q : Value → Shared → Prop} (hh : A.handled = none) (hl : s.heap.IsList l items) (hit : IntsAre items.toList ns) (hb : ns.length + 1 < scanBound)
    (h : ∀ (h' : Heap) (tk c : Nat), Filled w s ns h' c → Q (.ref s.heap.objs.size) { s with heap := h', toks := tk }) : wpAny (model P w) A (call (.type "set") [.ref l]) Q E s := by
  have hsz : items.size = ns.length := by
    have := hit.length
    simpa using this
  have ⟨_, _, hmro⟩ := F.called_set.mro
  have hmade := F.called_set.made
  have hsub := F.called_set.sub
  have k1 := F.called_set.notType
  have k2 := F.called_set.canCreate
  have k3 := F.typeCall_set_1 (.ref l)
  refine wpAny_call (codeAny_of_tree ?_)
  show wpAny _ _ (callAny (.type "set") _) _ _ _
  refine wpAny_pure ⟨Code.quiet_builtin _ (by decide +kernel), codeAny_builtin F.entry_type_call ?_⟩
  rw [Around.under_plain (weight_type_call_type "set" [.ref l] []) rfl]
  repeat (any_goals (first | assumption | wp_step))
  refine codeAny_mono (code_set_led1 (.ref l) (E := E) (Q₁ := fun obj s₁ => obj = .ref s.heap.objs.size ∧ s₁ = { s with heap := s.heap.push (bareS w) }) ⟨rfl, rfl⟩) fun r s₁ hr => ?_
  cases r with
  | error e => exact hr
  | ok fl =>
    cases fl with
    | ret obj =>
      obtain ⟨e1, e2⟩ := hr
      subst e1; subst e2
      have hS : (s.heap.push (bareS w)).get? s.heap.objs.size = some (bareS w) := Heap.get?_push_size _ rfl
      have hT : Shared.TypeIs { s with heap := s.heap.push (bareS w) } (.ref s.heap.objs.size) "set" := ⟨_, hS, rfl⟩
      have i1 := F.called_set.init.lookup
      have i2 := F.called_set.init.bind (.ref s.heap.objs.size)
      repeat (any_goals (first | assumption | wp_step))
      refine codeAny_mono (codeAny_call_builtin (R := wants (fun r s₂ => r = .none ∧ ∃ h' tk c, s₂ = { s with heap := h', toks := tk } ∧ Filled w s ns h' c) E) F.called_set.init.plain F.entry_set_init (check_set_init_1 hT ?_)) fun r₂ s₂ hr₂ => ?_
      · obtain ⟨⟨ocls, odict, odata, oslots⟩, hol, hcl, nl, hdl⟩ := hl
        simp only at hcl hdl
        subst hcl; subst hdl
        have hol' : (s.heap.push (bareS w)).get? l = some { cls := .type "list", dict := odict, data := .seq items nl, slots := oslots } := Heap.get?_push_of_some _ hol
        have j1 := F.sub_list_set
        have j2 := F.sub_list_frozenset
        have j3 : (Value.type "list" == Value.type "dict") = false := by decide
        have hl1 : (s.heap.push (bareS w)).IsList l items := ⟨_, hol', rfl, nl, rfl⟩
        have hlS : l < s.heap.objs.size := Heap.lt_size hol
        have ⟨n1, n2⟩ := old_two (w := w) hlS
        unfold Builtin.«set.__init__» noKeywords Builtin.Frozenset.updateFrom
        generalize hPI : pyIter = PI
        wp_walk
        subst hPI
        refine wpAny_pyIter_list hl1 ?_
        refine wpAny_bind (wpAny_runValue ?_)
        have hh3 : A.in1.in1.in1.handled = none := by simp [hh]
        have far : s.heap.objs.size ∉ [(s.heap.push (bareS w)).objs.size, l] := by
          intro hm
          rcases List.mem_cons.mp hm with z | z
          · rw [Heap.size_push] at z; omega
          · exact Nat.ne_of_gt hlS (List.mem_singleton.mp z)
        have vals : ∀ (i : Nat) (v : Value), items[i]? = some v → ∃ k t, ns[i]? = some k ∧ v = .int k t := fun i v hv => by
          have hi : i < ns.length := by rw [← hsz]; exact (Array.getElem?_eq_some_iff.mp hv).1
          obtain ⟨t, e⟩ := PyProof.Rows.IntsAre.int_at hit i v (by rw [Array.getElem?_toList]; exact hv)
          refine ⟨ns[i], t, List.getElem?_eq_getElem hi, ?_⟩
          rw [e, List.getD_eq_getElem?_getD, List.getElem?_eq_getElem hi]
          all_goals rfl
        refine set_update_ints ((Walks.list hh3 _ l n2 items).toS) s.heap.objs.size far ns hsz hb vals (items.size - 0) 0 _ (by omega) (Nat.zero_le _) ⟨⟨_, Heap.get?_push_size _ rfl, rfl, rfl⟩, (hl1.push _)⟩ ⟨0, Nat.le_refl 0, setR_new_at (Heap.get?_push_of_some _ hS)⟩ ?_
        intro s' c' hm hc' hS'
        obtain ⟨h', g2, d', tk', os'⟩ := s'
        have eg : g2 = s.gens := hm.gens
        have ed : d' = s.drawn := hm.drawn
        have eo : os' = s.os := hm.os
        subst eg; subst ed; subst eo
        show wpAny _ _ _ _ _ _
        refine wpAny_pure ?_
        show wpAny _ _ (ret Value.none) _ _ _
        rw [hsz] at hc'
        refine wpAny_pure ⟨rfl, h', tk', c', rfl, hS', hc', fun b o e => ?_⟩
        have ⟨m1, m2⟩ := old_two (w := w) (Heap.lt_size e)
        refine hm.heap b o (fun hm2 => ?_) (Heap.get?_push_of_some _ (Heap.get?_push_of_some _ e))
        rcases List.mem_cons.mp hm2 with z | z
        · exact m1 z
        · exact m2 (List.mem_singleton.mp z)
      · cases r₂ with
        | error e => exact hr₂
        | ok fl₂ =>
          cases fl₂ with
          | ret r =>
            obtain ⟨e1, h', tk, c', e2, hF⟩ := hr₂
            subst e1; subst e2
            repeat (any_goals (first | assumption | wp_step))
            exact h _ _ _ hF
          | _ => exact hr₂.elim
    | _ => exact hr.elim
end
section
variable {X : Cx}
def rSetI (K : PySem.W.Frag) (w : World) : List V → Hp → VK → Prop := fun vs H Q => ∃ (l : Addr) (ns : List Int), vs = [.ref l] ∧ SqL K H l (ns.map V.int) ∧ ns.length < 64 ∧ ∀ p c, H p = none → c ≤ ns.length → Q (.ref p) (upd H p (SetO w p (fun j => decide (j ∈ ns)) c))
theorem cr_setI (hc : X.calm = true) : CallR X (.type "set") (rSetI X.K X.w) := by
  intro pins s σ H vs us Q I r h
  obtain ⟨l, ns, e, hs, h64, q⟩ := h
  subst e
  obtain ⟨its, rv, pl, _⟩ := I.list hs
  rw [Vals.ref1 r]
  have hi := rv.ints
  refine set_of_list (ns := ns) (I.ok.hd hc) pl.isList (by simpa using hi) (by unfold scanBound; omega) fun h' tk c ⟨hS, hcn, hk⟩ => ?_
  exact ⟨.ref _, upd H s.heap.objs.size (SetO X.w s.heap.objs.size (fun j => decide (j ∈ ns)) c), I.laid (t' := tk) hk (Nat.le_refl _) (setO_new hS), rfl, q _ c (I.hok.fresh (Nat.le_refl _)) hcn⟩
end
end L2

/-! DLs: sum(xs, []) of a list of lists. -/
namespace PySem
open Sem (wp)
section
variable {prog : Program} {w : World} {A : Around} {R : Result → Shared → Prop} {I : Addr} {fp wr : List Addr} {n : Nat} {Pv : Nat → Value → Prop} {St : Nat → Heap → Prop}
/-- all from place i on, joined -/
def joinFrom (its : Nat → List Value) (i k : Nat) : List Value := ((List.range' i k).map its).flatten
theorem joinFrom_succ {its : Nat → List Value} {i k : Nat} : joinFrom its i (k + 1) = its i ++ joinFrom its (i + 1) k := by
  unfold joinFrom
  rw [List.range'_succ, List.map_cons, List.flatten_cons]
theorem lists_loop (W : Walks prog w A.in1 I fp wr n Pv St) (S : Addr) (hSf : S ∉ fp) (its : Nat → List Value) (ad : Nat → Addr) (hval : ∀ i v, Pv i v → v = .ref (ad i)) : ∀ (k i : Nat) (s : Shared) (t : Addr) (acc : List Value) (nt c : Nat), n - i = k → i ≤ n → St i s.heap →
    s.heap.get? S = some { cls := .type "list", dict := none, data := .seq #[.ref t] c, slots := #[] } → IsL s.heap t acc.toArray nt → t ∉ S :: wr →
    (∀ j, i ≤ j → j < n → ad j ∉ S :: wr ∧ ∃ m, IsL s.heap (ad j) (its j).toArray m) → acc.length + (joinFrom its i k).length ≤ sizeLine → (∀ b ∈ wr, b < s.heap.objs.size) → (∃ top o, top ∉ wr ∧ s.heap.get? top = some o ∧ s.heap.objs.size ≤ top + 1) →
    (∀ h' tk t' nt', (t' = t ∧ k = 0 ∨ s.heap.objs.size ≤ t') → IsL h' t' (acc ++ joinFrom its i k).toArray nt' → (∀ b o, b ∉ S :: wr → s.heap.get? b = some o → h'.get? b = some o) → R (.ok (.ret (.ref t'))) { s with heap := h', toks := tk }) →
    codeAny (model prog w) A (.builtin "sum.loop" ⟨[.ref I, .ref S, rawInt 2, rawInt 0], []⟩) R s := by
  have hSw : S ∉ wr := fun h => hSf (W.sub _ h)
  intro k
  induction k with
  | zero =>
    intro i s t acc nt c hk hi hst hS ht htn hl hsz hwr htop hR
    have hin : i = n := by omega
    subst hin
    refine codeAny_builtin F.entry_sum_loop ?_
    rw [Around.under_plainId F.plain_sum_loop _]
    show wpAny _ A.in1 (seqItems? (.ref S) >>= _) _ _ s
    refine wpAny_bind (wpAny_seqItems hS rfl ?_)
    show wpAny _ A.in1 (tryCatch (pyNext (.ref I)) _ >>= _) _ _ s
    refine wpAny_bind (wpAny_tryCatch (W.done s _ _ hst fun h' tk hk' => ?_))
    refine wpAny_pure (hR h' tk t nt (.inl ⟨rfl, rfl⟩) ?_ fun b o hb e => hk' b o (fun z => hb (List.mem_cons_of_mem _ z)) e)
    have e : acc ++ joinFrom its i 0 = acc := by simp [joinFrom]
    rw [e]
    exact hk' t _ (fun z => htn (List.mem_cons_of_mem _ z)) ht
  | succ k ih =>
    intro i s t acc nt c hk hi hst hS ht htn hl hsz hwr htop hR
    have hlt : i < n := by omega
    obtain ⟨hai, m, hm⟩ := hl i (Nat.le_refl i) hlt
    rw [joinFrom_succ, List.length_append] at hsz
    refine codeAny_builtin F.entry_sum_loop ?_
    rw [Around.under_plainId F.plain_sum_loop _]
    show wpAny _ A.in1 (seqItems? (.ref S) >>= _) _ _ s
    refine wpAny_bind (wpAny_seqItems hS rfl ?_)
    show wpAny _ A.in1 (tryCatch (pyNext (.ref I)) _ >>= _) _ _ s
    refine wpAny_bind (wpAny_tryCatch (W.item i s _ _ hlt hst fun v h' tk hP hst' hk' => ?_))
    have ev := hval i v hP
    subst ev
    have hS' := hk' S _ hSw hS
    have ht' : IsL h' t acc.toArray nt := hk' t _ (fun z => htn (List.mem_cons_of_mem _ z)) ht
    have hm' : IsL h' (ad i) (its i).toArray m := hk' _ _ (fun z => hai (List.mem_cons_of_mem _ z)) hm
    have hsz' : s.heap.objs.size ≤ h'.objs.size ∨ True := .inr trivial
    show wpAny _ A.in1 ((holding [Value.ref (ad i)] (binaryOp .Add (.ref t) (.ref (ad i)))).attempt >>= _) _ _ _
    refine wpAny_bind (wpAny_attempt (wpAny_holding (PySem.P.add_list ht' hm' ?_ (by rw [List.size_toArray, List.size_toArray]; omega))))
    show wpAny _ A.in1 (updateSeq S (fun _ => #[.ref h'.objs.size]) >>= _) _ _ _
    refine wpAny_bind ?_
    have hSp : (h'.push { cls := .type "list", data := .seq (acc.toArray ++ (its i).toArray) }).get? S = some { cls := .type "list", dict := none, data := .seq #[.ref t] c, slots := #[] } := Heap.get?_push_of_some _ hS'
    refine wpAny_updateSeq hSp rfl ?_
    have hS2 := Heap.get?_update_self (Obj.mapSeq fun _ => #[Value.ref h'.objs.size]) hSp rfl
    refine wpAny_bind (wpAny_letGo ?_)
    refine wpAny_bind ?_
    refine wpAny_updateSeq hS2 rfl (wpAny_pure ⟨plainId_quiet F.plain_sum_loop _, ?_⟩)
    obtain ⟨top, oT, hT1, hT2, hT3⟩ := htop
    have hgr : s.heap.objs.size ≤ h'.objs.size := by
      exact Nat.le_trans hT3 (Nat.succ_le_of_lt (Heap.lt_size (hk' top oT hT1 hT2)))
    have hSl : S < h'.objs.size := Heap.lt_size hS'
    have hne : S ≠ h'.objs.size := Nat.ne_of_lt hSl
    have hfar : ∀ (f g : Obj → Obj) b o, b ≠ S → h'.get? b = some o → (((h'.push { cls := .type "list", data := .seq (acc.toArray ++ (its i).toArray) }).update S f).update S g).get? b = some o := fun f g b o hb e =>
      (Heap.get?_update_other _ _ (Ne.symm hb)).trans ((Heap.get?_update_other _ _ (Ne.symm hb)).trans (Heap.get?_push_of_some _ e))
    have hsize : ∀ (f g : Obj → Obj), (((h'.push { cls := .type "list", data := .seq (acc.toArray ++ (its i).toArray) }).update S f).update S g).objs.size = h'.objs.size + 1 := fun f g => by
      rw [Heap.size_after_update, Heap.size_after_update, Heap.size_push]
    have hnew : ∀ (f g : Obj → Obj), IsL (((h'.push { cls := .type "list", data := .seq (acc.toArray ++ (its i).toArray) }).update S f).update S g) h'.objs.size (acc ++ its i).toArray 0 := fun f g => by
      have := ((IsL.new h' (acc.toArray ++ (its i).toArray)).update_other hne f).update_other hne g
      simpa using this
    have hnw : h'.objs.size ∉ S :: wr := fun z => by
      rcases List.mem_cons.mp z with z | z
      · exact hne z.symm
      · exact Nat.lt_irrefl _ (Nat.lt_of_lt_of_le (hwr _ z) hgr)
    refine ih (i + 1) _ h'.objs.size (acc ++ its i) 0 _ (by omega) hlt (W.frame _ _ _ hst' fun b hb o e => hfar _ _ b o (fun z => hSf (by rw [← z]; exact hb)) e) (Heap.get?_update_self _ hS2 rfl) (hnew _ _) hnw
      (fun j hj hjn => ⟨(hl j (by omega) hjn).1, ?_⟩) (by rw [List.length_append]; omega) (fun b hb => ?_) ⟨h'.objs.size, _, fun z => hnw (List.mem_cons_of_mem _ z), hnew _ _, by rw [hsize]; exact Nat.le_refl _⟩ fun h'' tk'' t'' nt'' ht'' hI'' hk'' => ?_
    · obtain ⟨hn1, m', hm1⟩ := hl j (by omega) hjn
      exact ⟨m', hfar _ _ _ _ (fun z => hn1 (by rw [z]; exact List.mem_cons_self)) (hk' _ _ (fun z => hn1 (List.mem_cons_of_mem _ z)) hm1)⟩
    · rw [hsize]
      exact Nat.lt_of_lt_of_le (hwr b hb) (Nat.le_succ_of_le hgr)
    · refine hR h'' tk'' t'' nt'' (.inr ?_) ?_ fun b o hb e => hk'' b o hb (hfar _ _ b o (fun z => hb (by rw [z]; exact List.mem_cons_self)) (hk' b o (fun z => hb (List.mem_cons_of_mem _ z)) e))
      · rcases ht'' with ⟨z, _⟩ | z
        · rw [z]; exact hgr
        · rw [hsize] at z
          exact Nat.le_trans hgr (Nat.le_trans (Nat.le_succ _) z)
      · rw [joinFrom_succ, ← List.append_assoc]
        exact hI''
end
section
variable {prog : Program} {w : World} {A : Around} {E : Value → Shared → Prop} {s : Shared}
theorem args_sum2 (a b : Value) : argsOk "sum" ⟨[a, b], []⟩ := by unfold argsOk; kernel_rfl
theorem sum_of_lists {x t0 : Addr} {items : Array Value} {nt : Nat} {Q : Value → Shared → Prop} (hh : A.handled = none) (hx : s.heap.IsList x items) (ht : IsL s.heap t0 #[] nt) (its : Nat → List Value) (ad : Nat → Addr)
    (hit : ∀ j, j < items.size → items[j]? = some (.ref (ad j)) ∧ ∃ m, IsL s.heap (ad j) (its j).toArray m) (hsz : (joinFrom its 0 items.size).length ≤ sizeLine)
    (h : ∀ h' tk t' nt', (t' = t0 ∧ items.size = 0 ∨ s.heap.objs.size ≤ t') → IsL h' t' (joinFrom its 0 items.size).toArray nt' → (∀ b o, s.heap.get? b = some o → h'.get? b = some o) → Q (.ref t') { s with heap := h', toks := tk }) :
    wpAny (model prog w) A (call (.builtin "sum") [.ref x, .ref t0]) Q E s := by
  refine call_function_tree F.kind_sum F.plain_sum F.entry_sum (args_sum2 _ _) ?_
  unfold Builtin.«sum»
  simp only [List.length_cons, List.length_nil]
  rw [if_neg (by decide)]
  refine wpAny_bind (wpAny_of_eq (show Builtin.Builtins.bindParams "sum" ["start"] 0 ⟨[.ref t0], []⟩ = pure [some (.ref t0)] from rfl) ?_)
  refine wpAny_bind (wpAny_pyIter_list hx ?_)
  have hxl : x < s.heap.objs.size := by
    obtain ⟨o, ho, _⟩ := hx
    exact Heap.lt_size ho
  refine wpAny_bind (wpAny_pure ?_)
  simp only [List.forIn_cons, List.forIn_nil]
  refine wpAny_bind (wpAny_bind (wpAny_bind (wpAny_isInstance (T := "list") (b := false) ⟨_, Heap.get?_push_of_some _ ht, rfl⟩ F.sub_list_str ?_)))
  simp only [Bool.false_eq_true, if_false]
  refine wpAny_pure (wpAny_bind (wpAny_bind (wpAny_isInstance (T := "list") (b := false) ⟨_, Heap.get?_push_of_some _ ht, rfl⟩ F.sub_list_bytes ?_)))
  simp only [Bool.false_eq_true, if_false]
  refine wpAny_pure (wpAny_bind (wpAny_bind (wpAny_isInstance (T := "list") (b := false) ⟨_, Heap.get?_push_of_some _ ht, rfl⟩ F.sub_list_bytearray ?_)))
  simp only [Bool.false_eq_true, if_false]
  refine wpAny_pure (wpAny_pure ?_)
  refine wpAny_bind (wpAny_newObj_type ?_)
  have hne : x ≠ s.heap.objs.size := Nat.ne_of_lt hxl
  have W := Walks.list (prog := prog) (w := w) (A := A.in1) (by simp [hh]) s.heap.objs.size x hne items
  have hst : (s.heap.push { cls := .type "list_iterator", data := .fields #[.ref x, .int 0 0] }).IsListIter s.heap.objs.size x 0 ∧ (s.heap.push { cls := .type "list_iterator", data := .fields #[.ref x, .int 0 0] }).IsList x items := ⟨⟨_, Heap.get?_push_size _ rfl, rfl, rfl⟩, hx.push _⟩
  have two : ∀ (h0 : Heap) (o : Obj), (h0.push o).objs.size = h0.objs.size + 1 := fun h0 o => Heap.size_push h0 o
  have hSf : (s.heap.push { cls := .type "list_iterator", data := .fields #[.ref x, .int 0 0] }).objs.size ∉ [s.heap.objs.size, x] := by
    intro hm
    rw [two] at hm
    rcases List.mem_cons.mp hm with z | z
    · exact Nat.succ_ne_self _ z
    · have z2 := List.mem_singleton.mp z
      exact Nat.lt_irrefl _ (Nat.lt_trans (Nat.lt_succ_self _) (z2.symm ▸ hxl))
  have old : ∀ b o, s.heap.get? b = some o → b ∉ (s.heap.push { cls := .type "list_iterator", data := .fields #[.ref x, .int 0 0] }).objs.size :: [s.heap.objs.size] := fun b o e hm => by
    have hb := Heap.lt_size e
    rw [two] at hm
    rcases List.mem_cons.mp hm with z | z
    · exact Nat.lt_irrefl _ (Nat.lt_trans (Nat.lt_succ_self _) (z ▸ hb))
    · have z2 := List.mem_singleton.mp z
      exact Nat.lt_irrefl _ (z2 ▸ hb)
  have up : ∀ (o1 o2 : Obj) b o, s.heap.get? b = some o → ((s.heap.push o1).push o2).get? b = some o := fun o1 o2 b o e => Heap.get?_push_of_some _ (Heap.get?_push_of_some _ e)
  refine wpAny_pure ⟨plainId_quiet F.plain_sum_loop _, lists_loop W _ hSf its ad (fun i v hv => ?_) items.size 0 _ t0 [] nt 0 (by omega) (Nat.zero_le _) (W.frame _ _ _ hst fun b _ o e => Heap.get?_push_of_some _ e) (Heap.get?_push_size _ rfl) (up _ _ _ _ ht) (old _ _ ht)
    (fun j _ hj => ?_) (by simpa using hsz) (fun b hb => ?_) ⟨(s.heap.push { cls := .type "list_iterator", data := .fields #[.ref x, .int 0 0] }).objs.size, _, fun hm => hSf (W.sub _ hm), Heap.get?_push_size _ rfl, ?_⟩ fun h' tk t' nt' h1 h2 h3 => ?_⟩
  · have hi : i < items.size := (Array.getElem?_eq_some_iff.mp hv).1
    have := (hit i hi).1
    rw [hv] at this
    exact Option.some.inj this
  · obtain ⟨m, hm⟩ := (hit j hj).2
    exact ⟨old _ _ hm, m, up _ _ _ _ hm⟩
  · rw [List.mem_singleton.mp hb]
    rw [two, two]
    exact Nat.lt_trans (Nat.lt_succ_self _) (Nat.lt_succ_self _)
  · rw [two]
    exact Nat.le_refl _
  · refine h h' tk t' nt' ?_ (by simpa using h2) fun b o e => h3 b o (old b o e) (up _ _ b o e)
    rcases h1 with ⟨z1, z2⟩ | z
    · exact .inl ⟨z1, z2⟩
    · refine .inr ?_
      rw [two, two] at z
      exact Nat.le_trans (Nat.le_trans (Nat.le_succ _) (Nat.le_succ _)) z
end
end PySem

/-! DLt: sum(lists, []) as a rule. -/
namespace DL
open PySem PySem.Spec L2 StX PyProof.Rows
section
variable {X : Cx} {t : TA} {d : DA} {pos : Pos}
def rSumLL (K : PySem.W.Frag) : List V → Hp → VK → Prop := fun vs H Q => ∃ (l e0 : Addr) (ad : List Addr) (zs : List (List V)), vs = [.ref l, .ref e0] ∧ SqL K H l (ad.map .ref) ∧ H e0 = some (.lst []) ∧ ad.length = zs.length ∧
  (∀ (j : Nat) a z, ad[j]? = some a → zs[j]? = some z → H a = some (.lst z)) ∧ zs.flatten.length ≤ sizeLine ∧ (ad = [] → Q (.ref e0) H) ∧ ∀ p, H p = none → Q (.ref p) (upd H p (.lst zs.flatten))
theorem vals_join : ∀ (zs : List (List V)) (its : Nat → List Value) (i : Nat), (∀ (j : Nat) z, zs[j]? = some z → Vals z (its (i + j))) → Vals zs.flatten (PySem.joinFrom its i zs.length)
  | [], its, i, h => .nil
  | z :: zs, its, i, h => by
    rw [List.length_cons, PySem.joinFrom_succ, List.flatten_cons]
    refine Vals.append (h 0 z rfl) (vals_join zs its (i + 1) fun j w e => ?_)
    have := h (j + 1) w (by simpa using e)
    rwa [show i + 1 + j = i + (j + 1) by omega]
theorem cr_sumLL (hc : X.calm = true) : CallR X (.builtin "sum") (rSumLL X.K) := by
  intro pins s σ H vs us Q I r h
  obtain ⟨l, e0, ad, zs, rfl, hs, he0, hlen, hin, hsz, q0, q⟩ := h
  obtain ⟨items, rv, pl, _⟩ := I.list hs
  cases r with
  | cons r1 t1 =>
    have := Vals.ref1 t1
    subst this
    cases r1
    obtain ⟨z0, i0, n0, r0, _, e1⟩ := I.lstM he0
    have hi0 := r0.zero
    subst hi0
    have hil : items.length = zs.length := by rw [← rv.length, List.length_map, hlen]
    have ex : ∀ j : Nat, ∃ its : List Value, ∀ (a : Addr) (z : List V), ad[j]? = some a → zs[j]? = some z → Vals z its ∧ ∃ m, IsL s.heap a its.toArray m := fun j => by
      cases ea : ad[j]? with
      | none => exact ⟨[], fun a z e => by cases e⟩
      | some a =>
        cases ez : zs[j]? with
        | none => exact ⟨[], fun a z _ e => by cases e⟩
        | some z =>
          obtain ⟨_, its, n, r, _, e⟩ := I.lstM (hin j a z ea ez)
          exact ⟨its, fun a' z' e1 e2 => by cases e1; cases e2; exact ⟨r, n, e⟩⟩
    let its : Nat → List Value := fun j => Classical.choose (ex j)
    have hits : ∀ (j : Nat) (a : Addr) (z : List V), ad[j]? = some a → zs[j]? = some z → Vals z (its j) ∧ ∃ m, IsL s.heap a (its j).toArray m := fun j => Classical.choose_spec (ex j)
    have hv := vals_join zs its 0 fun j z e => by
      have hj : j < zs.length := (List.getElem?_eq_some_iff.mp e).1
      have := (hits j (ad[j]'(by omega)) z (List.getElem?_eq_getElem _) e).1
      rwa [Nat.zero_add]
    have hvl : (PySem.joinFrom its 0 zs.length).length = zs.flatten.length := hv.length.symm
    refine sum_of_lists (I.ok.hd hc) pl.isList e1 its (fun j => ad.getD j 0) (fun j hj => ?_) (by rw [List.size_toArray, hil, hvl]; exact hsz) fun h' tk t' nt' h1 h2 h3 => ?_
    · rw [List.size_toArray] at hj
      have hj2 : j < ad.length := by omega
      have hj3 : j < zs.length := by omega
      have e2 : ad[j]? = some ad[j] := List.getElem?_eq_getElem hj2
      refine ⟨?_, ?_⟩
      · obtain ⟨u, hu, ru⟩ := rv.get (i := j) (x := V.ref ad[j]) (by rw [List.getElem?_map, e2]; rfl)
        cases ru
        rw [List.getElem?_toArray, hu, List.getD_eq_getElem?_getD, e2]
        rfl
      · rw [List.getD_eq_getElem?_getD, e2]
        exact (hits j _ _ e2 (List.getElem?_eq_getElem hj3)).2
    · rw [List.size_toArray, hil] at h1 h2
      rcases h1 with ⟨z1, z2⟩ | z
      · subst z1
        have ead : ad = [] := List.length_eq_zero_iff.mp (by omega)
        exact ⟨.ref _, H, I.kept h3, rfl, q0 ead⟩
      · exact ⟨.ref _, upd H t' (.lst zs.flatten), I.laid (t' := tk) h3 z ⟨hsz, _, _, hv, h2⟩, rfl, q t' (I.hok.fresh z)⟩
end
end DL

/-! DLu: sum(lists, []) read. -/
namespace DL
open PySem PySem.Spec L2 StX PyProof.Rows
section
variable {X : Cx} {t : TA} {d : DA} {pos : Pos}
def fSumL : DC := fun xs μ Q => ∃ (x : Vl) (zs : List (List Int)), xs = [x, .lst []] ∧ lview μ x = some (zs.map fun z => .lst (z.map .int)) ∧ zs.flatten.length ≤ sizeLine ∧ Q (.lst (zs.flatten.map .int)) μ
theorem reps_lsts {K : PySem.W.Frag} {c : Cf} : ∀ (zs : List (List Int)) (ws : List V), Reps K c ws (zs.map fun z => Vl.lst (z.map .int)) →
    ∃ ad : List Addr, ws = ad.map V.ref ∧ ad.length = (zs.map fun z => z.map V.int).length ∧ ∀ (j : Nat) a z, ad[j]? = some a → (zs.map fun z => z.map V.int)[j]? = some z → c.Hd a = some (.lst z)
  | [], ws, r => by
    cases r
    exact ⟨[], rfl, rfl, fun j a z e => by simp at e⟩
  | z :: zs, ws, r => by
    cases r with
    | cons r1 r2 =>
      obtain ⟨ad, e1, e2, e3⟩ := reps_lsts zs _ r2
      subst e1
      cases r1 with
      | lst h1 hz h2 =>
        rename_i a vs
        have ev := h2.ints_of
        subst ev
        refine ⟨a :: ad, rfl, by simp only [List.length_cons, List.map_cons, e2], fun j b w f1 f2 => ?_⟩
        cases j with
        | zero =>
          cases f1
          cases f2
          exact h1
        | succ j => exact e3 j b w (by simpa using f1) (by simpa using f2)
theorem join_ints (zs : List (List Int)) : (zs.map fun z => z.map V.int).flatten = zs.flatten.map V.int := by rw [List.map_flatten]
theorem sim_sumLL {K : PySem.W.Frag} : SimC K (rSumLL K) fSumL := by
  intro c μ H vs xs Q P R r h k
  obtain ⟨x, zs, e, hx, hsz, q⟩ := h
  subst e
  cases r with
  | cons r1 r2 =>
    cases r2 with
    | cons r3 r4 =>
      cases r4
      obtain ⟨a, ws, e1, hq, hz, r5⟩ := lview_at R r1 hx
      subst e1
      obtain ⟨ad, e2, e3, e4⟩ := reps_lsts zs ws r5
      subst e2
      cases r3 with
      | lst h1 _ h2 =>
        rename_i e0 vs0
        cases h2
        refine ⟨a, _, ad, _, rfl, hq, R.sub _ _ h1, e3, fun j b z f1 f2 => R.sub _ _ (e4 j b z f1 f2), by rw [join_ints, List.length_map]; exact hsz, fun had => ?_, ?_⟩
        · have hzs : zs = [] := by
            subst had
            exact List.length_eq_zero_iff.mp (by simpa using e3.symm)
          subst hzs
          exact k c _ μ _ H (Ext.refl c) R (.lst h1 (Nat.zero_le _) .nil) q
        · rw [join_ints]
          exact sim_newL R (Reps.ints _) (by rw [List.length_map]; exact hsz) (.inl q) k
theorem q_sumL {e e2 : Expr} {p : Pos} (hcm : X.calm = true) (h1 : X.mg "sum" = none) (ha : QA X [e, e2] t d) (g1 : Gl X "sum" := by rfl) (he : starEach [e, e2] X.env = (false, eval e X.env) :: starEach [e2] X.env := by rfl)
    (hpl : (backTo pos (starEach [e2] X.env)).any (·.1) = false := by rfl) :
    QE X (.Call (.Name "sum" p) [e, e2] [] pos) (tCB (rSumLL X.K) t) (dCB fSumL d) :=
  q_callB (cr_sumLL hcm) sim_sumLL h1 (by decide +kernel) ha g1 (by decide) (by decide) he hpl
end
end DL

/-! DLj: floor division by great numbers; sorted(set(ints)). -/
namespace DL
open PySem PySem.Spec L2 StX PyProof.Rows
section
variable {X : Cx} {a b : Expr} {ta tb : TE} {da db : DE} {pos : Pos} {k : Nat}
theorem op_fdivB (hk : 32 ≤ k) (am : AmbX X.prog X.A X.base) (hr : Room k X.A) : OpR X (binaryOp .FloorDiv) (rI (fun _ j => j ≠ 0) fun i j => .int (i.fdiv j)) := by
  intro pins s σ H x y v u Q I rx ry h
  obtain ⟨i, j, e1, e2, hc, q⟩ := h
  subst e1; subst e2
  obtain ⟨t, rfl⟩ := rx
  obtain ⟨t', rfl⟩ := ry
  obtain ⟨env, l, hfr, hgen, hco, hbn, hgl⟩ := am.frames
  refine floordiv_int hc ⟨.int _, H, I.tok _, ⟨_, rfl⟩, q⟩ (.inr (PylongRoom.of I.nolimit ?_ (SeerAt.of (am.seer.keeps I.bk) am.tree hfr hgen hco hbn hgl)))
  have := hr.dp
  show X.A.depth + 100 < _
  omega
abbrev dFdivB : D2 := dI (fun _ j => j ≠ 0) fun i j => .int (i.fdiv j)
theorem q_fdivB (am : AmbX X.prog X.A X.base) (hr : Room k X.A) (ha : QE X a ta da) (hb : QE X b tb db) (hk : 32 ≤ k := by decide) : QE X (.BinOp a .FloorDiv b pos) (tOp (rI (fun _ j => j ≠ 0) fun i j => .int (i.fdiv j)) ta tb) (dOp dFdivB da db) :=
  q_op (op_fdivB hk am hr) (sim_I fun _ _ _ => .int _) ha hb
/-! sorted(set(xs)) of ints -/
def fSortedSet : DC := fun xs μ Q => ∃ (x : Vl) (ns : List Int), xs = [x] ∧ lview μ x = some (ns.map Vl.int) ∧ ns.length < 64 ∧ ∀ out : List Int, out.Pairwise (· < ·) → (∀ k, k ∈ out ↔ k ∈ ns) → newL (out.map .int) μ Q
theorem q_sortedSet {e : Expr} {t : TA} {d : DA} {p p2 pos2 : Pos} (hcm : X.calm = true) (h1 : X.mg "sorted" = none) (h2 : X.mg "set" = none) (ha : QA X [e] t d) (g1 : Gl X "sorted" := by rfl) (g2 : Gl X "set" := by rfl) (he : starEach [e] X.env = (false, eval e X.env) :: starEach [] X.env := by rfl)
    (he2 : starEach [.Call (.Name "set" p2) [e] [] pos2] X.env = (false, eval (.Call (.Name "set" p2) [e] [] pos2) X.env) :: starEach [] X.env := by rfl) :
    QE X (.Call (.Name "sorted" p) [.Call (.Name "set" p2) [e] [] pos2] [] pos) (tCB (rSortedSet X.w) (tCons (tCB (rSetI X.K X.w) t) tNil)) (dCB fSortedSet d) := by
  refine ⟨pe_callB (cr_sortedSet hcm) g1 h1 (by decide +kernel) (pa_cons (pe_callTy (cr_setI hcm) g2 h2 (by decide +kernel) ha.p (by decide) (by decide) he rfl) pa_nil he2) (by decide) (by decide) he2 rfl, fun c ρ μ σ H Q P R S h k => ?_⟩
  refine ha.s c ρ μ σ H _ _ R S h fun c1 xs μ1 vs H1 E1 R1 r1 q1 => ?_
  obtain ⟨x, ns, ex, hx, h64, q⟩ := q1
  subst ex
  obtain ⟨v, e, rv⟩ := reps1 r1
  subst e
  obtain ⟨a, ws, e1, hq, hz, r2⟩ := lview_at R1 rv hx
  subst e1
  rw [r2.ints_of] at hq
  refine ⟨a, ns, rfl, hq, h64, fun p c2 hp hc2 => ?_⟩
  have R2 := R1.junk (o := SetO X.w p (fun j => decide (j ∈ ns)) c2) hp
  refine ⟨p, _, c2, rfl, upd_same, by omega, fun out p2 h1 h2 h3 hp2 => ?_⟩
  exact sim_newL (K := X.K) (c := c1) (μ := μ1) R2 (zs := out.map Vl.int) (vs := out.map V.int) (Reps.ints out) (by rw [List.length_map, sizeLine_eq]; omega) (q out h1 fun k => by rw [h2 k]; simp) (fun c3 z μ3 w H3 E3 => k c3 z μ3 w H3 (E1.trans E3)) p2 hp2
end
end DL

/-! tuples of any length: +, *, slices; min of two -/
namespace DL
open PySem PySem.Spec L2 StX PyProof.Rows
theorem zero_meets (l : Addr) (items : Array Value) (n : Nat) (dd : Option Addr) (sl : Array (Option Value)) (x : Int) (u : Tok) (c0 : (decide (x < -(2 ^ 63)) || decide (x ≥ 2 ^ 63)) = false) (c1 : (items.isEmpty || x == 1) = false) (c2 : (decide (x ≤ 0) || items.isEmpty) = true) :
    Meets (Builtin.«tuple.__mul__» ⟨[.ref l, .int x u], []⟩) (fun _ R s => s.heap.get? l = some { cls := .type "tuple", dict := dd, data := .seq items n, slots := sl } ∧
      R (.ok (.ret (Value.ref s.heap.objs.size))) { s with heap := s.heap.push { cls := Value.type "tuple", data := Data.seq #[] }, toks := s.toks }) :=
  .of_wp fun prog w A R s h => by
    obtain ⟨hp, g, d, tk, os⟩ := s
    obtain ⟨hl, h⟩ := h
    have f1 := AutoSeq1.idx_int
    wp_walk using wpAny_loadPart' hl
    repeat (first
      | (refine wpAny_ite_false (decide_eq_false (by rw [c0]; exact Bool.false_ne_true)) ?_; wp_walk using wpAny_loadPart' hl)
      | (refine wpAny_ite_false (decide_eq_false (by rw [c1]; exact Bool.false_ne_true)) ?_; wp_walk using wpAny_loadPart' hl)
      | (refine wpAny_ite_true (decide_eq_true c2) ?_; wp_walk using wpAny_loadPart' hl)
      | (refine wpAny_ite_true c2 ?_; wp_walk using wpAny_loadPart' hl))
    exact ⟨_, rfl, h⟩
section
variable {X : Cx} {e a b : Expr} {es : List Expr} {te ta tb : TE} {de da db : DE} {pos : Pos} {t : TA} {d : DA} {p : Pos}
/-- t * k, k at most 0 -/
def rZero (K : PySem.W.Frag) : R2 := fun x y H Q => ∃ l k xs, x = .ref l ∧ y = .int k ∧ SqT K H l xs ∧ xs ≠ [] ∧ -1000 ≤ k ∧ k ≤ 0 ∧ ∀ p, H p = none → Q (.ref p) (upd H p (.tup []))
theorem op_zero : OpR X (binaryOp .Mult) (rZero X.K) := by
  intro pins s σ H x y v u Q I rx ry h
  obtain ⟨l, k, xs, rfl, rfl, hT, hne, h1, h2, q⟩ := h
  cases rx
  obtain ⟨t, rfl⟩ := ry
  obtain ⟨its, r, ⟨⟨cls, dd, data, sl⟩, ho, hc, n, hd⟩, hs⟩ := I.tuple hT
  simp only at hc hd
  subst hc hd
  have hle : its.length = xs.length := r.length.symm
  have hn : its ≠ [] := fun e => hne (by
    rw [e] at hle
    exact List.eq_nil_of_length_eq_zero hle.symm)
  have hi : its.toArray.isEmpty = false := by
    cases its with
    | nil => exact absurd rfl hn
    | cons a b => rfl
  have c0 : (decide (k < -(2 ^ 63)) || decide (k ≥ 2 ^ 63)) = false := by
    rw [decide_eq_false (by omega), decide_eq_false (by omega)] <;> rfl
  have c1 : (its.toArray.isEmpty || k == 1) = false := by
    rw [hi, Bool.false_or]
    exact beq_eq_false_iff_ne.mpr (by omega)
  have c2 : (decide (k ≤ 0) || its.toArray.isEmpty) = true := by
    rw [decide_eq_true h2, Bool.true_or]
  refine wpAny_binaryOp_repeat_ref (T := "tuple") (U := "int") (by decide) ⟨_, ho, rfl⟩ (fun s' => typeIs_int s' k t) noFill_tuple_mul F.fills_int_mul F.slot_int_rmul repeat_tuple F.slot_int_index.lookup
    (call_meets F.slot_int_rmul (typeIs_int s k t) F.entry_int_rmul (F.args_int_rmul_2 _ _) (int_rmul_tuple k t l its.toArray n dd sl)
      ⟨ho, rfl, ⟨_, ho, rfl⟩, call_meets F.slot_tuple_mul ⟨_, ho, rfl⟩ F.entry_tuple_mul (F.args_tuple_mul_2 _ _) (zero_meets l its.toArray n dd sl k t c0 c1 c2) ⟨ho, ?_⟩⟩)
  refine ⟨.ref s.heap.objs.size, _, I.laid (t' := s.toks) (o := .tup []) (fun b ob q => Heap.get?_push_of_some _ q) (Nat.le_refl _) ?_, rfl, q _ (I.hok.fresh (Nat.le_refl _))⟩
  exact ⟨by rw [sizeLine_eq]; exact Nat.zero_le _, [], .nil, IsTup.new _ _⟩
def rMulA (K : PySem.W.Frag) : R2 := fun x y H Q => rZero K x y H Q ∨ rMulD K x y H Q
/-- * : ints; a tuple, a list times an int -/
def dMulA : D2 := fun x y μ Q => match x, y with
  | .tup xs, .int k => xs ≠ [] ∧ -1000 ≤ k ∧ k ≤ 1000 ∧ xs.length ≤ 1000 ∧ Q (.tup (List.replicate k.toNat xs).flatten) μ
  | x, y => dMul x y μ Q
theorem sim_mulA {K : PySem.W.Frag} : Sim2 K (rMulA K) dMulA := by
  intro c μ H vx vy x y Q P R rx ry h k
  unfold dMulA at h
  split at h
  · rename_i xs n
    obtain ⟨hne, h0, h2, h3, q⟩ := h
    by_cases hn : 1 ≤ n
    · exact .inr (sim_mul c μ H vx vy (.tup xs) (.int n) Q P R rx ry ⟨hne, hn, h2, h3, q⟩ k)
    · obtain ⟨a, vs, e1, t1, z1, r1⟩ := tup_at R rx
      cases ry
      have e0 : (List.replicate n.toNat xs).flatten = [] := by
        rw [show n.toNat = 0 by omega]; rfl
      rw [e0] at q
      exact .inl ⟨a, n, vs, e1, rfl, t1, fun z => hne (r1.nil_iff.mp z), h0, by omega, sim_newT R .nil (by rw [sizeLine_eq]; exact Nat.zero_le _) q k⟩
  · exact .inr (sim_mul c μ H vx vy x y Q P R rx ry h k)
theorem q_mulA (ha : QE X a ta da) (hb : QE X b tb db) : QE X (.BinOp a .Mult b pos) (tOp (rMulA X.K) ta tb) (dOp dMulA da db) := q_op (opr_or op_zero (opr_or op_mulD (opr_or op_once (opr_or op_repT op_rep)))) sim_mulA ha hb
/-! t + u -/
def rAddA (K : PySem.W.Frag) : R2 := fun x y H Q => rCatA K x y H Q ∨ rAddD K x y H Q
def dAddA : D2 := fun x y μ Q => match x, y with
  | .tup xs, .tup ys => xs.length + ys.length ≤ sizeLine ∧ Q (.tup (xs ++ ys)) μ
  | x, y => dAdd x y μ Q
theorem sim_addA {K : PySem.W.Frag} : Sim2 K (rAddA K) dAddA := by
  intro c μ H vx vy x y Q P R rx ry h k
  unfold dAddA at h
  split at h
  · rename_i xs ys
    obtain ⟨hz, q⟩ := h
    obtain ⟨a, vs, e1, t1, z1, r1⟩ := tup_at R rx
    obtain ⟨b, ws, e2, t2, z2, r2⟩ := tup_at R ry
    refine .inl ⟨a, b, vs, ws, e1, e2, t1, t2, by rw [r1.length, r2.length]; exact hz, fun z => ?_, fun z z' => ?_, fun z z' => ?_⟩
    · have w : xs = [] := r1.nil_iff.mp z
      subst w
      rw [← e2]
      exact k c _ μ _ H (Ext.refl c) R ry q
    · have w : ys = [] := r2.nil_iff.mp z'
      subst w
      rw [List.append_nil] at q
      rw [← e1]
      exact k c _ μ _ H (Ext.refl c) R rx q
    · exact sim_newT R (r1.append r2) (by rw [List.length_append]; exact hz) q k
  · exact .inr (sim_add c μ H vx vy x y Q P R rx ry h k)
theorem q_addA (ha : QE X a ta da) (hb : QE X b tb db) : QE X (.BinOp a .Add b pos) (tOp (rAddA X.K) ta tb) (dOp dAddA da db) := q_op (opr_or op_catA (opr_or op_add (opr_or op_catT op_cat))) sim_addA ha hb
/-! slices -/
def dCutA (x : Vl) (lo hi : Option Int) (μ : Mu) (Q : DK) : Prop := match x with
  | .tup xs => Q (.tup (cutD xs lo hi)) μ
  | x => ∃ xs, lview μ x = some xs ∧ newL (cutD xs lo hi) μ Q
def dSlA (de : DE) (dl dh : DO) : DE := fun ρ μ Q => de ρ μ fun x μ1 => dl ρ μ1 fun l μ2 => dh ρ μ2 fun u μ3 => dCutA x l u μ3 Q
def rSlU (K : PySem.W.Frag) : V → Option Int → Option Int → Hp → VK → Prop := fun x lo hi H Q => rSlL K x lo hi H Q ∨ rSlA K x lo hi H Q
theorem q_slA {lo hi : Option Expr} {tl th : TO} {dl dh : DO} {p2 : Pos} (he : QE X e te de) (hl : QO X lo tl dl) (hh : QO X hi th dh) : QE X (.Subscript e (.Slice lo hi none p2) pos) (tSl (rSlU X.K) te tl th) (dSlA de dl dh) := by
  refine ⟨pe_slice (sl_list.or sl_tupA) he.p hl.p hh.p, fun c ρ μ σ H Q P R S h k => ?_⟩
  refine he.s c ρ μ σ H _ _ R S h fun c1 x μ1 v H1 E1 R1 r1 q1 => ?_
  refine hl.s c1 ρ μ1 σ H1 _ _ R1 (S.up E1.toExt0) q1 fun c2 l μ2 H2 E2 R2 q2 => ?_
  refine hh.s c2 ρ μ2 σ H2 _ _ R2 (S.up (E1.trans E2).toExt0) q2 fun c3 u μ3 H3 E3 R3 q3 => ?_
  have r3 := r1.up (E2.trans E3).toExt0
  have k3 := fun c4 z μ4 v4 H4 (E4 : Ext c3 c4) => k c4 z μ4 v4 H4 (((E1.trans E2).trans E3).trans E4)
  unfold dCutA at q3
  split at q3
  · rename_i xs
    obtain ⟨a, vs, e1, t1, z1, r⟩ := tup_at R3 r3
    refine .inr ⟨a, vs, e1, t1, fun hw => ?_, fun hw => sim_newT R3 (r.cut l u) (Nat.le_trans (cutD_length _ _ _) z1) q3 k3⟩
    rw [← e1]
    have e : cutD xs l u = xs := by
      rw [r.length] at hw
      unfold cutD
      rw [hw.1, hw.2, Nat.sub_zero, List.drop_zero, List.take_of_length_le (Nat.le_refl _)]
    rw [e] at q3
    exact k3 c3 _ μ3 _ H3 (Ext.refl c3) R3 r3 q3
  · obtain ⟨xs, hx, q⟩ := q3
    obtain ⟨a, vs, e1, t1, z1, r⟩ := lview_at R3 r3 hx
    exact .inl ⟨a, vs, e1, t1, sim_newL R3 (r.cut l u) (Nat.le_trans (cutD_length _ _ _) z1) q k3⟩
/-! min of two -/
def fMin2 : DC := fun xs μ Q => match xs with
  | [.int i, .int j] => Q (.int (if j < i then j else i)) μ
  | _ => False
theorem sim_min2 {K : PySem.W.Frag} : SimC K (fun xs H Q => ∃ i j, xs = [.int i, .int j] ∧ Q (.int (if j < i then j else i)) H) fMin2 := by
  intro c μ H vs xs Q P R r h k
  unfold fMin2 at h
  split at h
  · cases r with
    | cons h1 h2 => cases h2 with
      | cons h2 h3 =>
        cases h3; cases h1; cases h2
        exact ⟨_, _, rfl, k c _ μ _ H (Ext.refl c) R (.int _) h⟩
  · exact h.elim
theorem q_min2 {e2 : Expr} (hcm : X.calm = true) (hm : X.mg "min" = none) (ha : QA X [e, e2] t d) (hg : Gl X "min" := by rfl) (he : starEach [e, e2] X.env = (false, eval e X.env) :: starEach [e2] X.env := by rfl) (hpl : (backTo pos (starEach [e2] X.env)).any (·.1) = false := by rfl) : QE X (.Call (.Name "min" p) [e, e2] [] pos) (tCB (fun xs H Q => ∃ i j, xs = [.int i, .int j] ∧ Q (.int (if j < i then j else i)) H) t) (dCB fMin2 d) :=
  q_callB (call_min2 hcm) sim_min2 hm (by decide +kernel) ha hg (by decide) (by decide) he hpl
end
end DL

namespace K26
/-! rows of whole numbers: what is reckoned, no program in sight -/
def leadFrom (k : Nat) : List Int → Option Nat
  | [] => none
  | x :: r => if x = 0 then leadFrom (k + 1) r else some k
def plus (r o : List Int) (t : Int) : List Int := List.zipWith (fun a b => a + t * b) r o
abbrev at0 (r : List Int) (j : Nat) : Int := r.getD j 0

theorem lead_spec : ∀ (r : List Int) (k p : Nat), leadFrom k r = some p → k ≤ p ∧ p - k < r.length ∧ at0 r (p - k) ≠ 0 ∧ ∀ j, j < p - k → at0 r j = 0
  | [], k, p, h => by cases h
  | x :: r, k, p, h => by
    rw [leadFrom] at h
    by_cases hx : x = 0
    · rw [if_pos hx] at h
      obtain ⟨h1, h2, h3, h4⟩ := lead_spec r (k + 1) p h
      have e : p - k = p - (k + 1) + 1 := by omega
      refine ⟨by omega, by rw [e, List.length_cons]; omega, by rw [e]; exact h3, fun j hj => ?_⟩
      cases j with
      | zero => exact hx
      | succ j => exact h4 j (by omega)
    · rw [if_neg hx] at h
      have e : k = p := Option.some.inj h
      subst e
      refine ⟨Nat.le_refl _, by simp, by simpa using hx, fun j hj => by omega⟩
theorem lead_none : ∀ (r : List Int) (k : Nat), leadFrom k r = none ↔ ∀ x ∈ r, x = 0
  | [], k => by simp [leadFrom]
  | x :: r, k => by
    rw [leadFrom]
    by_cases hx : x = 0
    · rw [if_pos hx, lead_none r (k + 1)]
      simp [hx]
    · rw [if_neg hx]
      simp [hx]
theorem lead_some {r : List Int} {p : Nat} (hp : p < r.length) (h : at0 r p ≠ 0) (hz : ∀ j, j < p → at0 r j = 0) : leadFrom 0 r = some p := by
  have gen : ∀ (r : List Int) (k p : Nat), p < r.length → at0 r p ≠ 0 → (∀ j, j < p → at0 r j = 0) → leadFrom k r = some (k + p) := by
    intro r
    induction r with
    | nil => intro k p hp; simp at hp
    | cons x r ih =>
      intro k p hp h hz
      rw [leadFrom]
      cases p with
      | zero =>
        rw [if_neg (by simpa using h)]; simp
      | succ p =>
        rw [if_pos (by simpa using hz 0 (by omega)), ih (k + 1) p (by simpa using hp) (by simpa using h) fun j hj => by simpa using hz (j + 1) (by omega)]
        congr 1; omega
  simpa using gen r 0 p hp h hz

/-! plus -/
theorem plus_len {r o : List Int} {t : Int} (h : r.length = o.length) : (plus r o t).length = r.length := by simp [plus, h]
theorem plus_at {r o : List Int} {t : Int} (h : r.length = o.length) (j : Nat) : at0 (plus r o t) j = at0 r j + t * at0 o j := by
  unfold plus at0
  by_cases hj : j < r.length
  · simp [List.getD_eq_getElem?_getD, List.getElem?_zipWith, List.getElem?_eq_getElem hj, List.getElem?_eq_getElem (h ▸ hj : j < o.length)]
  · have h1 : r[j]? = none := List.getElem?_eq_none (by omega)
    have h2 : o[j]? = none := List.getElem?_eq_none (by omega)
    simp [List.getD_eq_getElem?_getD, List.getElem?_zipWith, h1, h2]
theorem row_ext {r o : List Int} (h : r.length = o.length) (k : ∀ j, at0 r j = at0 o j) : r = o := by
  apply List.ext_getElem h
  intro i h1 h2
  have := k i
  simpa [at0, List.getD_eq_getElem?_getD, List.getElem?_eq_getElem h1, List.getElem?_eq_getElem h2] using this
theorem mem_at {r : List Int} {x : Int} (h : x ∈ r) : ∃ j, j < r.length ∧ at0 r j = x := by
  obtain ⟨j, hj, e⟩ := List.getElem_of_mem h
  exact ⟨j, hj, by simpa [at0, List.getD_eq_getElem?_getD, List.getElem?_eq_getElem hj] using e⟩
theorem at_mem {r : List Int} {j : Nat} (h : j < r.length) : at0 r j ∈ r := by
  have : at0 r j = r[j] := by simp [at0, List.getD_eq_getElem?_getD, List.getElem?_eq_getElem h]
  rw [this]; exact List.getElem_mem h
theorem all_zero {r : List Int} : (∀ x ∈ r, x = 0) ↔ ∀ j, at0 r j = 0 := by
  constructor
  · intro h j
    by_cases hj : j < r.length
    · exact h _ (at_mem hj)
    · simp [at0, List.getD_eq_getElem?_getD, List.getElem?_eq_none (Nat.le_of_not_lt hj)]
  · intro h x hx
    obtain ⟨j, _, e⟩ := mem_at hx
    rw [← e]; exact h j

/-! bases in echelon form -/
def Ech (w : Nat) : List (List Int) → Prop
  | [] => True
  | b :: t => b.length = w ∧ (∃ p, leadFrom 0 b = some p ∧ 0 < at0 b p ∧ ∀ b' ∈ t, at0 b' p = 0) ∧ Ech w t
def quo (b v : List Int) : Int := match leadFrom 0 b with
  | some p => (at0 v p).fdiv (at0 b p)
  | none => 0
def leftOf : List (List Int) → List Int → List Int
  | [], v => v
  | b :: t, v => leftOf t (plus v b (-(quo b v)))
def mults : List (List Int) → List Int → List Int
  | [], _ => []
  | b :: t, v => quo b v :: mults t (plus v b (-(quo b v)))
/-- v and so many times each row -/
def addM : List (List Int) → List Int → List Int → List Int
  | b :: t, m :: ms, v => addM t ms (plus v b m)
  | _, _, v => v
theorem leftOf_len {w : Nat} : ∀ {bs : List (List Int)} {v : List Int}, Ech w bs → v.length = w → (leftOf bs v).length = w
  | [], v, _, h => h
  | b :: t, v, e, h => leftOf_len (bs := t) (v := plus v b (-(quo b v))) e.2.2 (by rw [plus_len (by rw [h, e.1])]; exact h)
theorem addM_len {w : Nat} : ∀ {bs : List (List Int)} {ms v : List Int}, Ech w bs → v.length = w → (addM bs ms v).length = w
  | [], ms, v, _, h => by cases ms <;> exact h
  | b :: t, [], v, _, h => h
  | b :: t, m :: ms, v, e, h => addM_len (bs := t) (ms := ms) e.2.2 (by rw [plus_len (by rw [h, e.1])]; exact h)
theorem addM_plus {w : Nat} : ∀ {bs : List (List Int)} {ms v b : List Int} {t : Int}, (∀ b' ∈ bs, b'.length = w) → v.length = w → b.length = w → addM bs ms (plus v b t) = plus (addM bs ms v) b t
  | [], ms, v, b, t, _, _, _ => by cases ms <;> rfl
  | c :: bs, [], v, b, t, _, _, _ => rfl
  | c :: bs, m :: ms, v, b, t, hl, hv, hb => by
    have hc : c.length = w := hl c List.mem_cons_self
    show addM bs ms (plus (plus v b t) c m) = plus (addM bs ms (plus v c m)) b t
    rw [← addM_plus (fun b' h => hl b' (List.mem_cons_of_mem _ h)) (by rw [plus_len (by omega)]; exact hv) hb]
    congr 1
    apply row_ext
    · rw [plus_len (by rw [plus_len (by omega)]; omega), plus_len (by omega), plus_len (by rw [plus_len (by omega)]; omega), plus_len (by omega)]
    · intro j
      rw [plus_at (by rw [plus_len (by omega)]; omega), plus_at (by omega), plus_at (by rw [plus_len (by omega)]; omega), plus_at (by omega)]
      omega
theorem Ech.len {w : Nat} : ∀ {bs : List (List Int)}, Ech w bs → ∀ b ∈ bs, b.length = w
  | [], _, b, h => by cases h
  | c :: t, e, b, h => by
    rcases List.mem_cons.mp h with z | z
    · rw [z]; exact e.1
    · exact Ech.len e.2.2 b z
theorem addM_at {w p : Nat} : ∀ {bs : List (List Int)} {ms v : List Int}, (∀ b' ∈ bs, b'.length = w ∧ at0 b' p = 0) → v.length = w → at0 (addM bs ms v) p = at0 v p
  | [], ms, v, _, _ => by cases ms <;> rfl
  | b :: t, [], v, _, _ => rfl
  | b :: t, m :: ms, v, h, hv => by
    obtain ⟨hb, hz⟩ := h b List.mem_cons_self
    show at0 (addM t ms (plus v b m)) p = _
    rw [addM_at (fun b' h' => h b' (List.mem_cons_of_mem _ h')) (by rw [plus_len (by omega)]; exact hv), plus_at (by omega), hz]
    omega
theorem quo_eq {b v : List Int} {p : Nat} (h : leadFrom 0 b = some p) : quo b v = (at0 v p).fdiv (at0 b p) := by unfold quo; rw [h]
/-- the same is left, and as many more are taken -/
theorem left_add {w : Nat} : ∀ {bs : List (List Int)} {ms v : List Int}, Ech w bs → v.length = w → ms.length = bs.length → leftOf bs (addM bs ms v) = leftOf bs v ∧ mults bs (addM bs ms v) = List.zipWith (· + ·) (mults bs v) ms
  | [], ms, v, _, _, hm => by
    cases ms with
    | nil => exact ⟨rfl, rfl⟩
    | cons m ms => simp at hm
  | b :: t, [], v, _, _, hm => by simp at hm
  | b :: t, m :: ms, v, e, hv, hm => by
    obtain ⟨hb, ⟨p, hp, hpos, hz⟩, et⟩ := e
    have ht : ∀ b' ∈ t, b'.length = w ∧ at0 b' p = 0 := fun b' h => ⟨et.len b' h, hz b' h⟩
    have l1 : (plus v b m).length = w := by rw [plus_len (by omega)]; exact hv
    have lu : (addM t ms (plus v b m)).length = w := addM_len et l1
    have q : quo b (addM t ms (plus v b m)) = quo b v + m := by
      rw [quo_eq hp, quo_eq hp, addM_at ht l1, plus_at (by omega), Int.fdiv_eq_ediv_of_nonneg _ (by omega), Int.fdiv_eq_ediv_of_nonneg _ (by omega)]
      exact Int.add_mul_ediv_right _ _ (by omega)
    have key : plus (addM t ms (plus v b m)) b (-(quo b v + m)) = addM t ms (plus v b (-(quo b v))) := by
      rw [← addM_plus (fun b' h => (ht b' h).1) l1 hb]
      congr 1
      apply row_ext
      · rw [plus_len (by omega), plus_len (by omega), plus_len (by omega)]
      · intro j
        rw [plus_at (by omega), plus_at (by omega), plus_at (by omega), Int.neg_mul, Int.neg_mul, Int.add_mul]
        omega
    have lv : (plus v b (-(quo b v))).length = w := by rw [plus_len (by omega)]; exact hv
    obtain ⟨i1, i2⟩ := left_add (bs := t) (ms := ms) (v := plus v b (-(quo b v))) et lv (by simpa using hm)
    show leftOf t (plus (addM t ms (plus v b m)) b (-(quo b (addM t ms (plus v b m))))) = leftOf t (plus v b (-(quo b v))) ∧
      quo b (addM t ms (plus v b m)) :: mults t (plus (addM t ms (plus v b m)) b (-(quo b (addM t ms (plus v b m))))) = (quo b v + m) :: List.zipWith (· + ·) (mults t (plus v b (-(quo b v)))) ms
    rw [q, key, i1, i2]
    exact ⟨rfl, rfl⟩
def zeros (w : Nat) : List Int := List.replicate w 0
theorem zeros_at (w j : Nat) : at0 (zeros w) j = 0 := by
  unfold at0 zeros
  rw [List.getD_eq_getElem?_getD, List.getElem?_replicate]
  split <;> rfl
theorem plus_zero {w : Nat} {b : List Int} {t : Int} (hb : b.length = w) (ht : t = 0) : plus (zeros w) b t = zeros w := by
  subst ht
  apply row_ext
  · rw [plus_len (by simp [zeros, hb])]
  · intro j
    rw [plus_at (by simp [zeros, hb]), zeros_at]; omega
theorem left_zero {w : Nat} : ∀ {bs : List (List Int)}, Ech w bs → leftOf bs (zeros w) = zeros w ∧ mults bs (zeros w) = List.replicate bs.length 0
  | [], _ => ⟨rfl, rfl⟩
  | b :: t, e => by
    obtain ⟨hb, ⟨p, hp, hpos, hz⟩, et⟩ := e
    have q : quo b (zeros w) = 0 := by rw [quo_eq hp, zeros_at, Int.zero_fdiv]
    obtain ⟨i1, i2⟩ := left_zero et
    show leftOf t (plus (zeros w) b (-(quo b (zeros w)))) = _ ∧ quo b (zeros w) :: mults t (plus (zeros w) b (-(quo b (zeros w)))) = _
    rw [q, plus_zero hb (by omega), i1, i2]
    exact ⟨rfl, rfl⟩
theorem mults_len {bs : List (List Int)} : ∀ {v : List Int}, (mults bs v).length = bs.length := by
  induction bs with
  | nil => intro v; rfl
  | cons b t ih => intro v; show (mults t _).length + 1 = t.length + 1; rw [ih]
/-- what was taken, put back -/
theorem left_back {w : Nat} : ∀ {bs : List (List Int)} {v : List Int}, Ech w bs → v.length = w → addM bs (mults bs v) (leftOf bs v) = v
  | [], v, _, _ => rfl
  | b :: t, v, e, hv => by
    obtain ⟨hb, ⟨p, hp, hpos, hz⟩, et⟩ := e
    have lv : (plus v b (-(quo b v))).length = w := by rw [plus_len (by omega)]; exact hv
    show addM t (mults t (plus v b (-(quo b v)))) (plus (leftOf t (plus v b (-(quo b v)))) b (quo b v)) = v
    rw [addM_plus et.len (leftOf_len et lv) hb, left_back et lv]
    apply row_ext
    · rw [plus_len (by omega)]; omega
    · intro j
      rw [plus_at (by omega), plus_at (by omega), Int.neg_mul]; omega
/-- at each lead less is left than stands there, from 0 on -/
theorem left_small {w : Nat} : ∀ {bs : List (List Int)} {v : List Int}, Ech w bs → v.length = w → ∀ b ∈ bs, ∀ p, leadFrom 0 b = some p → 0 ≤ at0 (leftOf bs v) p ∧ at0 (leftOf bs v) p < at0 b p
  | [], v, _, _, b, h => by cases h
  | c :: t, v, e, hv, b, h => by
    obtain ⟨hc, ⟨p, hp, hpos, hz⟩, et⟩ := e
    have lv : (plus v c (-(quo c v))).length = w := by rw [plus_len (by omega)]; exact hv
    rcases List.mem_cons.mp h with z | z
    · subst z
      intro p' hp'
      rw [hp] at hp'
      have e := Option.some.inj hp'
      subst e
      have stay : at0 (leftOf t (plus v b (-(quo b v)))) p = at0 (plus v b (-(quo b v))) p := by
        have := addM_at (w := w) (p := p) (bs := t) (ms := mults t (plus v b (-(quo b v)))) (v := leftOf t (plus v b (-(quo b v)))) (fun b' h' => ⟨et.len b' h', hz b' h'⟩) (leftOf_len et lv)
        rw [← this, left_back et lv]
      show 0 ≤ at0 (leftOf t (plus v b (-(quo b v)))) p ∧ at0 (leftOf t (plus v b (-(quo b v)))) p < at0 b p
      rw [stay, plus_at (by omega), quo_eq hp, Int.fdiv_eq_ediv_of_nonneg _ (by omega)]
      have h1 := Int.emod_nonneg (at0 v p) (show at0 b p ≠ 0 by omega)
      have h2 := Int.emod_lt_of_pos (at0 v p) hpos
      rw [Int.emod_def] at h1 h2
      rw [Int.neg_mul, Int.mul_comm (at0 v p / at0 b p)]
      omega
    · exact left_small et lv b z
end K26

namespace K26
/-! one column made clean: which turns there are, how large the numbers get -/
def red (j : Nat) (f r : List Int) : List Int := plus r f (-((at0 r j).fdiv (at0 f j)))
def Flat (j w : Nat) (r : List Int) : Prop := r.length = w ∧ ∀ i, i < j → at0 r i = 0
theorem red_at {j w : Nat} {f r : List Int} (hf : f.length = w) (hr : r.length = w) (i : Nat) : at0 (red j f r) i = at0 r i - (at0 r j).fdiv (at0 f j) * at0 f i := by
  unfold red
  rw [plus_at (by omega), Int.neg_mul]; omega
theorem red_len {j w : Nat} {f r : List Int} (hf : f.length = w) (hr : r.length = w) : (red j f r).length = w := by
  unfold red
  rw [plus_len (by omega)]; exact hr
theorem red_flat {j w : Nat} {f r : List Int} (hf : Flat j w f) (hr : Flat j w r) : Flat j w (red j f r) := by
  refine ⟨red_len hf.1 hr.1, fun i hi => ?_⟩
  rw [red_at hf.1 hr.1, hf.2 i hi, hr.2 i hi]; omega
theorem red_own {j w : Nat} {f r : List Int} (hf : f.length = w) (hr : r.length = w) : at0 (red j f r) j = (at0 r j).fmod (at0 f j) := by
  rw [red_at hf hr]
  have := Int.fmod_def (at0 r j) (at0 f j)
  rw [Int.mul_comm] at this
  omega
/-- the remainder lies nearer to 0 than the divisor, with its sign -/
theorem fmod_near {a b : Int} (h : b ≠ 0) : (0 < b → 0 ≤ a.fmod b ∧ a.fmod b < b) ∧ (b < 0 → a.fmod b ≤ 0 ∧ b < a.fmod b) := by
  refine ⟨fun hb => ⟨Int.fmod_nonneg_of_pos _ hb, Int.fmod_lt_of_pos _ hb⟩, fun hb => ?_⟩
  have e : a.fmod b = -((-a).fmod (-b)) := by rw [Int.neg_fmod_neg]; omega
  have h1 := Int.fmod_nonneg_of_pos (-a) (show 0 < -b by omega)
  have h2 := Int.fmod_lt_of_pos (-a) (show 0 < -b by omega)
  omega
theorem fmod_abs {a b : Int} (h : b ≠ 0) : (a.fmod b).natAbs < b.natAbs := by
  obtain ⟨h1, h2⟩ := fmod_near (a := a) h
  by_cases hb : 0 < b
  · have := h1 hb; omega
  · have := h2 (by omega); omega
/-- of numbers of one sign, where the divisor is no larger, less than half is left -/
theorem fmod_half {a b : Int} (h : (0 < b ∧ b ≤ a) ∨ (b < 0 ∧ a ≤ b)) : 2 * (a.fmod b).natAbs < a.natAbs := by
  have hd := Int.fmod_def a b
  rcases h with ⟨hb, ha⟩ | ⟨hb, ha⟩
  · obtain ⟨l, u⟩ := (fmod_near (a := a) (show b ≠ 0 by omega)).1 hb
    have hq : 1 ≤ a.fdiv b := by
      apply Int.le_of_not_gt
      intro hq
      have : b * a.fdiv b ≤ b * 0 := Int.mul_le_mul_of_nonneg_left (by omega) (by omega)
      omega
    have : b * 1 ≤ b * a.fdiv b := Int.mul_le_mul_of_nonneg_left hq (by omega)
    omega
  · obtain ⟨l, u⟩ := (fmod_near (a := a) (show b ≠ 0 by omega)).2 hb
    have hq : 1 ≤ a.fdiv b := by
      apply Int.le_of_not_gt
      intro hq
      have : (-b) * a.fdiv b ≤ (-b) * 0 := Int.mul_le_mul_of_nonneg_left (by omega) (by omega)
      rw [Int.neg_mul] at this
      omega
    have : (-b) * 1 ≤ (-b) * a.fdiv b := Int.mul_le_mul_of_nonneg_left hq (by omega)
    rw [Int.neg_mul, Int.neg_mul] at this
    omega
theorem log_half {x y : Nat} (hx : x ≠ 0) (h : 2 * x < y) : x.log2 + 1 ≤ y.log2 := by
  have e : (2 * x).log2 = x.log2 + 1 := Nat.log2_two_mul hx
  rw [← e]
  rw [Nat.le_log2 (by omega)]
  have := Nat.log2_self_le (n := 2 * x) (by omega)
  omega
theorem fdiv_size {a b : Int} (h : b ≠ 0) : (a.fdiv b).natAbs * b.natAbs ≤ a.natAbs + b.natAbs := by
  have h1 := fmod_abs (a := a) h
  have h2 := Int.fmod_def a b
  rw [← Int.natAbs_mul]
  have e : a.fdiv b * b = a - a.fmod b := by rw [Int.mul_comm]; omega
  rw [e]
  omega
abbrev Small (B : Nat) (r : List Int) : Prop := ∀ x ∈ r, x.natAbs ≤ B
/-- where numbers times M stay below P, they stay below 3 * P after one turn -/
theorem red_big {j w M P : Nat} {f r : List Int} (hf : f.length = w) (hr : r.length = w) (h0 : at0 f j ≠ 0) (hfm : (at0 f j).natAbs ≤ M) (hrm : (at0 r j).natAbs ≤ M) (hfP : ∀ x ∈ f, x.natAbs * M ≤ P) (hrP : ∀ x ∈ r, x.natAbs * M ≤ P) :
    ∀ x ∈ red j f r, x.natAbs * (at0 f j).natAbs ≤ 3 * P := by
  intro x hx
  obtain ⟨i, hi, e⟩ := mem_at hx
  rw [red_len hf hr] at hi
  rw [red_at hf hr] at e
  rw [← e]
  have h1 := hrP _ (at_mem (j := i) (by omega))
  have h2 := hfP _ (at_mem (j := i) (by omega))
  have h3 := fdiv_size (a := at0 r j) h0
  generalize (at0 r j).fdiv (at0 f j) = q at *
  have t1 : (at0 r i - q * at0 f i).natAbs ≤ (at0 r i).natAbs + q.natAbs * (at0 f i).natAbs := by
    rw [← Int.natAbs_mul]; omega
  have t2 : (at0 r i).natAbs * (at0 f j).natAbs ≤ (at0 r i).natAbs * M := Nat.mul_le_mul_left _ hfm
  have t3 : q.natAbs * (at0 f i).natAbs * (at0 f j).natAbs = q.natAbs * (at0 f j).natAbs * (at0 f i).natAbs := by
    rw [Nat.mul_assoc, Nat.mul_comm (at0 f i).natAbs, ← Nat.mul_assoc]
  have t4 : q.natAbs * (at0 f j).natAbs * (at0 f i).natAbs ≤ (M + M) * (at0 f i).natAbs := Nat.mul_le_mul_right _ (by omega)
  have t5 : (M + M) * (at0 f i).natAbs = (at0 f i).natAbs * M + (at0 f i).natAbs * M := by rw [Nat.add_mul, Nat.mul_comm]
  calc (at0 r i - q * at0 f i).natAbs * (at0 f j).natAbs ≤ ((at0 r i).natAbs + q.natAbs * (at0 f i).natAbs) * (at0 f j).natAbs := Nat.mul_le_mul_right _ t1
    _ = (at0 r i).natAbs * (at0 f j).natAbs + q.natAbs * (at0 f i).natAbs * (at0 f j).natAbs := Nat.add_mul ..
    _ ≤ 3 * P := by omega
def Nn (_n e : Nat) : Nat := 2 * (e + 1) + 1
theorem log_mono {x y : Nat} (h : x ≤ y) : x.log2 ≤ y.log2 := by
  by_cases hx : x = 0
  · rw [hx]; exact Nat.zero_le _
  · exact (Nat.le_log2 (by omega)).mpr (Nat.le_trans (Nat.log2_self_le hx) h)
def Pp (n e m : Nat) : Nat := 3 ^ (Nn n e - m) * 2 ^ (2 * e)
/-- so many turns are left at most -/
structure WI (j w n e : Nat) (m : Nat) (S R : List (List Int)) : Prop where
  hS : ∀ r ∈ S, Flat j w r ∧ at0 r j ≠ 0
  hR : ∀ r ∈ R, Flat (j + 1) w r
  cnt : S.length + R.length ≤ n
  big : (m = Nn n e ∧ (∀ r ∈ S, Small (2 ^ e) r) ∧ ∀ r ∈ R, Small (2 ^ e) r) ∨
    (m < Nn n e ∧ 2 ≤ n ∧ S ≠ [] ∧ ((∀ r ∈ S, 0 < at0 r j) ∨ (∀ r ∈ S, at0 r j < 0)) ∧ (∃ a b : Nat, (∀ r ∈ S, (at0 r j).natAbs.log2 + 1 ≤ a) ∧ (2 ≤ S.length → ∃ r ∈ S, (at0 r j).natAbs.log2 + 1 ≤ b) ∧ a + b ≤ m) ∧
      (∃ M, M ≤ 2 ^ e ∧ ∀ r ∈ S, (at0 r j).natAbs ≤ M ∧ ∀ x ∈ r, x.natAbs * M ≤ Pp n e m) ∧ ∀ r ∈ R, Small (Pp n e m) r)
theorem at_small {B : Nat} {r : List Int} (h : Small B r) (j : Nat) : (at0 r j).natAbs ≤ B := by
  by_cases hj : j < r.length
  · exact h _ (at_mem hj)
  · have : at0 r j = 0 := by simp [at0, List.getD_eq_getElem?_getD, List.getElem?_eq_none (Nat.le_of_not_lt hj)]
    rw [this]; exact Nat.zero_le _
theorem WI.sized {j w n e m : Nat} {S R : List (List Int)} (h : WI j w n e m S R) : m ≤ Nn n e ∧ (∃ M, M ≤ 2 ^ e ∧ ∀ r ∈ S, (at0 r j).natAbs ≤ M ∧ ∀ x ∈ r, x.natAbs * M ≤ Pp n e m) ∧ ∀ r ∈ R, Small (Pp n e m) r := by
  rcases h.big with ⟨h1, h2, h3⟩ | ⟨h1, _, _, _, _, h2, h3⟩
  · have e2 : Pp n e m = 2 ^ e * 2 ^ e := by
      unfold Pp
      rw [h1, Nat.sub_self, Nat.pow_zero, Nat.one_mul, Nat.two_mul, Nat.pow_add]
    have e1 : 1 ≤ 2 ^ e := Nat.one_le_two_pow
    rw [e2]
    refine ⟨by omega, ⟨2 ^ e, Nat.le_refl _, fun r hr => ⟨at_small (h2 r hr) j, fun x hx => Nat.mul_le_mul_right _ (h2 r hr x hx)⟩⟩, fun r hr x hx => ?_⟩
    exact Nat.le_trans (h3 r hr x hx) (Nat.le_mul_of_pos_right _ e1)
  · exact ⟨by omega, h2, h3⟩
theorem sum_le_mul {l : List Nat} {c : Nat} (h : ∀ x ∈ l, x ≤ c) : l.sum ≤ l.length * c := by
  induction l with
  | nil => simp
  | cons x l ih =>
    have h1 := h x List.mem_cons_self
    have h2 := ih fun y hy => h y (List.mem_cons_of_mem _ hy)
    rw [List.sum_cons, List.length_cons, Nat.add_mul]
    omega
theorem sum_dec {α : Type} (g : α → α) (p : α → Bool) (c : α → Nat) : ∀ T : List α, (∀ r ∈ T, 1 ≤ c r ∧ (p (g r) = true → c (g r) + 1 ≤ c r)) → (((T.map g).filter p).map c).sum + T.length ≤ (T.map c).sum
  | [], _ => by simp
  | r :: T, h => by
    have ih := sum_dec g p c T fun y hy => h y (List.mem_cons_of_mem _ hy)
    obtain ⟨h1, h2⟩ := h r List.mem_cons_self
    rw [List.map_cons, List.map_cons, List.sum_cons, List.length_cons]
    cases hp : p (g r) with
    | true =>
      have h3 := h2 hp
      rw [List.filter_cons_of_pos hp, List.map_cons, List.sum_cons]
      omega
    | false =>
      rw [List.filter_cons_of_neg (by rw [hp]; exact Bool.false_ne_true)]
      omega
theorem filter_two {α : Type} (p : α → Bool) : ∀ T : List α, (T.filter p).length + (T.filter fun x => !p x).length = T.length
  | [] => rfl
  | x :: T => by
    have ih := filter_two p T
    cases hp : p x <;> simp [List.filter_cons, hp] <;> omega
abbrev isN (j : Nat) (r : List Int) : Bool := decide (¬ at0 r j = 0)
/-- one turn -/
theorem WI.turn {j w n e m : Nat} {A C R : List (List Int)} {f : List Int} (h : WI j w n e m (A ++ f :: C) R) (hmin : ∀ r ∈ A ++ f :: C, (at0 f j).natAbs ≤ (at0 r j).natAbs) (hl : 1 ≤ (A ++ C).length) :
    ∃ m', m' < m ∧ WI j w n e m' (f :: ((A ++ C).map (red j f)).filter (isN j)) (R ++ ((A ++ C).map (red j f)).filter fun r => !isN j r) := by
  have hf : f ∈ A ++ f :: C := by simp
  have hT : ∀ r ∈ A ++ C, r ∈ A ++ f :: C := fun r hr => by
    rcases List.mem_append.mp hr with z | z
    · exact List.mem_append.mpr (.inl z)
    · exact List.mem_append.mpr (.inr (List.mem_cons_of_mem _ z))
  have hlen : (A ++ f :: C).length = (A ++ C).length + 1 := by simp; omega
  obtain ⟨ff, f0⟩ := h.hS f hf
  obtain ⟨hm, ⟨M, hM, hbig⟩, hRs⟩ := h.sized
  have hcnt := h.cnt
  have hpos : 1 ≤ m := by
    rcases h.big with ⟨h1, _⟩ | ⟨_, _, _, _, h2, _⟩
    · rw [h1]; unfold Nn; omega
    · obtain ⟨a, b, p1, p2, p3⟩ := h2
      have := p1 f hf
      omega
  have hmem : ∀ r, r ∈ ((A ++ C).map (red j f)).filter (isN j) → (∃ o ∈ A ++ C, r = red j f o) ∧ at0 r j ≠ 0 := fun r hr => by
    obtain ⟨h1, h2⟩ := List.mem_filter.mp hr
    obtain ⟨o, ho, e⟩ := List.mem_map.mp h1
    exact ⟨⟨o, ho, e.symm⟩, by simpa [isN] using h2⟩
  have hmem' : ∀ r, r ∈ ((A ++ C).map (red j f)).filter (fun r => !isN j r) → (∃ o ∈ A ++ C, r = red j f o) ∧ at0 r j = 0 := fun r hr => by
    obtain ⟨h1, h2⟩ := List.mem_filter.mp hr
    obtain ⟨o, ho, e⟩ := List.mem_map.mp h1
    exact ⟨⟨o, ho, e.symm⟩, by simpa [isN] using h2⟩
  have eP : Pp n e (m - 1) = 3 * Pp n e m := by
    unfold Pp
    rw [show Nn n e - (m - 1) = (Nn n e - m) + 1 by omega, Nat.pow_succ, Nat.mul_comm _ 3, Nat.mul_assoc]
  have f1 : 1 ≤ (at0 f j).natAbs := by omega
  have hfM := (hbig f hf).1
  have redP : ∀ o ∈ A ++ C, ∀ x ∈ red j f o, x.natAbs * (at0 f j).natAbs ≤ 3 * Pp n e m := fun o ho =>
    red_big ff.1 (h.hS o (hT o ho)).1.1 f0 hfM (hbig o (hT o ho)).1 (hbig f hf).2 (hbig o (hT o ho)).2
  have redA : ∀ o ∈ A ++ C, at0 (red j f o) j = (at0 o j).fmod (at0 f j) := fun o ho => red_own ff.1 (h.hS o (hT o ho)).1.1
  refine ⟨m - 1, by omega, ⟨fun r hr => ?_, fun r hr => ?_, ?_, .inr ⟨by omega, by omega, by simp, ?_, ?_, ?_, ?_⟩⟩⟩
  · rcases List.mem_cons.mp hr with z | z
    · rw [z]; exact ⟨ff, f0⟩
    · obtain ⟨⟨o, ho, e⟩, h0⟩ := hmem r z
      refine ⟨?_, h0⟩
      rw [e]
      exact red_flat ff (h.hS o (hT o ho)).1
  · rcases List.mem_append.mp hr with z | z
    · exact h.hR r z
    · obtain ⟨⟨o, ho, e⟩, h0⟩ := hmem' r z
      have fl := red_flat ff (h.hS o (hT o ho)).1
      rw [← e] at fl
      refine ⟨fl.1, fun i hi => ?_⟩
      by_cases hij : i = j
      · rw [hij]; exact h0
      · exact fl.2 i (by omega)
  · have := filter_two (isN j) ((A ++ C).map (red j f))
    rw [List.length_map] at this
    rw [List.length_cons, List.length_append]
    omega
  · have near : ∀ o ∈ A ++ C, (0 < at0 f j → 0 ≤ at0 (red j f o) j) ∧ (at0 f j < 0 → at0 (red j f o) j ≤ 0) := fun o ho => by
      rw [redA o ho]
      exact ⟨fun k => ((fmod_near f0).1 k).1, fun k => ((fmod_near f0).2 k).1⟩
    by_cases hp : 0 < at0 f j
    · refine .inl fun r hr => ?_
      rcases List.mem_cons.mp hr with z | z
      · rw [z]; exact hp
      · obtain ⟨⟨o, ho, e⟩, h0⟩ := hmem r z
        have := (near o ho).1 hp
        rw [← e] at this
        omega
    · refine .inr fun r hr => ?_
      rcases List.mem_cons.mp hr with z | z
      · rw [z]; omega
      · obtain ⟨⟨o, ho, e⟩, h0⟩ := hmem r z
        have := (near o ho).2 (by omega)
        rw [← e] at this
        omega
  · rcases h.big with ⟨h1, h2, h3⟩ | ⟨h1, h2, h3, h4, h5, hx⟩
    · have hle : ∀ r ∈ f :: ((A ++ C).map (red j f)).filter (isN j), (at0 r j).natAbs.log2 + 1 ≤ e + 1 := by
        intro r hr
        have small : (at0 r j).natAbs ≤ 2 ^ e := by
          rcases List.mem_cons.mp hr with z | z
          · rw [z]; omega
          · obtain ⟨⟨o, ho, e⟩, h0⟩ := hmem r z
            have := fmod_abs (a := at0 o j) f0
            rw [e, redA o ho]
            omega
        have h0 : (at0 r j).natAbs ≠ 0 := by
          rcases List.mem_cons.mp hr with z | z
          · rw [z]; omega
          · have := (hmem r z).2; omega
        have := (Nat.log2_lt h0).mpr (show (at0 r j).natAbs < 2 ^ (e + 1) by rw [Nat.pow_succ]; omega)
        omega
      refine ⟨e + 1, e + 1, hle, fun _ => ⟨f, List.mem_cons_self, hle f List.mem_cons_self⟩, ?_⟩
      rw [h1]
      unfold Nn
      omega
    · obtain ⟨a, b, p1, p2, p3⟩ := h5
      clear hx
      obtain ⟨r0, hr0, k0⟩ := p2 (by omega)
      clear p2
      have fa := p1 f hf
      have fb : (at0 f j).natAbs.log2 ≤ (at0 r0 j).natAbs.log2 := log_mono (hmin r0 hr0)
      refine ⟨b, a - 1, fun r hr => ?_, fun h2 => ?_, by omega⟩
      · rcases List.mem_cons.mp hr with z | z
        · rw [z]; omega
        · obtain ⟨⟨o, ho, e⟩, h0⟩ := hmem r z
          have k := fmod_abs (a := at0 o j) f0
          rw [← redA o ho, ← e] at k
          have := log_mono (Nat.le_of_lt k)
          omega
      · obtain ⟨r, hr⟩ : ∃ r, r ∈ ((A ++ C).map (red j f)).filter (isN j) := by
          cases hc : ((A ++ C).map (red j f)).filter (isN j) with
          | nil => rw [hc] at h2; simp at h2
          | cons r t => exact ⟨r, List.mem_cons_self⟩
        refine ⟨r, List.mem_cons_of_mem _ hr, ?_⟩
        obtain ⟨⟨o, ho, e⟩, hp⟩ := hmem r hr
        rw [e] at hp ⊢
        rw [redA o ho] at hp ⊢
        have hm := hmin o (hT o ho)
        have oa := p1 o (hT o ho)
        have hhalf : 2 * ((at0 o j).fmod (at0 f j)).natAbs < (at0 o j).natAbs := by
          apply fmod_half
          rcases h4 with k | k
          · have := k f hf; have := k o (hT o ho); omega
          · have := k f hf; have := k o (hT o ho); omega
        have := log_half (by omega) hhalf
        omega
  · refine ⟨(at0 f j).natAbs, by omega, fun r hr => ?_⟩
    rw [eP]
    rcases List.mem_cons.mp hr with z | z
    · rw [z]
      refine ⟨Nat.le_refl _, fun x hx => ?_⟩
      have h1 := (hbig f hf).2 x hx
      have h2 : x.natAbs * (at0 f j).natAbs ≤ x.natAbs * M := Nat.mul_le_mul_left _ hfM
      omega
    · obtain ⟨⟨o, ho, e⟩, h0⟩ := hmem r z
      rw [e]
      refine ⟨?_, redP o ho⟩
      have := fmod_abs (a := at0 o j) f0
      rw [redA o ho]
      omega
  · intro r hr
    rw [eP]
    rcases List.mem_append.mp hr with z | z
    · intro x hx
      have := hRs r z x hx
      omega
    · obtain ⟨⟨o, ho, e⟩, h0⟩ := hmem' r z
      rw [e]
      intro x hx
      have h1 := redP o ho x hx
      have h2 : x.natAbs * 1 ≤ x.natAbs * (at0 f j).natAbs := Nat.mul_le_mul_left _ f1
      omega
end K26

namespace K26
/-! what holds between two columns -/
def Eb : Nat → Nat
  | 0 => 2934
  | 1 => 2934
  | 2 => 488
  | 3 => 60
  | _ => 5
def Fb : Nat → Nat
  | 0 => 6422
  | 1 => 3486
  | 2 => 550
  | 3 => 60
  | _ => 0
structure CI (j w n : Nat) (left found : List (List Int)) : Prop where
  n4 : n ≤ 4
  lft : ∀ r ∈ left, Flat j w r ∧ Small (2 ^ Eb n) r
  cnt : left.length ≤ n
  ech : Ech w found
  leads : ∀ b ∈ found, ∃ p, p < j ∧ leadFrom 0 b = some p
  fs : ∀ b ∈ found, Small (2 ^ Fb n) b
  all : found.length + n ≤ 4
theorem CI.start {j w n : Nat} {left found : List (List Int)} (h : CI j w n left found) : WI j w n (Eb n) (Nn n (Eb n)) (left.filter (isN j)) (left.filter fun r => !isN j r) := by
  refine ⟨fun r hr => ?_, fun r hr => ?_, ?_, .inl ⟨rfl, fun r hr => ?_, fun r hr => ?_⟩⟩
  · obtain ⟨h1, h2⟩ := List.mem_filter.mp hr
    exact ⟨(h.lft r h1).1, by simpa [isN] using h2⟩
  · obtain ⟨h1, h2⟩ := List.mem_filter.mp hr
    have fl := (h.lft r h1).1
    refine ⟨fl.1, fun i hi => ?_⟩
    by_cases hij : i = j
    · rw [hij]; simpa [isN] using h2
    · exact fl.2 i (by omega)
  · rw [filter_two]; exact h.cnt
  · exact (h.lft r (List.mem_filter.mp hr).1).2
  · exact (h.lft r (List.mem_filter.mp hr).1).2
theorem pow_le_four (k : Nat) : 3 ^ k ≤ 2 ^ (2 * k) := by
  rw [Nat.pow_mul]
  exact Nat.pow_le_pow_left (by decide) k
theorem Pp_le {n e m : Nat} : Pp n e m ≤ 2 ^ (2 * Nn n e + 2 * e) := by
  unfold Pp
  rw [Nat.pow_add]
  apply Nat.mul_le_mul_right
  refine Nat.le_trans (pow_le_four _) (Nat.pow_le_pow_right (by decide) (by omega))
theorem Small.mono {A B : Nat} {r : List Int} (h : Small A r) (k : A ≤ B) : Small B r := fun x hx => Nat.le_trans (h x hx) k
theorem Eb_next {n : Nat} (h1 : 2 ≤ n) (h2 : n ≤ 4) : 2 * Nn n (Eb n) + 2 * Eb n ≤ Eb (n - 1) := by
  match n, h1, h2 with
  | 2, _, _ => decide
  | 3, _, _ => decide
  | 4, _, _ => decide
theorem Eb_mono {n : Nat} (h1 : 1 ≤ n) (h2 : n ≤ 4) : Eb n ≤ Eb (n - 1) := by
  match n, h1, h2 with
  | 1, _, _ => decide
  | 2, _, _ => decide
  | 3, _, _ => decide
  | 4, _, _ => decide
/-- what the numbers keep below at the end of a column that had a number other than 0 -/
theorem WI.done {j w n m : Nat} {S R : List (List Int)} (h : WI j w n (Eb n) m S R) (h4 : n ≤ 4) (hS : S ≠ []) (h1 : S.length ≤ 1) : 1 ≤ n ∧ (∀ r ∈ S, Small (2 ^ Eb (n - 1)) r) ∧ (∀ r ∈ R, Small (2 ^ Eb (n - 1)) r) ∧ R.length ≤ n - 1 := by
  have hc := h.cnt
  have hp : 0 < S.length := List.length_pos_iff.mpr hS
  have n1 : 1 ≤ n := by omega
  rcases h.big with ⟨_, h2, h3⟩ | ⟨_, h2, _, hsg, hsum, ⟨M, hM, hb⟩, hR⟩
  · have e := Nat.pow_le_pow_right (n := 2) (by decide) (Eb_mono n1 h4)
    exact ⟨n1, fun r hr => (h2 r hr).mono e, fun r hr => (h3 r hr).mono e, by omega⟩
  · have e : Pp n (Eb n) m ≤ 2 ^ Eb (n - 1) := Nat.le_trans Pp_le (Nat.pow_le_pow_right (by decide) (Eb_next h2 h4))
    refine ⟨n1, fun r hr x hx => ?_, fun r hr => (hR r hr).mono e, by omega⟩
    obtain ⟨b1, b2⟩ := hb r hr
    have h0 := (h.hS r hr).2
    have := b2 x hx
    have g : x.natAbs * 1 ≤ x.natAbs * M := Nat.mul_le_mul_left _ (by omega)
    omega
def neg (r : List Int) : List Int := r.map fun x => -x
theorem neg_at (r : List Int) (i : Nat) : at0 (neg r) i = -at0 r i := by
  unfold neg at0
  rw [List.getD_eq_getElem?_getD, List.getD_eq_getElem?_getD, List.getElem?_map]
  cases r[i]? <;> simp
theorem neg_len (r : List Int) : (neg r).length = r.length := by simp [neg]
/-- the row with a positive number at j -/
def upR (j : Nat) (r : List Int) : List Int := if 0 < at0 r j then r else neg r
theorem upR_ok {j w B : Nat} {r : List Int} (h : Flat j w r) (h0 : at0 r j ≠ 0) (hs : Small B r) : Flat j w (upR j r) ∧ 0 < at0 (upR j r) j ∧ Small B (upR j r) := by
  unfold upR
  by_cases hp : 0 < at0 r j
  · rw [if_pos hp]; exact ⟨h, hp, hs⟩
  · rw [if_neg hp]
    refine ⟨⟨by rw [neg_len]; exact h.1, fun i hi => by rw [neg_at, h.2 i hi]; rfl⟩, by rw [neg_at]; omega, fun x hx => ?_⟩
    obtain ⟨y, hy, e⟩ := List.mem_map.mp hx
    rw [← e, Int.natAbs_neg]; exact hs y hy
theorem ech_snoc {j w : Nat} {row : List Int} (hr : Flat j w row) (hp : 0 < at0 row j) : ∀ {found : List (List Int)}, Ech w found → (∀ b ∈ found, ∃ p, p < j ∧ leadFrom 0 b = some p) → Ech w (found.map (red j row) ++ [row]) ∧ ∀ b ∈ found.map (red j row) ++ [row], ∃ p, p < j + 1 ∧ leadFrom 0 b = some p
  | [], _, _ => by
    have hj : j < row.length := by
      apply Nat.lt_of_not_le
      intro h
      have : at0 row j = 0 := by simp [at0, List.getD_eq_getElem?_getD, List.getElem?_eq_none h]
      omega
    have hl := lead_some hj (by omega) hr.2
    refine ⟨⟨hr.1, ⟨j, hl, hp, fun b' h => (by cases h)⟩, trivial⟩, fun b hb => ?_⟩
    have e : b = row := by simpa using hb
    rw [e]; exact ⟨j, by omega, hl⟩
  | b :: t, e, hl => by
    obtain ⟨hb, ⟨p, hp1, hp2, hz⟩, et⟩ := e
    obtain ⟨i1, i2⟩ := ech_snoc hr hp et fun b' h' => hl b' (List.mem_cons_of_mem _ h')
    obtain ⟨p', hp', e'⟩ := hl b List.mem_cons_self
    rw [hp1] at e'
    have e' := Option.some.inj e'
    subst e'
    obtain ⟨s1, s2, s3, s4⟩ := lead_spec b 0 p hp1
    have un : ∀ i, i < j → at0 (red j row b) i = at0 b i := fun i hi => by rw [red_at hr.1 hb, hr.2 i hi]; omega
    have hl' : leadFrom 0 (red j row b) = some p := lead_some (by rw [red_len hr.1 hb]; omega) (by rw [un p hp']; exact s3) fun i hi => by rw [un i (by omega)]; exact s4 i (by omega)
    refine ⟨⟨red_len hr.1 hb, ⟨p, hl', by rw [un p hp']; exact hp2, fun b' h' => ?_⟩, i1⟩, fun b' h' => ?_⟩
    · rcases List.mem_append.mp h' with z | z
      · obtain ⟨o, ho, eo⟩ := List.mem_map.mp z
        rw [← eo, red_at hr.1 (et.len o ho), hr.2 p hp', hz o ho]; omega
      · have ez : b' = row := by simpa using z
        rw [ez]; exact hr.2 p hp'
    · rw [List.map_cons, List.cons_append] at h'
      rcases List.mem_cons.mp h' with z | z
      · rw [z]; exact ⟨p, by omega, hl'⟩
      · exact i2 b' z
theorem red_small {j w F X : Nat} {row b : List Int} (hr : row.length = w) (hb : b.length = w) (hp : 0 < at0 row j) (hF : 1 ≤ F) (hX : 1 ≤ X) (h1 : Small X row) (h2 : Small F b) : Small (4 * (F * X)) (red j row b) := by
  intro x hx
  obtain ⟨i, hi, e⟩ := mem_at hx
  rw [red_len hr hb] at hi
  rw [red_at hr hb] at e
  rw [← e]
  have a1 := h2 _ (at_mem (j := i) (by omega))
  have a2 := h1 _ (at_mem (j := i) (by omega))
  have a3 := at_small h2 j
  have a4 := fdiv_size (a := at0 b j) (show at0 row j ≠ 0 by omega)
  generalize (at0 b j).fdiv (at0 row j) = q at *
  have a5 : q.natAbs ≤ F + 1 := by
    apply Nat.le_of_not_gt
    intro h
    have : (F + 2) * (at0 row j).natAbs ≤ q.natAbs * (at0 row j).natAbs := Nat.mul_le_mul_right _ h
    rw [Nat.add_mul] at this
    have : F * 1 ≤ F * (at0 row j).natAbs := Nat.mul_le_mul_left _ (by omega)
    omega
  have t1 : (at0 b i - q * at0 row i).natAbs ≤ (at0 b i).natAbs + q.natAbs * (at0 row i).natAbs := by
    rw [← Int.natAbs_mul]; omega
  have t2 : q.natAbs * (at0 row i).natAbs ≤ (F + 1) * X := Nat.mul_le_mul a5 a2
  rw [Nat.add_mul] at t2
  have t3 : F * 1 ≤ F * X := Nat.mul_le_mul_left _ hX
  have t4 : 1 * X ≤ F * X := Nat.mul_le_mul_right _ hF
  omega
theorem Fb_next {n : Nat} (h1 : 1 ≤ n) (h2 : n ≤ 4) (k : n ≤ 3) : Fb n + Eb (n - 1) + 2 ≤ Fb (n - 1) := by
  match n, h1, h2, k with
  | 1, _, _, _ => decide
  | 2, _, _, _ => decide
  | 3, _, _, _ => decide
theorem Eb_Fb {n : Nat} (h1 : 1 ≤ n) (h2 : n ≤ 4) : Eb (n - 1) ≤ Fb (n - 1) := by
  match n, h1, h2 with
  | 1, _, _ => decide
  | 2, _, _ => decide
  | 3, _, _ => decide
  | 4, _, _ => decide
abbrev isZ (r : List Int) : Bool := decide (¬ (r.filter fun x => decide (¬ x = 0)) = [])
theorem CI.none {j w n m : Nat} {left found R : List (List Int)} (h : CI j w n left found) (k : WI j w n (Eb n) m [] R) : CI (j + 1) w n (R.filter isZ) found := by
  refine ⟨h.n4, fun r hr => ?_, ?_, h.ech, fun b hb => ?_, h.fs, h.all⟩
  · have hr := (List.mem_filter.mp hr).1
    refine ⟨k.hR r hr, ?_⟩
    rcases k.big with ⟨_, _, h3⟩ | ⟨_, _, h3, _⟩
    · exact h3 r hr
    · exact absurd rfl h3
  · have := k.cnt
    have h2 := List.length_filter_le isZ R
    simp at this
    omega
  · obtain ⟨p, h1, h2⟩ := h.leads b hb
    exact ⟨p, by omega, h2⟩
theorem CI.one {j w n m : Nat} {left found R : List (List Int)} {r : List Int} (h : CI j w n left found) (k : WI j w n (Eb n) m [r] R) : CI (j + 1) w (n - 1) (R.filter isZ) (found.map (red j (upR j r)) ++ [upR j r]) := by
  obtain ⟨n1, s1, s2, s3⟩ := k.done h.n4 (by simp) (by simp)
  obtain ⟨f1, f2⟩ := k.hS r (by simp)
  obtain ⟨u1, u2, u3⟩ := upR_ok f1 f2 (s1 r (by simp))
  obtain ⟨e1, e2⟩ := ech_snoc u1 u2 h.ech h.leads
  have hall := h.all
  have h4 := h.n4
  refine ⟨by omega, fun r hr => ?_, ?_, e1, e2, fun b hb => ?_, ?_⟩
  · have hr := (List.mem_filter.mp hr).1
    exact ⟨k.hR r hr, s2 r hr⟩
  · have h2 := List.length_filter_le isZ R
    omega
  · rcases List.mem_append.mp hb with z | z
    · obtain ⟨o, ho, eo⟩ := List.mem_map.mp z
      rw [← eo]
      have hn3 : n ≤ 3 := by
        have : 0 < found.length := List.length_pos_iff.mpr (List.ne_nil_of_mem ho)
        omega
      refine (red_small u1.1 (h.ech.len o ho) u2 Nat.one_le_two_pow Nat.one_le_two_pow u3 (h.fs o ho)).mono ?_
      rw [← Nat.pow_add, show (4 : Nat) = 2 ^ 2 from rfl, ← Nat.pow_add]
      exact Nat.pow_le_pow_right (by decide) (by have := Fb_next n1 h.n4 hn3; omega)
    · have ez : b = upR j r := by simpa using z
      rw [ez]
      exact u3.mono (Nat.pow_le_pow_right (by decide) (Eb_Fb n1 h.n4))
  · simp
    omega
/-- the basis: echelon form, not too large -/
structure Bas (w : Nat) (bs : List (List Int)) : Prop where
  ech : Ech w bs
  len : bs.length ≤ 4
  small : ∀ b ∈ bs, Small (2 ^ 6422) b
theorem Fb_le (n : Nat) : Fb n ≤ 6422 := by
  match n with
  | 0 => decide
  | 1 => decide
  | 2 => decide
  | 3 => decide
  | n + 4 => exact Nat.zero_le _
theorem CI.fin {j w n : Nat} {left found : List (List Int)} (h : CI j w n left found) : Bas w found :=
  ⟨h.ech, by have := h.all; omega, fun b hb => (h.fs b hb).mono (Nat.pow_le_pow_right (by decide) (Fb_le n))⟩
theorem CI.first {w : Nat} {rows : List (List Int)} (h : ∀ r ∈ rows, r.length = w ∧ ∀ y ∈ r, -20 ≤ y ∧ y ≤ 20) (h4 : rows.length ≤ 4) : CI 0 w 4 rows [] :=
  ⟨Nat.le_refl _, fun r hr => ⟨⟨(h r hr).1, fun i hi => absurd hi (Nat.not_lt_zero _)⟩, fun x hx => by
    have := (h r hr).2 x hx
    show x.natAbs ≤ 2 ^ 5
    omega⟩, h4, trivial, fun b hb => (by cases hb), fun b hb => (by cases hb), Nat.le_refl _⟩
end K26

set_option exponentiation.threshold 300
namespace K26
/-! sums of rows; what the law asks of a basis -/
def sumR (rows : List (List Int)) (ms : List Int) (w : Nat) : List Int := (List.range w).map fun j => ((ms.zip rows).map fun p => p.1 * at0 p.2 j).sum
theorem sumR_len {rows : List (List Int)} {ms : List Int} {w : Nat} : (sumR rows ms w).length = w := by simp [sumR]
theorem sumR_at {rows : List (List Int)} {ms : List Int} {w j : Nat} (h : j < w) : at0 (sumR rows ms w) j = ((ms.zip rows).map fun p => p.1 * at0 p.2 j).sum := by
  unfold sumR at0
  rw [List.getD_eq_getElem?_getD, List.getElem?_map, List.getElem?_range h]
  rfl
theorem row_ext' {w : Nat} {r o : List Int} (hr : r.length = w) (ho : o.length = w) (k : ∀ j, j < w → at0 r j = at0 o j) : r = o := by
  apply row_ext (by omega)
  intro j
  by_cases hj : j < w
  · exact k j hj
  · simp [at0, List.getD_eq_getElem?_getD, List.getElem?_eq_none (show r.length ≤ j by omega), List.getElem?_eq_none (show o.length ≤ j by omega)]
theorem addM_sum {w j : Nat} : ∀ {bs : List (List Int)} {ms v : List Int}, (∀ b ∈ bs, b.length = w) → v.length = w → at0 (addM bs ms v) j = at0 v j + ((ms.zip bs).map fun p => p.1 * at0 p.2 j).sum
  | [], ms, v, _, _ => by cases ms <;> simp [addM]
  | b :: t, [], v, _, _ => by simp [addM]
  | b :: t, m :: ms, v, h, hv => by
    have hb := h b List.mem_cons_self
    show at0 (addM t ms (plus v b m)) j = _
    rw [addM_sum (fun b' h' => h b' (List.mem_cons_of_mem _ h')) (by rw [plus_len (by omega)]; exact hv), plus_at (by omega), List.zip_cons_cons, List.map_cons, List.sum_cons]
    show at0 v j + m * at0 b j + _ = at0 v j + (m * at0 b j + _)
    omega
theorem sum_addM {w : Nat} {bs : List (List Int)} {ms : List Int} (e : Ech w bs) : sumR bs ms w = addM bs ms (zeros w) := by
  refine row_ext' sumR_len (addM_len e (by simp [zeros])) fun j hj => ?_
  rw [sumR_at hj, addM_sum e.len (by simp [zeros]), zeros_at, Int.zero_add]
/-- r + i -/
theorem sum_two {w : Nat} {r i : List Int} {x y : Int} (hr : r.length = w) (hi : i.length = w) (j : Nat) (hj : j < w) : at0 (sumR [r, i] [x, y] w) j = x * at0 r j + y * at0 i j := by
  rw [sumR_at hj]
  simp
theorem add_inside {w : Nat} {bs : List (List Int)} {ms r : List Int} (e : Ech w bs) (hr : r.length = w) : sumR [r, sumR bs ms w] [1, 1] w = addM bs ms r := by
  refine row_ext' sumR_len (addM_len e hr) fun j hj => ?_
  rw [sum_two hr sumR_len j hj, addM_sum e.len hr, sumR_at hj]
  omega
theorem sub_left {w : Nat} {bs : List (List Int)} {r : List Int} (e : Ech w bs) (hr : r.length = w) : sumR [r, leftOf bs r] [1, -1] w = addM bs (mults bs r) (zeros w) := by
  have hl := leftOf_len e hr
  refine row_ext' sumR_len (addM_len e (by simp [zeros])) fun j hj => ?_
  have h1 := addM_sum (j := j) (ms := mults bs r) (v := leftOf bs r) e.len hl
  rw [left_back e hr] at h1
  rw [sum_two hr hl j hj, addM_sum e.len (by simp [zeros]), zeros_at]
  omega
theorem zeros_lead (w : Nat) : leadFrom 0 (zeros w) = none := by
  rw [lead_none]
  intro x hx
  exact List.eq_of_mem_replicate hx
theorem lead_zeros {w : Nat} {v : List Int} (hv : v.length = w) (h : leadFrom 0 v = none) : v = zeros w := by
  rw [lead_none] at h
  exact row_ext' hv (by simp [zeros]) fun j hj => by rw [zeros_at]; exact h _ (at_mem (by omega))
theorem left_inside {w : Nat} {bs : List (List Int)} {ms : List Int} (e : Ech w bs) (hm : ms.length = bs.length) : leftOf bs (addM bs ms (zeros w)) = zeros w ∧ mults bs (addM bs ms (zeros w)) = ms := by
  obtain ⟨h1, h2⟩ := left_add (v := zeros w) e (by simp [zeros]) hm
  obtain ⟨h3, h4⟩ := left_zero e
  refine ⟨h1.trans h3, ?_⟩
  rw [h2, h4]
  apply List.ext_getElem
  · simp [hm]
  · intro i g1 g2
    simp

/-! sizes -/
theorem Bas.tail {w : Nat} {b : List Int} {t : List (List Int)} (h : Bas w (b :: t)) : Bas w t :=
  ⟨h.ech.2.2, by have := h.len; simp at this; omega, fun b' h' => h.small b' (List.mem_cons_of_mem _ h')⟩
theorem quo_small {w k : Nat} {b v : List Int} {p : Nat} (hp : leadFrom 0 b = some p) (h0 : at0 b p ≠ 0) (hv : Small (2 ^ k) v) : (quo b v).natAbs ≤ 2 ^ (k + 1) := by
  rw [quo_eq hp]
  have a1 := fdiv_size (a := at0 v p) h0
  have a3 := at_small hv p
  generalize (at0 v p).fdiv (at0 b p) = q at *
  have e1 : 1 ≤ 2 ^ k := Nat.one_le_two_pow
  rw [Nat.pow_succ]
  apply Nat.le_of_not_gt
  intro h
  have h : 2 ^ k + 2 ≤ q.natAbs ∨ q.natAbs = 2 ^ k + 1 := by omega
  rcases h with h | h
  · have a2 : (2 ^ k + 2) * (at0 b p).natAbs ≤ q.natAbs * (at0 b p).natAbs := Nat.mul_le_mul_right _ h
    rw [Nat.add_mul] at a2
    have a4 : 2 ^ k * 1 ≤ 2 ^ k * (at0 b p).natAbs := Nat.mul_le_mul_left _ (by omega)
    omega
  · omega
theorem plus_small {w k : Nat} {b v : List Int} {q : Int} (hb : b.length = w) (hv : v.length = w) (hbs : Small (2 ^ 6422) b) (hvs : Small (2 ^ k) v) (hq : q.natAbs ≤ 2 ^ (k + 1)) : Small (2 ^ (k + 6424)) (plus v b (-q)) := by
  intro x hx
  obtain ⟨i, hi, e⟩ := mem_at hx
  rw [plus_len (by omega)] at hi
  rw [plus_at (by omega)] at e
  rw [← e]
  have a1 := hbs _ (at_mem (j := i) (by omega))
  have a2 := hvs _ (at_mem (j := i) (by omega))
  have t1 : (at0 v i + -q * at0 b i).natAbs ≤ (at0 v i).natAbs + q.natAbs * (at0 b i).natAbs := by
    rw [← Int.natAbs_neg q, ← Int.natAbs_mul]; omega
  have t2 : q.natAbs * (at0 b i).natAbs ≤ 2 ^ (k + 1) * 2 ^ 6422 := Nat.mul_le_mul hq a1
  rw [← Nat.pow_add] at t2
  have t3 : 2 ^ (k + 6424) = 2 ^ (k + 1 + 6422) * 2 := by rw [← Nat.pow_succ]
  have t4 : 2 ^ k ≤ 2 ^ (k + 1 + 6422) := Nat.pow_le_pow_right (by decide) (by omega)
  omega
theorem left_sized {w : Nat} : ∀ {bs : List (List Int)} {v : List Int} {k : Nat}, Bas w bs → v.length = w → Small (2 ^ k) v → k < 100000 → (∀ m ∈ mults bs v, m.natAbs ≤ 2 ^ (k + 30000)) ∧ Small (2 ^ (k + 6424 * bs.length)) (leftOf bs v)
  | [], v, k, _, _, hs, _ => ⟨fun m h => (by cases h), hs⟩
  | b :: t, v, k, B, hv, hs, hk => by
    have hT := B.tail
    have hb4 := B.len
    rw [List.length_cons] at hb4
    obtain ⟨hb, ⟨p, hp, hpos, hz⟩, et⟩ := B.ech
    have q := quo_small (w := w) hp (by omega) hs
    have ps := plus_small hb hv (B.small b List.mem_cons_self) hs q
    have pl : (plus v b (-(quo b v))).length = w := by rw [plus_len (by omega)]; exact hv
    have rest : ∀ (t : List (List Int)) (v : List Int) (k : Nat), Bas w t → v.length = w → Small (2 ^ k) v → (∀ m ∈ mults t v, m.natAbs ≤ 2 ^ (k + 6424 * t.length + 1)) ∧ Small (2 ^ (k + 6424 * t.length)) (leftOf t v) := by
      intro t
      induction t with
      | nil => intro v k _ _ hs; exact ⟨fun m h => (by cases h), hs⟩
      | cons c t ih =>
        intro v k B hv hs
        obtain ⟨hb, ⟨p, hp, hpos, hz⟩, et⟩ := B.ech
        have q := quo_small (w := w) hp (by omega) hs
        obtain ⟨i1, i2⟩ := ih (plus v c (-(quo c v))) (k + 6424) B.tail (by rw [plus_len (by omega)]; exact hv) (plus_small hb hv (B.small c List.mem_cons_self) hs q)
        rw [List.length_cons]
        refine ⟨fun m hm => ?_, ?_⟩
        · rcases List.mem_cons.mp hm with z | z
          · rw [z]; exact Nat.le_trans q (Nat.pow_le_pow_right (by decide) (by omega))
          · rw [show k + 6424 * (t.length + 1) + 1 = k + 6424 + 6424 * t.length + 1 by omega]; exact i1 m z
        · rw [show k + 6424 * (t.length + 1) = k + 6424 + 6424 * t.length by omega]; exact i2
    obtain ⟨i1, i2⟩ := rest (b :: t) v k B hv hs
    rw [List.length_cons] at i1 i2 ⊢
    exact ⟨fun m hm => Nat.le_trans (i1 m hm) (Nat.pow_le_pow_right (by decide) (by omega)), i2⟩
theorem sum_abs {c : Nat} : ∀ {l : List Int}, (∀ x ∈ l, x.natAbs ≤ c) → l.sum.natAbs ≤ l.length * c
  | [], _ => by simp
  | x :: l, h => by
    have h1 := h x List.mem_cons_self
    have h2 := sum_abs fun y hy => h y (List.mem_cons_of_mem _ hy)
    rw [List.sum_cons, List.length_cons, Nat.add_mul]
    omega
theorem sum_small {a b w : Nat} {rows : List (List Int)} {ms : List Int} (h4 : rows.length ≤ 4) (hr : ∀ r ∈ rows, Small (2 ^ b) r) (hm : ∀ m ∈ ms, m.natAbs ≤ 2 ^ a) : Small (2 ^ (a + b + 2)) (sumR rows ms w) := by
  intro x hx
  obtain ⟨j, hj, e⟩ := mem_at hx
  rw [sumR_len] at hj
  rw [sumR_at hj] at e
  rw [← e]
  have h := sum_abs (c := 2 ^ a * 2 ^ b) (l := (ms.zip rows).map fun p => p.1 * at0 p.2 j) fun x hx => by
    obtain ⟨p, hp, e⟩ := List.mem_map.mp hx
    rw [← e, Int.natAbs_mul]
    exact Nat.mul_le_mul (hm _ (List.of_mem_zip hp).1) (at_small (hr _ (List.of_mem_zip hp).2) j)
  rw [List.length_map, List.length_zip] at h
  have e2 : 2 ^ (a + b + 2) = 4 * (2 ^ a * 2 ^ b) := by rw [Nat.pow_add, Nat.pow_add, Nat.mul_comm]
  rw [e2]
  exact Nat.le_trans h (Nat.mul_le_mul_right _ (by omega))
end K26

set_option exponentiation.threshold 300
namespace K26
/-! what rows span; the one reduced form of it -/
inductive Sp (w : Nat) (B : List (List Int)) : List Int → Prop
  | zero : Sp w B (zeros w)
  | add {v b : List Int} (t : Int) : Sp w B v → b ∈ B → Sp w B (plus v b t)
def Wide (w : Nat) (B : List (List Int)) : Prop := ∀ b ∈ B, b.length = w
theorem zeros_len (w : Nat) : (zeros w).length = w := by simp [zeros]
theorem Sp.len {w : Nat} {B : List (List Int)} (hB : Wide w B) {v : List Int} (h : Sp w B v) : v.length = w := by
  induction h with
  | zero => exact zeros_len w
  | add t h hb ih => rw [plus_len (by rw [ih, hB _ hb])]; exact ih
theorem plus_zeros {w : Nat} {v : List Int} (hv : v.length = w) (t : Int) : plus v (zeros w) t = v := by
  apply row_ext
  · rw [plus_len (by rw [zeros_len]; exact hv)]
  · intro j
    rw [plus_at (by rw [zeros_len]; exact hv), zeros_at]; omega
theorem plus_plus {w : Nat} {v a b : List Int} (hv : v.length = w) (ha : a.length = w) (hb : b.length = w) (s t : Int) : plus v (plus a b s) t = plus (plus v a t) b (t * s) := by
  apply row_ext
  · rw [plus_len (by rw [plus_len (by omega)]; omega), plus_len (by rw [plus_len (by omega)]; omega), plus_len (by omega)]
  · intro j
    rw [plus_at (by rw [plus_len (by omega)]; omega), plus_at (by omega), plus_at (by rw [plus_len (by omega)]; omega), plus_at (by omega), Int.mul_add, Int.mul_assoc]
    omega
/-- so many times what lies in the span, added -/
theorem Sp.plus {w : Nat} {B : List (List Int)} (hB : Wide w B) {v a : List Int} (hv : Sp w B v) (ha : Sp w B a) (t : Int) : Sp w B (plus v a t) := by
  induction ha generalizing t with
  | zero => rw [plus_zeros (hv.len hB)]; exact hv
  | add s h hb ih => rw [plus_plus (hv.len hB) (h.len hB) (hB _ hb)]; exact .add _ (ih t) hb
theorem Sp.self {w : Nat} {B : List (List Int)} (hB : Wide w B) {b : List Int} (h : b ∈ B) : Sp w B b := by
  have := Sp.add (w := w) 1 (Sp.zero (w := w) (B := B)) h
  have e : K26.plus (zeros w) b 1 = b := by
    apply row_ext
    · rw [plus_len (by rw [zeros_len, hB b h]), zeros_len, hB b h]
    · intro j
      rw [plus_at (by rw [zeros_len, hB b h]), zeros_at]; omega
  rw [e] at this; exact this
def Sub (w : Nat) (A B : List (List Int)) : Prop := ∀ a ∈ A, Sp w B a
theorem Sp.trans {w : Nat} {A B : List (List Int)} (hB : Wide w B) (h : Sub w A B) {v : List Int} (hv : Sp w A v) : Sp w B v := by
  induction hv with
  | zero => exact .zero
  | add t _ hb ih => exact ih.plus hB (h _ hb) t
theorem Sub.refl {w : Nat} {A : List (List Int)} (hA : Wide w A) : Sub w A A := fun a h => Sp.self hA h
theorem Sub.trans {w : Nat} {A B C : List (List Int)} (hC : Wide w C) (h1 : Sub w A B) (h2 : Sub w B C) : Sub w A C := fun a h => (h1 a h).trans hC h2
theorem Sub.of_mem {w : Nat} {A B : List (List Int)} (hB : Wide w B) (h : ∀ a ∈ A, a ∈ B) : Sub w A B := fun a ha => Sp.self hB (h a ha)
theorem Sp.mem {w : Nat} {A B : List (List Int)} (hA : Wide w A) (hB : Wide w B) (h : ∀ a ∈ A, a ∈ B) {v : List Int} (hv : Sp w A v) : Sp w B v := hv.trans hB (Sub.of_mem hB h)
/-- both span the same -/
def Eqv (w : Nat) (A B : List (List Int)) : Prop := Sub w A B ∧ Sub w B A
theorem Eqv.symm {w : Nat} {A B : List (List Int)} (h : Eqv w A B) : Eqv w B A := ⟨h.2, h.1⟩
theorem Eqv.trans {w : Nat} {A B C : List (List Int)} (hA : Wide w A) (hC : Wide w C) (h1 : Eqv w A B) (h2 : Eqv w B C) : Eqv w A C := ⟨Sub.trans hC h1.1 h2.1, Sub.trans hA h2.2 h1.2⟩
theorem Eqv.sp {w : Nat} {A B : List (List Int)} (hA : Wide w A) (hB : Wide w B) (h : Eqv w A B) (v : List Int) : Sp w A v ↔ Sp w B v := ⟨fun x => x.trans hB h.1, fun x => x.trans hA h.2⟩
/-- the first row apart -/
theorem Sp.split {w : Nat} {b : List Int} {t : List (List Int)} (hB : Wide w (b :: t)) {v : List Int} (h : Sp w (b :: t) v) : ∃ (m : Int) (u : List Int), Sp w t u ∧ v = K26.plus u b m := by
  have hb := hB b List.mem_cons_self
  have ht : Wide w t := fun c hc => hB c (List.mem_cons_of_mem _ hc)
  induction h with
  | zero => exact ⟨0, zeros w, .zero, (plus_zero hb rfl).symm⟩
  | add s h hc ih =>
    rename_i v' c
    obtain ⟨m, u, hu, e⟩ := ih
    have lu := hu.len ht
    rcases List.mem_cons.mp hc with z | z
    · subst z
      refine ⟨m + s, u, hu, ?_⟩
      rw [e]
      apply row_ext
      · rw [plus_len (by rw [plus_len (by omega)]; omega), plus_len (by omega), plus_len (by omega)]
      · intro j
        rw [plus_at (by rw [plus_len (by omega)]; omega), plus_at (by omega), plus_at (by omega), Int.add_mul]
        omega
    · have hcl := ht c z
      refine ⟨m, K26.plus u c s, .add s hu z, ?_⟩
      rw [e]
      apply row_ext
      · rw [plus_len (by rw [plus_len (by omega)]; omega), plus_len (by omega), plus_len (by rw [plus_len (by omega)]; omega), plus_len (by omega)]
      · intro j
        rw [plus_at (by rw [plus_len (by omega)]; omega), plus_at (by omega), plus_at (by rw [plus_len (by omega)]; omega), plus_at (by omega)]
        omega
theorem Sp.zero_at {w i : Nat} {B : List (List Int)} (hB : Wide w B) (h : ∀ b ∈ B, at0 b i = 0) {v : List Int} (hv : Sp w B v) : at0 v i = 0 := by
  induction hv with
  | zero => exact zeros_at w i
  | add t h1 hb ih => rw [plus_at (by rw [h1.len hB, hB _ hb]), ih, h _ hb]; omega

/-! the reduced form -/
def Hnf (w : Nat) : List (List Int) → Prop
  | [] => True
  | b :: t => b.length = w ∧ (∃ p, leadFrom 0 b = some p ∧ 0 < at0 b p ∧ ∀ b' ∈ t, (∀ i, i ≤ p → at0 b' i = 0) ∧ ∀ q, leadFrom 0 b' = some q → 0 ≤ at0 b q ∧ at0 b q < at0 b' q) ∧ Hnf w t
theorem Hnf.ech {w : Nat} : ∀ {H : List (List Int)}, Hnf w H → Ech w H
  | [], _ => trivial
  | b :: t, ⟨h1, ⟨p, h2, h3, h4⟩, h5⟩ => ⟨h1, ⟨p, h2, h3, fun b' hb => (h4 b' hb).1 p (Nat.le_refl p)⟩, h5.ech⟩
theorem Hnf.wide {w : Nat} {H : List (List Int)} (h : Hnf w H) : Wide w H := h.ech.len
theorem addM_zeros {w : Nat} : ∀ {bs : List (List Int)} {v : List Int}, Wide w bs → v.length = w → addM bs (List.replicate bs.length 0) v = v
  | [], v, _, _ => rfl
  | b :: t, v, h, hv => by
    have hb := h b List.mem_cons_self
    show addM t (List.replicate t.length 0) (plus v b 0) = v
    have e : plus v b 0 = v := by
      apply row_ext
      · rw [plus_len (by omega)]
      · intro j
        rw [plus_at (by omega)]; omega
    rw [e]
    exact addM_zeros (fun c hc => h c (List.mem_cons_of_mem _ hc)) hv
theorem addM_pt {w : Nat} {b : List Int} {m : Int} : ∀ {bs : List (List Int)} {v : List Int}, Wide w bs → v.length = w → b ∈ bs → ∃ ms, ms.length = bs.length ∧ addM bs ms v = plus v b m
  | [], v, _, _, h => by cases h
  | c :: t, v, h, hv, hb => by
    have hc := h c List.mem_cons_self
    have ht : Wide w t := fun c hc => h c (List.mem_cons_of_mem _ hc)
    rcases List.mem_cons.mp hb with z | z
    · subst z
      exact ⟨m :: List.replicate t.length 0, by simp, addM_zeros ht (by rw [plus_len (by omega)]; exact hv)⟩
    · obtain ⟨ms, h1, h2⟩ := addM_pt (v := v) ht hv z
      refine ⟨0 :: ms, by simp [h1], ?_⟩
      show addM t ms (plus v c 0) = _
      have e : plus v c 0 = v := by
        apply row_ext
        · rw [plus_len (by omega)]
        · intro j
          rw [plus_at (by omega)]; omega
      rw [e]; exact h2
theorem left_sp {w : Nat} {t : List (List Int)} (e : Ech w t) {v u : List Int} (hv : v.length = w) (hu : Sp w t u) : leftOf t (plus v u 1) = leftOf t v := by
  induction hu with
  | zero => rw [plus_zeros hv]
  | add s h hb ih =>
    rename_i u' b
    rw [plus_plus hv (h.len e.len) (e.len _ hb)]
    have l1 : (plus v u' 1).length = w := by rw [plus_len (by rw [h.len e.len]; exact hv)]; exact hv
    obtain ⟨ms, h1, h2⟩ := addM_pt (m := 1 * s) e.len l1 hb
    rw [← h2, (left_add e l1 h1).1, ih]
/-- what is reduced stays -/
theorem left_id {w : Nat} : ∀ {t : List (List Int)} {v : List Int}, Ech w t → v.length = w → (∀ b ∈ t, ∀ q, leadFrom 0 b = some q → 0 ≤ at0 v q ∧ at0 v q < at0 b q) → leftOf t v = v
  | [], v, _, _, _ => rfl
  | b :: t, v, e, hv, h => by
    obtain ⟨hb, ⟨p, hp, hpos, hz⟩, et⟩ := e
    obtain ⟨h1, h2⟩ := h b List.mem_cons_self p hp
    have q0 : quo b v = 0 := by
      rw [quo_eq hp, Int.fdiv_eq_ediv_of_nonneg _ (by omega)]
      exact Int.ediv_eq_zero_of_lt h1 h2
    show leftOf t (plus v b (-(quo b v))) = v
    have e : plus v b (-(quo b v)) = v := by
      rw [q0]
      apply row_ext
      · rw [plus_len (by omega)]
      · intro j
        rw [plus_at (by omega)]; omega
    rw [e]
    exact left_id et hv fun c hc => h c (List.mem_cons_of_mem _ hc)
theorem Hnf.lead_in {w p : Nat} {b : List Int} {t : List (List Int)} (h : Hnf w (b :: t)) (hp : leadFrom 0 b = some p) {v : List Int} (hv : Sp w (b :: t) v) : (∀ i, i < p → at0 v i = 0) ∧ ∃ m, at0 v p = m * at0 b p := by
  obtain ⟨h1, ⟨p', h2, h3, h4⟩, h5⟩ := h
  rw [hp] at h2
  have e := Option.some.inj h2
  subst e
  obtain ⟨s1, s2, s3, s4⟩ := lead_spec b 0 p hp
  have hw : Wide w (b :: t) := Hnf.wide (w := w) (H := b :: t) ⟨h1, ⟨p, hp, h3, h4⟩, h5⟩
  refine ⟨fun i hi => hv.zero_at hw fun c hc => ?_, ?_⟩
  · rcases List.mem_cons.mp hc with z | z
    · rw [z]; exact s4 i (by omega)
    · exact (h4 c z).1 i (by omega)
  · obtain ⟨m, u, hu, e⟩ := hv.split hw
    have hu0 := hu.zero_at h5.wide fun c hc => (h4 c hc).1 p (Nat.le_refl p)
    exact ⟨m, by rw [e, plus_at (by rw [hu.len h5.wide, h1]), hu0]; omega⟩
/-- one reduced form alone -/
theorem hnf_unique {w : Nat} : ∀ {H H' : List (List Int)}, Hnf w H → Hnf w H' → Eqv w H H' → H = H'
  | [], [], _, _, _ => rfl
  | [], b :: t, _, h', e => by
    exfalso
    have hb := e.2 b List.mem_cons_self
    obtain ⟨_, ⟨p, h2, h3, _⟩, _⟩ := h'
    have := hb.zero_at (i := p) (fun c hc => by cases hc) (fun c hc => by cases hc)
    omega
  | b :: t, [], h, _, e => by
    exfalso
    have hb := e.1 b List.mem_cons_self
    obtain ⟨_, ⟨p, h2, h3, _⟩, _⟩ := h
    have := hb.zero_at (i := p) (fun c hc => by cases hc) (fun c hc => by cases hc)
    omega
  | b :: t, b' :: t', h, h', e => by
    obtain ⟨p, hp⟩ : ∃ p, leadFrom 0 b = some p := let ⟨_, ⟨p, h2, _⟩, _⟩ := h; ⟨p, h2⟩
    obtain ⟨p', hp'⟩ : ∃ p, leadFrom 0 b' = some p := let ⟨_, ⟨p, h2, _⟩, _⟩ := h'; ⟨p, h2⟩
    obtain ⟨s1, s2, s3, s4⟩ := lead_spec b 0 p hp
    obtain ⟨s1', s2', s3', s4'⟩ := lead_spec b' 0 p' hp'
    rw [Nat.sub_zero] at s3 s3'
    obtain ⟨z1, m1, e1⟩ := h'.lead_in hp' (e.1 b List.mem_cons_self)
    obtain ⟨z2, m2, e2⟩ := h.lead_in hp (e.2 b' List.mem_cons_self)
    have epp : p = p' := by
      rcases Nat.lt_trichotomy p p' with k | k | k
      · exact absurd (z1 p k) s3
      · exact k
      · exact absurd (z2 p' k) s3'
    subst epp
    have hW := h.wide
    have hW' := h'.wide
    obtain ⟨l1, ⟨q, h2, h3, h4⟩, h5⟩ := h
    obtain ⟨l1', ⟨q', h2', h3', h4'⟩, h5'⟩ := h'
    rw [hp] at h2
    have eq1 := Option.some.inj h2
    subst eq1
    rw [hp'] at h2'
    have eq2 := Option.some.inj h2'
    subst eq2
    have hpp : at0 b p = at0 b' p := by
      have d1 : at0 b' p ∣ at0 b p := ⟨m1, by rw [e1, Int.mul_comm]⟩
      have d2 : at0 b p ∣ at0 b' p := ⟨m2, by rw [e2, Int.mul_comm]⟩
      have i1 := Int.le_of_dvd h3 d1
      have i2 := Int.le_of_dvd h3' d2
      omega
    have tails : ∀ {b : List Int} {t : List (List Int)} {v : List Int}, Wide w (b :: t) → 0 < at0 b p → (∀ c ∈ t, at0 c p = 0) → Sp w (b :: t) v → at0 v p = 0 → Sp w t v := by
      intro b t v hw hpos hz hv h0
      have ht : Wide w t := fun c hc => hw c (List.mem_cons_of_mem _ hc)
      obtain ⟨m, u, hu, e⟩ := hv.split hw
      have hu0 := hu.zero_at ht hz
      have hb := hw b List.mem_cons_self
      rw [e, plus_at (by rw [hu.len ht, hb]), hu0] at h0
      have hm : m = 0 := by
        rcases Int.mul_eq_zero.mp (show m * at0 b p = 0 by omega) with k | k
        · exact k
        · omega
      subst hm
      have e3 : v = u := by
        rw [e]
        apply row_ext
        · rw [plus_len (by rw [hu.len ht, hb])]
        · intro j
          rw [plus_at (by rw [hu.len ht, hb])]; omega
      rw [e3]; exact hu
    have et : t = t' := by
      refine hnf_unique h5 h5' ⟨fun c hc => ?_, fun c hc => ?_⟩
      · exact tails hW' h3' (fun c hc => (h4' c hc).1 p (Nat.le_refl p)) (e.1 c (List.mem_cons_of_mem _ hc)) ((h4 c hc).1 p (Nat.le_refl p))
      · exact tails hW h3 (fun c hc => (h4 c hc).1 p (Nat.le_refl p)) (e.2 c (List.mem_cons_of_mem _ hc)) ((h4' c hc).1 p (Nat.le_refl p))
    subst et
    have hd : Sp w t (plus b' b (-1)) := by
      refine tails hW h3 (fun c hc => (h4 c hc).1 p (Nat.le_refl p)) ((e.2 b' List.mem_cons_self).plus hW (Sp.self hW List.mem_cons_self) (-1)) ?_
      rw [plus_at (by omega), hpp]; omega
    have e5 : plus b (plus b' b (-1)) 1 = b' := by
      apply row_ext
      · rw [plus_len (by rw [plus_len (by omega)]; omega)]; omega
      · intro j
        rw [plus_at (by rw [plus_len (by omega)]; omega), plus_at (by omega)]; omega
    have k1 := left_sp h5.ech l1 hd
    rw [e5, left_id h5.ech l1' fun c hc q hq => (h4' c hc).2 q hq, left_id h5.ech l1 fun c hc q hq => (h4 c hc).2 q hq] at k1
    rw [k1]
end K26

set_option exponentiation.threshold 300
namespace K25
open K26
/-! the law's own elimination: what is spanned stays, the form is the reduced one, the numbers stay below 2 ^ 30000000 -/
def Eb : Nat → Nat
  | 0 => 10413618
  | 1 => 10413618
  | 2 => 1735602
  | 3 => 289266
  | 4 => 48210
  | 5 => 8034
  | 6 => 1338
  | 7 => 222
  | 8 => 36
  | _ => 5
def Fb : Nat → Nat
  | 0 => 22909962
  | 1 => 12496342
  | 2 => 2082722
  | 3 => 347118
  | 4 => 57850
  | 5 => 9638
  | 6 => 1602
  | 7 => 262
  | 8 => 38
  | _ => 0
theorem turn_eqv {w j : Nat} {A C R : List (List Int)} {f : List Int} (hW : Wide w (A ++ f :: C ++ R)) : Eqv w ((f :: ((A ++ C).map (red j f)).filter (isN j)) ++ (R ++ ((A ++ C).map (red j f)).filter fun r => !isN j r)) (A ++ f :: C ++ R) := by
  have hf : f.length = w := hW f (by simp)
  have hT : ∀ o ∈ A ++ C, o ∈ A ++ f :: C ++ R ∧ o.length = w := fun o ho => by
    have : o ∈ A ++ f :: C ++ R := by
      rcases List.mem_append.mp ho with z | z
      · simp [z]
      · simp [z]
    exact ⟨this, hW o this⟩
  have hred : ∀ o ∈ A ++ C, red j f o ∈ (f :: ((A ++ C).map (red j f)).filter (isN j)) ++ (R ++ ((A ++ C).map (red j f)).filter fun r => !isN j r) := fun o ho => by
    have hm : red j f o ∈ (A ++ C).map (red j f) := List.mem_map_of_mem ho
    cases hq : isN j (red j f o) with
    | true =>
      refine List.mem_append.mpr (.inl (List.mem_cons_of_mem _ ?_))
      exact List.mem_filter.mpr ⟨hm, hq⟩
    | false =>
      refine List.mem_append.mpr (.inr (List.mem_append.mpr (.inr ?_)))
      exact List.mem_filter.mpr ⟨hm, by simp [hq]⟩
  have hW2 : Wide w ((f :: ((A ++ C).map (red j f)).filter (isN j)) ++ (R ++ ((A ++ C).map (red j f)).filter fun r => !isN j r)) := fun b hb => by
    rcases List.mem_append.mp hb with z | z
    · rcases List.mem_cons.mp z with z | z
      · rw [z]; exact hf
      · obtain ⟨o, ho, e⟩ := List.mem_map.mp (List.mem_filter.mp z).1
        rw [← e]; exact red_len hf (hT o ho).2
    · rcases List.mem_append.mp z with z | z
      · exact hW b (by simp [z])
      · obtain ⟨o, ho, e⟩ := List.mem_map.mp (List.mem_filter.mp z).1
        rw [← e]; exact red_len hf (hT o ho).2
  have sf : Sp w (A ++ f :: C ++ R) f := Sp.self hW (by simp)
  have sr : ∀ o ∈ A ++ C, Sp w (A ++ f :: C ++ R) (red j f o) := fun o ho => (Sp.self hW (hT o ho).1).plus hW sf _
  constructor
  · intro b hb
    rcases List.mem_append.mp hb with z | z
    · rcases List.mem_cons.mp z with z | z
      · rw [z]; exact sf
      · obtain ⟨o, ho, e⟩ := List.mem_map.mp (List.mem_filter.mp z).1
        rw [← e]; exact sr o ho
    · rcases List.mem_append.mp z with z | z
      · exact Sp.self hW (by simp [z])
      · obtain ⟨o, ho, e⟩ := List.mem_map.mp (List.mem_filter.mp z).1
        rw [← e]; exact sr o ho
  · intro b hb
    have sf2 : Sp w _ f := Sp.self hW2 (List.mem_append.mpr (.inl List.mem_cons_self))
    have old : ∀ o ∈ A ++ C, Sp w ((f :: ((A ++ C).map (red j f)).filter (isN j)) ++ (R ++ ((A ++ C).map (red j f)).filter fun r => !isN j r)) o := fun o ho => by
      have h1 := (Sp.self hW2 (hred o ho)).plus hW2 sf2 ((at0 o j).fdiv (at0 f j))
      have e : plus (red j f o) f ((at0 o j).fdiv (at0 f j)) = o := by
        have l1 := red_len (j := j) hf (hT o ho).2
        apply row_ext
        · rw [plus_len (by omega), l1, (hT o ho).2]
        · intro i
          rw [plus_at (by omega), red_at hf (hT o ho).2]; omega
      rw [e] at h1; exact h1
    rcases List.mem_append.mp hb with z | z
    · rcases List.mem_append.mp z with z | z
      · exact old b (List.mem_append.mpr (.inl z))
      · rcases List.mem_cons.mp z with z | z
        · rw [z]; exact sf2
        · exact old b (List.mem_append.mpr (.inr z))
    · exact Sp.self hW2 (by simp [z])
/-- between two columns -/
structure CJ (j w n : Nat) (rows left found : List (List Int)) : Prop where
  n6 : n ≤ 9
  lft : ∀ r ∈ left, Flat j w r ∧ Small (2 ^ Eb n) r
  cnt : left.length ≤ n
  hnf : Hnf w found
  leads : ∀ b ∈ found, ∃ p, p < j ∧ leadFrom 0 b = some p
  fs : ∀ b ∈ found, Small (2 ^ Fb n) b
  all : found.length + n ≤ rows.length
  r6 : rows.length ≤ 9
  eqv : Eqv w (found ++ left) rows
  rw' : Wide w rows
theorem CJ.start {j w n : Nat} {rows left found : List (List Int)} (h : CJ j w n rows left found) : WI j w n (Eb n) (Nn n (Eb n)) (left.filter (isN j)) (left.filter fun r => !isN j r) := by
  refine ⟨fun r hr => ?_, fun r hr => ?_, ?_, .inl ⟨rfl, fun r hr => ?_, fun r hr => ?_⟩⟩
  · obtain ⟨h1, h2⟩ := List.mem_filter.mp hr
    exact ⟨(h.lft r h1).1, by simpa [isN] using h2⟩
  · obtain ⟨h1, h2⟩ := List.mem_filter.mp hr
    have fl := (h.lft r h1).1
    refine ⟨fl.1, fun i hi => ?_⟩
    by_cases hij : i = j
    · rw [hij]; simpa [isN] using h2
    · exact fl.2 i (by omega)
  · rw [filter_two]; exact h.cnt
  · exact (h.lft r (List.mem_filter.mp hr).1).2
  · exact (h.lft r (List.mem_filter.mp hr).1).2
theorem CJ.wide {j w n : Nat} {rows left found : List (List Int)} (h : CJ j w n rows left found) : Wide w (found ++ left) := fun b hb => by
  rcases List.mem_append.mp hb with z | z
  · exact h.hnf.wide b z
  · exact (h.lft b z).1.1
theorem CJ.start_eqv {j w n : Nat} {rows left found : List (List Int)} (h : CJ j w n rows left found) : Eqv w (left.filter (isN j) ++ left.filter fun r => !isN j r) left := by
  have hl : Wide w left := fun b hb => (h.lft b hb).1.1
  have hl2 : Wide w (left.filter (isN j) ++ left.filter fun r => !isN j r) := fun b hb => by
    rcases List.mem_append.mp hb with z | z
    · exact hl b (List.mem_filter.mp z).1
    · exact hl b (List.mem_filter.mp z).1
  refine ⟨Sub.of_mem hl fun a ha => ?_, Sub.of_mem hl2 fun a ha => ?_⟩
  · rcases List.mem_append.mp ha with z | z
    · exact (List.mem_filter.mp z).1
    · exact (List.mem_filter.mp z).1
  · cases hq : isN j a with
    | true => exact List.mem_append.mpr (.inl (List.mem_filter.mpr ⟨ha, hq⟩))
    | false => exact List.mem_append.mpr (.inr (List.mem_filter.mpr ⟨ha, by simp [hq]⟩))
theorem Eb_next {n : Nat} (h1 : 2 ≤ n) (h2 : n ≤ 9) : 2 * Nn n (Eb n) + 2 * Eb n ≤ Eb (n - 1) := by
  match n, h1, h2 with
  | 2, _, _ => decide
  | 3, _, _ => decide
  | 4, _, _ => decide
  | 5, _, _ => decide
  | 6, _, _ => decide
  | 7, _, _ => decide
  | 8, _, _ => decide
  | 9, _, _ => decide
theorem Eb_mono {n : Nat} (h1 : 1 ≤ n) (h2 : n ≤ 9) : Eb n ≤ Eb (n - 1) := by
  match n, h1, h2 with
  | 1, _, _ => decide
  | 2, _, _ => decide
  | 3, _, _ => decide
  | 4, _, _ => decide
  | 5, _, _ => decide
  | 6, _, _ => decide
  | 7, _, _ => decide
  | 8, _, _ => decide
  | 9, _, _ => decide
theorem Fb_next {n : Nat} (h1 : 1 ≤ n) (h2 : n ≤ 8) : Fb n + Eb (n - 1) + 2 ≤ Fb (n - 1) := by
  match n, h1, h2 with
  | 1, _, _ => decide
  | 2, _, _ => decide
  | 3, _, _ => decide
  | 4, _, _ => decide
  | 5, _, _ => decide
  | 6, _, _ => decide
  | 7, _, _ => decide
  | 8, _, _ => decide
theorem Eb_Fb {n : Nat} (h1 : 1 ≤ n) (h2 : n ≤ 9) : Eb (n - 1) ≤ Fb (n - 1) := by
  match n, h1, h2 with
  | 1, _, _ => decide
  | 2, _, _ => decide
  | 3, _, _ => decide
  | 4, _, _ => decide
  | 5, _, _ => decide
  | 6, _, _ => decide
  | 7, _, _ => decide
  | 8, _, _ => decide
  | 9, _, _ => decide
theorem Eb_le {n : Nat} (h : n ≤ 9) : Eb n ≤ 10930000 := by
  match n, h with
  | 0, _ => decide
  | 1, _ => decide
  | 2, _ => decide
  | 3, _ => decide
  | 4, _ => decide
  | 5, _ => decide
  | 6, _ => decide
  | 7, _ => decide
  | 8, _ => decide
  | 9, _ => decide
theorem Fb_le (n : Nat) : Fb n ≤ 24100000 := by
  match n with
  | 0 => decide
  | 1 => decide
  | 2 => decide
  | 3 => decide
  | 4 => decide
  | 5 => decide
  | 6 => decide
  | 7 => decide
  | 8 => decide
  | n + 9 => exact Nat.zero_le _
theorem WI_done {j w n m : Nat} {S R : List (List Int)} (h : WI j w n (Eb n) m S R) (h4 : n ≤ 9) (hS : S ≠ []) (h1 : S.length ≤ 1) : 1 ≤ n ∧ (∀ r ∈ S, Small (2 ^ Eb (n - 1)) r) ∧ (∀ r ∈ R, Small (2 ^ Eb (n - 1)) r) ∧ R.length ≤ n - 1 := by
  have hc := h.cnt
  have hp : 0 < S.length := List.length_pos_iff.mpr hS
  have n1 : 1 ≤ n := by omega
  rcases h.big with ⟨_, h2, h3⟩ | ⟨_, h2, _, hsg, hsum, ⟨M, hM, hb⟩, hR⟩
  · have e := Nat.pow_le_pow_right (n := 2) (by decide) (Eb_mono n1 h4)
    exact ⟨n1, fun r hr => (h2 r hr).mono e, fun r hr => (h3 r hr).mono e, by omega⟩
  · have e : Pp n (Eb n) m ≤ 2 ^ Eb (n - 1) := Nat.le_trans Pp_le (Nat.pow_le_pow_right (by decide) (Eb_next h2 h4))
    refine ⟨n1, fun r hr x hx => ?_, fun r hr => (hR r hr).mono e, by omega⟩
    obtain ⟨b1, b2⟩ := hb r hr
    have h0 := (h.hS r hr).2
    have := b2 x hx
    have g : x.natAbs * 1 ≤ x.natAbs * M := Nat.mul_le_mul_left _ (by omega)
    omega
/-- the form, a row more -/
theorem hnf_snoc {j w : Nat} {row : List Int} (hr : Flat j w row) (hp : 0 < at0 row j) (hj : leadFrom 0 row = some j) : ∀ {found : List (List Int)}, Hnf w found → (∀ b ∈ found, ∃ p, p < j ∧ leadFrom 0 b = some p) → Hnf w (found.map (red j row) ++ [row])
  | [], _, _ => ⟨hr.1, ⟨j, hj, hp, fun b' h => (by cases h)⟩, trivial⟩
  | b :: t, e, hl => by
    obtain ⟨hb, ⟨p, hp1, hp2, hz⟩, et⟩ := e
    have i1 := hnf_snoc hr hp hj et fun b' h' => hl b' (List.mem_cons_of_mem _ h')
    obtain ⟨p', hp', e'⟩ := hl b List.mem_cons_self
    rw [hp1] at e'
    have e' := Option.some.inj e'
    subst e'
    obtain ⟨s1, s2, s3, s4⟩ := lead_spec b 0 p hp1
    have un : ∀ {b : List Int}, b.length = w → ∀ i, i < j → at0 (red j row b) i = at0 b i := fun hb i hi => by rw [red_at hr.1 hb, hr.2 i hi]; omega
    have hl' : ∀ {b : List Int} {p : Nat}, b.length = w → p < j → leadFrom 0 b = some p → leadFrom 0 (red j row b) = some p := by
      intro b p hb hpj hp1
      obtain ⟨s1, s2, s3, s4⟩ := lead_spec b 0 p hp1
      exact lead_some (by rw [red_len hr.1 hb]; omega) (by rw [un hb p hpj]; exact s3) fun i hi => by rw [un hb i (by omega)]; exact s4 i (by omega)
    refine ⟨red_len hr.1 hb, ⟨p, hl' hb hp' hp1, by rw [un hb p hp']; exact hp2, fun b' h' => ?_⟩, i1⟩
    rcases List.mem_append.mp h' with z | z
    · obtain ⟨o, ho, eo⟩ := List.mem_map.mp z
      have hol := et.wide o ho
      obtain ⟨z1, z2⟩ := hz o ho
      obtain ⟨po, hpo, hlo⟩ := hl o (List.mem_cons_of_mem _ ho)
      rw [← eo]
      refine ⟨fun i hi => by rw [un hol i (by omega)]; exact z1 i hi, fun q hq => ?_⟩
      rw [hl' hol hpo hlo] at hq
      have eq := Option.some.inj hq
      subst eq
      rw [un hb po hpo, un hol po hpo]
      exact z2 po hlo
    · have ez : b' = row := by simpa using z
      rw [ez]
      refine ⟨fun i hi => hr.2 i (by omega), fun q hq => ?_⟩
      rw [hj] at hq
      have eq := Option.some.inj hq
      subst eq
      rw [red_own hr.1 hb]
      exact ⟨Int.fmod_nonneg_of_pos _ hp, Int.fmod_lt_of_pos _ hp⟩
theorem isZ_false {w : Nat} {r : List Int} (hr : r.length = w) (h : isZ r = false) : r = zeros w := by
  have h1 : (r.filter fun x => decide (¬ x = 0)) = [] := by simpa [isZ] using h
  rw [List.filter_eq_nil_iff] at h1
  refine row_ext' hr (zeros_len w) fun j hj => ?_
  have := h1 _ (at_mem (r := r) (j := j) (by omega))
  rw [zeros_at]
  simpa using this
theorem drop_zero {w : Nat} {R X : List (List Int)} (hX : Wide w X) (hR : Wide w R) : Eqv w (X ++ R.filter isZ) (X ++ R) := by
  have h1 : Wide w (X ++ R) := fun b hb => (List.mem_append.mp hb).elim (hX b) (hR b)
  have h2 : Wide w (X ++ R.filter isZ) := fun b hb => (List.mem_append.mp hb).elim (hX b) fun z => hR b (List.mem_filter.mp z).1
  refine ⟨Sub.of_mem h1 fun a ha => ?_, fun a ha => ?_⟩
  · rcases List.mem_append.mp ha with z | z
    · exact List.mem_append.mpr (.inl z)
    · exact List.mem_append.mpr (.inr (List.mem_filter.mp z).1)
  · rcases List.mem_append.mp ha with z | z
    · exact Sp.self h2 (List.mem_append.mpr (.inl z))
    · cases hq : isZ a with
      | true => exact Sp.self h2 (List.mem_append.mpr (.inr (List.mem_filter.mpr ⟨z, hq⟩)))
      | false => rw [isZ_false (hR a z) hq]; exact .zero
theorem app_eqv {w : Nat} {X A B : List (List Int)} (hX : Wide w X) (hA : Wide w A) (hB : Wide w B) (h : Eqv w A B) : Eqv w (X ++ A) (X ++ B) := by
  have h1 : Wide w (X ++ A) := fun b hb => (List.mem_append.mp hb).elim (hX b) (hA b)
  have h2 : Wide w (X ++ B) := fun b hb => (List.mem_append.mp hb).elim (hX b) (hB b)
  refine ⟨fun a ha => ?_, fun a ha => ?_⟩
  · rcases List.mem_append.mp ha with z | z
    · exact Sp.self h2 (List.mem_append.mpr (.inl z))
    · exact (h.1 a z).mem hB h2 fun b hb => List.mem_append.mpr (.inr hb)
  · rcases List.mem_append.mp ha with z | z
    · exact Sp.self h1 (List.mem_append.mpr (.inl z))
    · exact (h.2 a z).mem hA h1 fun b hb => List.mem_append.mpr (.inr hb)
theorem upR_plus {j w : Nat} {r : List Int} (hr : r.length = w) : ∃ s : Int, upR j r = plus (zeros w) r s ∧ r = plus (zeros w) (upR j r) s := by
  unfold upR
  by_cases h : 0 < at0 r j
  · rw [if_pos h]
    have e : r = plus (zeros w) r 1 := row_ext' (w := w) hr (by rw [plus_len (by rw [zeros_len, hr]), zeros_len]) fun i hi => by rw [plus_at (by rw [zeros_len, hr]), zeros_at]; omega
    exact ⟨1, e, e⟩
  · rw [if_neg h]
    refine ⟨-1, row_ext' (w := w) (by rw [neg_len]; exact hr) (by rw [plus_len (by rw [zeros_len, hr]), zeros_len]) fun i hi => ?_, row_ext' (w := w) hr (by rw [plus_len (by rw [zeros_len, neg_len, hr]), zeros_len]) fun i hi => ?_⟩
    · rw [plus_at (by rw [zeros_len, hr]), zeros_at, neg_at]; omega
    · rw [plus_at (by rw [zeros_len, neg_len, hr]), zeros_at, neg_at]; omega
/-- a column without numbers other than 0 -/
theorem CJ.none {j w n m : Nat} {rows left found R : List (List Int)} (h : CJ j w n rows left found) (k : WI j w n (Eb n) m [] R) (e : Eqv w ([] ++ R) left) : CJ (j + 1) w n rows (R.filter isZ) found := by
  have hR : Wide w R := fun b hb => (k.hR b hb).1
  have hL : Wide w left := fun b hb => (h.lft b hb).1.1
  refine ⟨h.n6, fun r hr => ?_, ?_, h.hnf, fun b hb => ?_, h.fs, h.all, h.r6, ?_, h.rw'⟩
  · have hr := (List.mem_filter.mp hr).1
    refine ⟨k.hR r hr, ?_⟩
    rcases k.big with ⟨_, _, h3⟩ | ⟨_, _, h3, _⟩
    · exact h3 r hr
    · exact absurd rfl h3
  · have := k.cnt
    have h2 := List.length_filter_le isZ R
    simp at this
    omega
  · obtain ⟨p, h1, h2⟩ := h.leads b hb
    exact ⟨p, by omega, h2⟩
  · have hF := h.hnf.wide
    have w1 : Wide w (found ++ R.filter isZ) := fun b hb => (List.mem_append.mp hb).elim (hF b) fun z => hR b (List.mem_filter.mp z).1
    have w2 : Wide w (found ++ R) := fun b hb => (List.mem_append.mp hb).elim (hF b) (hR b)
    exact (Eqv.trans w1 h.wide (drop_zero hF hR) (app_eqv hF hR hL e)).trans w1 h.rw' h.eqv
/-- a column with one -/
theorem CJ.one {j w n m : Nat} {rows left found R : List (List Int)} {r : List Int} (h : CJ j w n rows left found) (hjw : j < w) (k : WI j w n (Eb n) m [r] R) (e : Eqv w ([r] ++ R) left) : CJ (j + 1) w (n - 1) rows (R.filter isZ) (found.map (red j (upR j r)) ++ [upR j r]) := by
  obtain ⟨n1, s1, s2, s3⟩ := WI_done k h.n6 (by simp) (by simp)
  obtain ⟨f1, f2⟩ := k.hS r (by simp)
  obtain ⟨u1, u2, u3⟩ := upR_ok f1 f2 (s1 r (by simp))
  have hj : leadFrom 0 (upR j r) = some j := lead_some (by rw [u1.1]; exact hjw) (by omega) u1.2
  have e1 := hnf_snoc u1 u2 hj h.hnf h.leads
  have e2 := (ech_snoc u1 u2 h.hnf.ech h.leads).2
  have hall := h.all
  have h66 := h.r6
  have h6 := h.n6
  have hF := h.hnf.wide
  have hR : Wide w R := fun b hb => (k.hR b hb).1
  have hL : Wide w left := fun b hb => (h.lft b hb).1.1
  have hrR : Wide w ([r] ++ R) := fun b hb => (List.mem_append.mp hb).elim (fun z => by rw [List.mem_singleton.mp z]; exact f1.1) (hR b)
  refine ⟨by omega, fun r hr => ?_, ?_, e1, e2, fun b hb => ?_, ?_, h.r6, ?_, h.rw'⟩
  · have hr := (List.mem_filter.mp hr).1
    exact ⟨k.hR r hr, s2 r hr⟩
  · have h2 := List.length_filter_le isZ R
    omega
  · rcases List.mem_append.mp hb with z | z
    · obtain ⟨o, ho, eo⟩ := List.mem_map.mp z
      rw [← eo]
      have hn5 : n ≤ 8 := by
        have : 0 < found.length := List.length_pos_iff.mpr (List.ne_nil_of_mem ho)
        omega
      refine (red_small u1.1 (hF o ho) u2 Nat.one_le_two_pow Nat.one_le_two_pow u3 (h.fs o ho)).mono ?_
      rw [← Nat.pow_add, show (4 : Nat) = 2 ^ 2 from rfl, ← Nat.pow_add]
      exact Nat.pow_le_pow_right (by decide) (by have := Fb_next n1 hn5; omega)
    · have ez : b = upR j r := by simpa using z
      rw [ez]
      exact u3.mono (Nat.pow_le_pow_right (by decide) (Eb_Fb n1 h.n6))
  · simp
    omega
  · -- what is spanned
    have wF2 : Wide w (found.map (red j (upR j r)) ++ [upR j r]) := e1.wide
    have w1 : Wide w ((found.map (red j (upR j r)) ++ [upR j r]) ++ R) := fun b hb => (List.mem_append.mp hb).elim (wF2 b) (hR b)
    have w0 : Wide w ((found.map (red j (upR j r)) ++ [upR j r]) ++ R.filter isZ) := fun b hb => (List.mem_append.mp hb).elim (wF2 b) fun z => hR b (List.mem_filter.mp z).1
    have w2 : Wide w (found ++ ([r] ++ R)) := fun b hb => (List.mem_append.mp hb).elim (hF b) (hrR b)
    obtain ⟨s, p1, p2⟩ := upR_plus (j := j) f1.1
    have key : Eqv w ((found.map (red j (upR j r)) ++ [upR j r]) ++ R) (found ++ ([r] ++ R)) := by
      have su : Sp w (found ++ ([r] ++ R)) (upR j r) := by
        rw [p1]; exact .add s .zero (by simp)
      have sr : Sp w ((found.map (red j (upR j r)) ++ [upR j r]) ++ R) r := by
        have := Sp.add (w := w) (B := (found.map (red j (upR j r)) ++ [upR j r]) ++ R) s .zero (show upR j r ∈ _ by simp)
        rw [← p2] at this; exact this
      have su2 : Sp w ((found.map (red j (upR j r)) ++ [upR j r]) ++ R) (upR j r) := Sp.self w1 (by simp)
      refine ⟨fun b hb => ?_, fun b hb => ?_⟩
      · rcases List.mem_append.mp hb with z | z
        · rcases List.mem_append.mp z with z | z
          · obtain ⟨o, ho, eo⟩ := List.mem_map.mp z
            rw [← eo]
            exact (Sp.self w2 (by simp [ho])).plus w2 su _
          · rw [List.mem_singleton.mp z]; exact su
        · exact Sp.self w2 (by simp [z])
      · rcases List.mem_append.mp hb with z | z
        · have h1 := (Sp.self w1 (show red j (upR j r) b ∈ (found.map (red j (upR j r)) ++ [upR j r]) ++ R from List.mem_append.mpr (.inl (List.mem_append.mpr (.inl (List.mem_map_of_mem z)))))).plus w1 su2 ((at0 b j).fdiv (at0 (upR j r) j))
          have eb : plus (red j (upR j r) b) (upR j r) ((at0 b j).fdiv (at0 (upR j r) j)) = b := by
            have l1 := red_len (j := j) u1.1 (hF b z)
            have l2 := u1.1
            have l3 := hF b z
            apply row_ext
            · rw [plus_len (by omega), l1, l3]
            · intro i
              rw [plus_at (by omega), red_at u1.1 l3]; omega
          rw [eb] at h1; exact h1
        · rcases List.mem_append.mp z with z | z
          · rw [List.mem_singleton.mp z]; exact sr
          · exact Sp.self w1 (by simp [z])
    exact (((drop_zero wF2 hR).trans w0 w2 key).trans w0 h.wide (app_eqv hF hrR hL e)).trans w0 h.rw' h.eqv
theorem CJ.first {w : Nat} {rows : List (List Int)} (h : ∀ r ∈ rows, r.length = w ∧ Small (2 ^ Eb rows.length) r) (h6 : rows.length ≤ 9) : CJ 0 w rows.length rows rows [] := by
  have hw : Wide w rows := fun r hr => (h r hr).1
  exact ⟨h6, fun r hr => ⟨⟨(h r hr).1, fun i hi => absurd hi (Nat.not_lt_zero _)⟩, (h r hr).2⟩, Nat.le_refl _, trivial, fun b hb => (by cases hb), fun b hb => (by cases hb), by simp, h6, ⟨Sub.refl hw, Sub.refl hw⟩, hw⟩
theorem CJ.fin {w n : Nat} {rows left found : List (List Int)} (h : CJ w w n rows left found) : Hnf w found ∧ Eqv w found rows := by
  refine ⟨h.hnf, ?_⟩
  have hF := h.hnf.wide
  have hz : ∀ r ∈ left, r = zeros w := fun r hr => by
    obtain ⟨h1, h2⟩ := (h.lft r hr).1
    exact row_ext' h1 (zeros_len w) fun j hj => by rw [zeros_at]; exact h2 j hj
  have e : Eqv w found (found ++ left) := by
    refine ⟨Sub.of_mem h.wide fun a ha => List.mem_append.mpr (.inl ha), fun a ha => ?_⟩
    rcases List.mem_append.mp ha with z | z
    · exact Sp.self hF z
    · rw [hz a z]; exact .zero
  exact e.trans hF h.rw' h.eqv
end K25

set_option exponentiation.threshold 300
namespace K25
open K26
/-! the greatest common divisor as a sum of multiples -/
/-- a, x, y and b, u, v: a = x * one + y * other, and so on -/
structure DJ (one other a x y b u v : Int) : Prop where
  a0 : a ≠ 0
  ea : a = x * one + y * other
  eb : b = u * one + v * other
  det : x * v - y * u = 1 ∨ x * v - y * u = -1
  bx : x.natAbs ≤ other.natAbs
  by' : y.natAbs ≤ one.natAbs
  sg : ((0 ≤ a ∧ 0 ≤ b) ∨ (a ≤ 0 ∧ b ≤ 0)) ∧ (x = 0 ∨ u = 0 ∨ (x < 0 ∧ 0 < u) ∨ (0 < x ∧ u < 0)) ∧ ((y = 0 ∨ v = 0 ∨ (y < 0 ∧ 0 < v) ∨ (0 < y ∧ v < 0)) ∨ (x = 0 ∧ y = 1 ∧ u = 1 ∧ 1 ≤ v ∧ v.natAbs ≤ one.natAbs ∧ b.natAbs < a.natAbs))
structure DI0 (one other a x y b u v : Int) : Prop where
  e1 : a = one
  e2 : x = 1
  e3 : y = 0
  e4 : b = other
  e5 : u = 0
  e6 : v = 1
theorem quot_sign {a b : Int} (hb : b ≠ 0) (h : (0 ≤ a ∧ 0 ≤ b) ∨ (a ≤ 0 ∧ b ≤ 0)) : 0 ≤ a.fdiv b := by
  rcases h with ⟨h1, h2⟩ | ⟨h1, h2⟩
  · exact Int.fdiv_nonneg h1 h2
  · rw [← Int.neg_fdiv_neg]
    exact Int.fdiv_nonneg (by omega) (by omega)
theorem det_one {one other a x y b u v : Int} (ea : a = x * one + y * other) (eb : b = u * one + v * other) : v * a - y * b = (x * v - y * u) * one ∧ x * b - u * a = (x * v - y * u) * other := by
  subst ea; subst eb
  constructor
  · rw [Int.mul_add, Int.mul_add, Int.sub_mul, ← Int.mul_assoc, ← Int.mul_assoc, ← Int.mul_assoc, ← Int.mul_assoc, Int.mul_comm v x, Int.mul_comm v y]
    omega
  · rw [Int.mul_add, Int.mul_add, Int.sub_mul, ← Int.mul_assoc, ← Int.mul_assoc, ← Int.mul_assoc, ← Int.mul_assoc, Int.mul_comm u x, Int.mul_comm u y]
    omega
/-- of unlike signs: both parts count -/
theorem part_le {x b u a : Int} (h1 : (0 ≤ a ∧ 0 ≤ b) ∨ (a ≤ 0 ∧ b ≤ 0)) (h2 : x = 0 ∨ u = 0 ∨ (x < 0 ∧ 0 < u) ∨ (0 < x ∧ u < 0)) : (u * a).natAbs ≤ (x * b - u * a).natAbs := by
  have m : ∀ {p q : Int}, 0 ≤ p → 0 ≤ q → 0 ≤ p * q := fun h h' => Int.mul_nonneg h h'
  rcases h2 with h | h | ⟨h, h'⟩ | ⟨h, h'⟩
  · subst h; rw [Int.zero_mul]; omega
  · subst h; rw [Int.zero_mul]; omega
  · rcases h1 with ⟨k1, k2⟩ | ⟨k1, k2⟩
    · have t1 := m (show 0 ≤ u by omega) k1
      have t2 := m (show 0 ≤ -x by omega) k2
      rw [Int.neg_mul] at t2
      omega
    · have t1 := m (show 0 ≤ u by omega) (show 0 ≤ -a by omega)
      have t2 := m (show 0 ≤ -x by omega) (show 0 ≤ -b by omega)
      rw [Int.mul_neg] at t1
      rw [Int.neg_mul_neg] at t2
      omega
  · rcases h1 with ⟨k1, k2⟩ | ⟨k1, k2⟩
    · have t1 := m (show 0 ≤ -u by omega) k1
      have t2 := m (show 0 ≤ x by omega) k2
      rw [Int.neg_mul] at t1
      omega
    · have t1 := m (show 0 ≤ -u by omega) (show 0 ≤ -a by omega)
      have t2 := m (show 0 ≤ x by omega) (show 0 ≤ -b by omega)
      rw [Int.neg_mul_neg] at t1
      rw [Int.mul_neg] at t2
      omega
theorem abs_pm {d z : Int} (h : d = 1 ∨ d = -1) : (d * z).natAbs = z.natAbs := by
  rcases h with h | h <;> subst h <;> omega
theorem le_mul_abs {u a : Int} (h : a ≠ 0) : u.natAbs ≤ (u * a).natAbs := by
  rw [Int.natAbs_mul]
  exact Nat.le_mul_of_pos_right _ (by omega)
/-- one turn -/
theorem DJ.turn {one other a x y b u v : Int} (h : DJ one other a x y b u v) (hb : b ≠ 0) : DJ one other b u v (a + -(a.fdiv b) * b) (x + -(a.fdiv b) * u) (y + -(a.fdiv b) * v) := by
  obtain ⟨s1, s2, s3⟩ := h.sg
  have hq := quot_sign hb s1
  have hr : a + -(a.fdiv b) * b = a.fmod b := by
    have := Int.fmod_def a b
    rw [Int.neg_mul, Int.mul_comm (a.fdiv b)]; omega
  obtain ⟨n1, n2⟩ := fmod_near (a := a) hb
  obtain ⟨d1, d2⟩ := det_one h.ea h.eb
  generalize hqq : a.fdiv b = q at *
  have bu : u.natAbs ≤ other.natAbs := by
    refine Nat.le_trans (le_mul_abs h.a0) ?_
    have := part_le s1 s2
    rw [d2, abs_pm h.det] at this
    exact this
  have bv : v.natAbs ≤ one.natAbs := by
    rcases s3 with s3 | ⟨_, _, _, _, k, _⟩
    · refine Nat.le_trans (le_mul_abs h.a0) ?_
      have := part_le (x := y) (u := v) s1 s3
      have e : y * b - v * a = -((x * v - y * u) * one) := by rw [← d1]; omega
      rw [e, Int.natAbs_neg, abs_pm h.det] at this
      exact this
    · exact k
  have um : ∀ {x u : Int}, (x = 0 ∨ u = 0 ∨ (x < 0 ∧ 0 < u) ∨ (0 < x ∧ u < 0)) → (u = 0 ∨ x + -q * u = 0 ∨ (u < 0 ∧ 0 < x + -q * u) ∨ (0 < u ∧ x + -q * u < 0)) := by
    intro x u hxu
    rw [Int.neg_mul]
    rcases Int.lt_trichotomy u 0 with k | k | k
    · have t : 0 ≤ q * -u := Int.mul_nonneg hq (by omega)
      rw [Int.mul_neg] at t
      rcases hxu with z | z | z | z <;> omega
    · exact .inl k
    · have t : 0 ≤ q * u := Int.mul_nonneg hq (by omega)
      rcases hxu with z | z | z | z <;> omega
  refine ⟨hb, h.eb, ?_, ?_, bu, bv, ?_, um s2, .inl ?_⟩
  · rw [h.ea, h.eb, Int.mul_add, Int.add_mul, Int.add_mul, Int.mul_assoc, Int.mul_assoc]
    omega
  · have e : u * (y + -q * v) - v * (x + -q * u) = -(x * v - y * u) := by
      rw [Int.mul_add, Int.mul_add, Int.neg_mul, Int.neg_mul, Int.mul_neg, Int.mul_neg, Int.mul_left_comm u q v, Int.mul_left_comm v q u, Int.mul_comm v u, Int.mul_comm u y, Int.mul_comm v x]
      omega
    rw [e]
    have := h.det
    omega
  · rw [hr]
    rcases Int.lt_trichotomy b 0 with k | k | k
    · exact .inr ⟨by omega, (n2 k).1⟩
    · exact absurd k hb
    · exact .inl ⟨by omega, (n1 k).1⟩
  · rcases s3 with s3 | ⟨k1, k2, k3, k4, k5, k6⟩
    · exact um s3
    · subst k1; subst k2; subst k3
      have hq1 : 1 ≤ q := by
        apply Int.le_of_not_gt
        intro hlt
        have hq0 : q = 0 := by omega
        have hfm := Int.fmod_def a b
        rw [hqq, hq0, Int.mul_zero] at hfm
        have near := fmod_abs (a := a) hb
        rw [hfm] at near
        omega
      have t : 1 * v ≤ q * v := Int.mul_le_mul_of_nonneg_right hq1 (by omega)
      rw [Int.neg_mul]
      omega
/-- the first state -/
theorem DI0.first {one other : Int} (h1 : 0 < one) (h2 : other ≠ 0) : (0 < other → DJ one other one 1 0 other 0 1) ∧ (other < 0 → DJ one other other 0 1 (one + -(one.fdiv other) * other) (1 + -(one.fdiv other) * 0) (0 + -(one.fdiv other) * 1)) := by
  refine ⟨fun h => ⟨by omega, by omega, by omega, .inl (by omega), by omega, by omega, .inl (by omega), .inr (.inl rfl), .inl (.inl rfl)⟩, fun h => ?_⟩
  have hfm := Int.fmod_def one other
  have hr : one + -(one.fdiv other) * other = one.fmod other := by
    rw [Int.neg_mul, Int.mul_comm (one.fdiv other)]; omega
  obtain ⟨n1, n2⟩ := (fmod_near (a := one) (show other ≠ 0 by omega)).2 h
  have hsz := fdiv_size (a := one) h2
  have hq : one.fdiv other ≤ -1 := by
    apply Int.le_of_not_gt
    intro hlt
    have : (-other) * one.fdiv other ≥ (-other) * 0 := Int.mul_le_mul_of_nonneg_left (by omega) (by omega)
    rw [Int.neg_mul] at this
    omega
  generalize hqq : one.fdiv other = q at *
  have hqb : q.natAbs ≤ one.natAbs := by
    rw [hfm] at n1 n2
    apply Nat.le_of_not_gt
    intro hgt
    -- (-q) * (-other) < one - other
    have t : (one + 1) * (-other) ≤ (-q) * (-other) := Int.mul_le_mul_of_nonneg_right (by omega) (by omega)
    rw [Int.neg_mul_neg, Int.add_mul, Int.mul_comm q other] at t
    have t2 : one * 1 ≤ one * (-other) := Int.mul_le_mul_of_nonneg_left (by omega) (by omega)
    omega
  refine ⟨h2, by omega, by rw [hr, hfm]; rw [Int.mul_zero, Int.mul_one, Int.add_zero, Int.zero_add, Int.one_mul, Int.neg_mul, Int.mul_comm q other]; omega, .inr (by omega), by omega, by omega, .inr ⟨by omega, by rw [hr]; exact n1⟩, .inl rfl, .inr ⟨rfl, rfl, by omega, by omega, by omega, ?_⟩⟩
  rw [hr]
  omega
/-- what divided gives -/
structure Gcd2 (one other g x y : Int) : Prop where
  pos : 0 < g
  eq : g = x * one + y * other
  d1 : ∃ c, one = c * g
  d2 : ∃ c, other = c * g
  bx : x.natAbs ≤ other.natAbs
  by' : y.natAbs ≤ one.natAbs
theorem DJ.done {one other a x y u v : Int} (h : DJ one other a x y 0 u v) : (0 ≤ a → Gcd2 one other a x y) ∧ (¬ 0 ≤ a → Gcd2 one other (-a) (-x) (-y)) := by
  obtain ⟨d1, d2⟩ := det_one h.ea h.eb
  have ha := h.a0
  rw [Int.mul_zero] at d1 d2
  have h1 : ∃ c, one = c * a := by
    rcases h.det with k | k
    · exact ⟨v, by rw [k] at d1; omega⟩
    · exact ⟨-v, by rw [k] at d1; rw [Int.neg_mul]; omega⟩
  have h2 : ∃ c, other = c * a := by
    rcases h.det with k | k
    · exact ⟨-u, by rw [k] at d2; rw [Int.neg_mul]; omega⟩
    · exact ⟨u, by rw [k] at d2; omega⟩
  refine ⟨fun k => ⟨by omega, h.ea, h1, h2, h.bx, h.by'⟩, fun k => ⟨by omega, ?_, ?_, ?_, by rw [Int.natAbs_neg]; exact h.bx, by rw [Int.natAbs_neg]; exact h.by'⟩⟩
  · rw [Int.neg_mul, Int.neg_mul, h.ea]; omega
  · obtain ⟨c, e⟩ := h1
    exact ⟨-c, by rw [Int.neg_mul_neg]; exact e⟩
  · obtain ⟨c, e⟩ := h2
    exact ⟨-c, by rw [Int.neg_mul_neg]; exact e⟩
theorem DJ.less {a b : Int} (hb : b ≠ 0) : (a + -(a.fdiv b) * b).natAbs < b.natAbs := by
  have : a + -(a.fdiv b) * b = a.fmod b := by
    have := Int.fmod_def a b
    rw [Int.neg_mul, Int.mul_comm (a.fdiv b)]; omega
  rw [this]
  exact fmod_abs hb
end K25

set_option exponentiation.threshold 300
namespace K25
open K26
/-! rows held by places, one more row -/
abbrev Hg := Nat → Option (List Int)
def gset (g : Hg) (p : Nat) (r : List Int) : Hg := fun q => if q = p then some r else g q
def rowsOf (w : Nat) (g : Hg) : List (List Int) := (List.range w).filterMap g
def cntIn (g : Hg) (os : List Nat) : Nat := (os.filter fun o => (g o).isSome).length
structure GI (w P : Nat) (g : Hg) : Prop where
  ok : ∀ p r, g p = some r → p < w ∧ Flat p w r ∧ 0 < at0 r p ∧ Small (2 ^ P) r
theorem mem_rowsOf {w : Nat} {g : Hg} {r : List Int} : r ∈ rowsOf w g ↔ ∃ p, p < w ∧ g p = some r := by
  unfold rowsOf
  rw [List.mem_filterMap]
  constructor
  · rintro ⟨p, h1, h2⟩; exact ⟨p, List.mem_range.mp h1, h2⟩
  · rintro ⟨p, h1, h2⟩; exact ⟨p, List.mem_range.mpr h1, h2⟩
theorem GI.mem {w P : Nat} {g : Hg} (h : GI w P g) {p : Nat} {r : List Int} (e : g p = some r) : r ∈ rowsOf w g := mem_rowsOf.mpr ⟨p, (h.ok p r e).1, e⟩
theorem GI.wide {w P : Nat} {g : Hg} (h : GI w P g) : Wide w (rowsOf w g) := fun b hb => by
  obtain ⟨p, _, e⟩ := mem_rowsOf.mp hb
  exact (h.ok p b e).2.1.1
/-- a row made small at the places os -/
def tidyR (g : Hg) : List Nat → List Int → List Int
  | [], r => r
  | o :: os, r => match g o with
    | some h => tidyR g os (red o h r)
    | none => tidyR g os r
theorem red_bits {w o X P : Nat} {h r : List Int} (hh : h.length = w) (hr : r.length = w) (hp : 0 < at0 h o) (h1 : Small (2 ^ P) h) (h2 : Small (2 ^ X) r) : Small (2 ^ (X + P + 2)) (red o h r) := by
  refine (red_small hh hr hp Nat.one_le_two_pow Nat.one_le_two_pow h1 h2).mono ?_
  rw [← Nat.pow_add, show (4 : Nat) = 2 ^ 2 from rfl, ← Nat.pow_add]
  exact Nat.pow_le_pow_right (by decide) (by omega)
theorem tidy_spec {w P p : Nat} {g : Hg} (G : GI w P g) : ∀ (n s : Nat) (r : List Int) (X : Nat), p < s → Flat p w r → Small (2 ^ X) r →
    let r' := tidyR g (List.range' s n) r
    Flat p w r' ∧ (∀ i, i < s → at0 r' i = at0 r i) ∧ (∀ o h, s ≤ o → o < s + n → g o = some h → 0 ≤ at0 r' o ∧ at0 r' o < at0 h o) ∧ Small (2 ^ (X + cntIn g (List.range' s n) * (P + 2))) r' ∧
      (∀ B, Wide w B → (∀ o h, s ≤ o → g o = some h → Sp w B h) → ∀ v, v.length = w → (Sp w B (plus r' v (-1)) ↔ Sp w B (plus r v (-1))))
  | 0, s, r, X, hs, hf, hx => by
    refine ⟨hf, fun i _ => rfl, fun o h h1 h2 => by omega, ?_, fun B _ _ v _ => Iff.rfl⟩
    show Small (2 ^ (X + 0 * (P + 2))) r
    rw [Nat.zero_mul, Nat.add_zero]; exact hx
  | n + 1, s, r, X, hs, hf, hx => by
    rw [List.range'_succ]
    have ec : cntIn g (s :: List.range' (s + 1) n) = cntIn g (List.range' (s + 1) n) + (if (g s).isSome then 1 else 0) := by
      unfold cntIn
      rw [List.filter_cons]
      split <;> simp
    cases hg : g s with
    | none =>
      have e : tidyR g (s :: List.range' (s + 1) n) r = tidyR g (List.range' (s + 1) n) r := by rw [tidyR, hg]
      rw [e, ec, hg]
      obtain ⟨t1, t2, t3, t4, t5⟩ := tidy_spec G n (s + 1) r X (by omega) hf hx
      refine ⟨t1, fun i hi => t2 i (by omega), fun o h h1 h2 h3 => ?_, t4, fun B hB h => t5 B hB fun o h' h1 => h o h' (by omega)⟩
      by_cases ho : o = s
      · rw [ho, hg] at h3; cases h3
      · exact t3 o h (by omega) (by omega) h3
    | some h =>
      obtain ⟨o1, o2, o3, o4⟩ := G.ok s h hg
      have e : tidyR g (s :: List.range' (s + 1) n) r = tidyR g (List.range' (s + 1) n) (red s h r) := by rw [tidyR, hg]
      rw [e, ec, hg]
      have hfl : Flat p w (red s h r) := ⟨red_len o2.1 hf.1, fun i hi => by rw [red_at o2.1 hf.1, o2.2 i (by omega), hf.2 i hi]; omega⟩
      obtain ⟨t1, t2, t3, t4, t5⟩ := tidy_spec G n (s + 1) (red s h r) (X + P + 2) (by omega) hfl (red_bits o2.1 hf.1 o3 o4 hx)
      refine ⟨t1, fun i hi => ?_, fun o h' h1 h2 h3 => ?_, ?_, fun B hB hk v hv => ?_⟩
      · rw [t2 i (by omega), red_at o2.1 hf.1, o2.2 i hi]; omega
      · by_cases ho : o = s
        · subst ho
          rw [hg] at h3
          have eh := Option.some.inj h3
          subst eh
          rw [t2 o (by omega), red_own o2.1 hf.1]
          exact ⟨Int.fmod_nonneg_of_pos _ o3, Int.fmod_lt_of_pos _ o3⟩
        · exact t3 o h' (by omega) (by omega) h3
      · refine Small.mono t4 (Nat.pow_le_pow_right (by decide) ?_)
        rw [if_pos (show (some h).isSome = true from rfl), Nat.add_mul]
        omega
      · rw [t5 B hB (fun o h' h1 => hk o h' (by omega)) v hv]
        have sh := hk s h (Nat.le_refl s) hg
        have e1 : plus (red s h r) v (-1) = plus (plus r v (-1)) h (-((at0 r s).fdiv (at0 h s))) := by
          have l := red_len (j := s) o2.1 hf.1
          have l1 := hf.1
          have l2 := o2.1
          apply row_ext
          · rw [plus_len (by omega), plus_len (by rw [plus_len (by omega)]; omega), plus_len (by omega)]; omega
          · intro j
            rw [plus_at (by omega), plus_at (by rw [plus_len (by omega)]; omega), plus_at (by omega), red_at o2.1 hf.1]
            simp only [Int.neg_mul]
            omega
        have e2 : plus (plus (red s h r) v (-1)) h ((at0 r s).fdiv (at0 h s)) = plus r v (-1) := by
          have l := red_len (j := s) o2.1 hf.1
          have l1 := hf.1
          have l2 := o2.1
          apply row_ext
          · rw [plus_len (by rw [plus_len (by omega)]; omega), plus_len (by omega), plus_len (by omega)]; omega
          · intro j
            rw [plus_at (by rw [plus_len (by omega)]; omega), plus_at (by omega), plus_at (by omega), red_at o2.1 hf.1]
            omega
        constructor
        · intro k
          rw [← e2]
          exact k.plus hB sh _
        · intro k
          rw [e1]
          exact k.plus hB sh _
/-- tidy at p -/
def tidyG (w : Nat) (g : Hg) (p : Nat) : Hg := match g p with
  | some r => gset g p (tidyR g (List.range' (p + 1) (w - (p + 1))) r)
  | none => g
theorem gset_at {g : Hg} {p q : Nat} {r : List Int} : gset g p r q = if q = p then some r else g q := rfl
theorem GI.mono {w P Q : Nat} {g : Hg} (h : GI w P g) (k : P ≤ Q) : GI w Q g := ⟨fun p r e => let ⟨h1, h2, h3, h4⟩ := h.ok p r e; ⟨h1, h2, h3, h4.mono (Nat.pow_le_pow_right (by decide) k)⟩⟩
theorem GI.set {w P p : Nat} {g : Hg} {r : List Int} (h : GI w P g) (hp : p < w) (hf : Flat p w r) (h0 : 0 < at0 r p) (hs : Small (2 ^ P) r) : GI w P (gset g p r) := ⟨fun q r' e => by
  rw [gset_at] at e
  by_cases hq : q = p
  · rw [if_pos hq] at e
    have := Option.some.inj e
    subst this; rw [hq]; exact ⟨hp, hf, h0, hs⟩
  · rw [if_neg hq] at e
    exact h.ok q r' e⟩
/-- the place p put anew: what is spanned -/
theorem rows_set {w p : Nat} {g : Hg} {r : List Int} (hp : p < w) {b : List Int} : b ∈ rowsOf w (gset g p r) ↔ b = r ∨ ∃ q, q < w ∧ q ≠ p ∧ g q = some b := by
  rw [mem_rowsOf]
  constructor
  · rintro ⟨q, hq, e⟩
    rw [gset_at] at e
    by_cases hqp : q = p
    · rw [if_pos hqp] at e; exact .inl (Option.some.inj e).symm
    · rw [if_neg hqp] at e; exact .inr ⟨q, hq, hqp, e⟩
  · rintro (e | ⟨q, hq, hqp, e⟩)
    · exact ⟨p, hp, by rw [gset_at, if_pos rfl, e]⟩
    · exact ⟨q, hq, by rw [gset_at, if_neg hqp]; exact e⟩
theorem plus_self {w : Nat} {r : List Int} (hr : r.length = w) : plus r r (-1) = zeros w := row_ext' (w := w) (by rw [plus_len rfl]; exact hr) (zeros_len w) fun j hj => by rw [plus_at rfl, zeros_at]; omega
theorem plus_back {w : Nat} {r v : List Int} (hr : r.length = w) (hv : v.length = w) : plus (plus r v (-1)) v 1 = r := by
  apply row_ext
  · rw [plus_len (by rw [plus_len (by omega)]; omega), plus_len (by omega)]
  · intro j
    rw [plus_at (by rw [plus_len (by omega)]; omega), plus_at (by omega)]; omega
theorem plus_diff {w : Nat} {r v : List Int} (hr : r.length = w) (hv : v.length = w) : plus r (plus r v (-1)) (-1) = v := by
  apply row_ext
  · rw [plus_len (by rw [plus_len (by omega)])]; omega
  · intro j
    rw [plus_at (by rw [plus_len (by omega)]), plus_at (by omega)]; omega
/-- a row at p made small: the same is spanned, beside any rows X -/
theorem tidy_eqv {w P p : Nat} {g : Hg} {r : List Int} {X : Nat} (G : GI w P g) (hp : p < w) (hf : Flat p w r) (h0 : 0 < at0 r p) (hx : Small (2 ^ X) r) (Y : List (List Int)) (hY : Wide w Y) :
    Eqv w (Y ++ rowsOf w (gset g p (tidyR g (List.range' (p + 1) (w - (p + 1))) r))) (Y ++ rowsOf w (gset g p r)) := by
  obtain ⟨t1, t2, t3, t4, t5⟩ := tidy_spec G (w - (p + 1)) (p + 1) r X (by omega) hf hx
  generalize tidyR g (List.range' (p + 1) (w - (p + 1))) r = r' at *
  have wide : ∀ {r : List Int}, Flat p w r → Wide w (Y ++ rowsOf w (gset g p r)) := fun {r} hf b hb => by
    rcases List.mem_append.mp hb with z | z
    · exact hY b z
    · rcases (rows_set hp).mp z with e | ⟨q, _, _, e⟩
      · rw [e]; exact hf.1
      · exact (G.ok q b e).2.1.1
  have oth : ∀ {r : List Int} (hf : Flat p w r), ∀ o h, p + 1 ≤ o → g o = some h → Sp w (Y ++ rowsOf w (gset g p r)) h := fun hf o h h1 h2 => Sp.self (wide hf) (List.mem_append.mpr (.inr ((rows_set hp).mpr (.inr ⟨o, (G.ok o h h2).1, by omega, h2⟩))))
  have own : ∀ {r : List Int} (hf : Flat p w r), Sp w (Y ++ rowsOf w (gset g p r)) r := fun hf => Sp.self (wide hf) (List.mem_append.mpr (.inr ((rows_set hp).mpr (.inl rfl))))
  -- r' - r lies in what the others span
  have d1 : Sp w (Y ++ rowsOf w (gset g p r)) (plus r' r (-1)) := (t5 _ (wide hf) (oth hf) r hf.1).mpr (by rw [plus_self hf.1]; exact .zero)
  have d2 : Sp w (Y ++ rowsOf w (gset g p r')) (plus r' r (-1)) := (t5 _ (wide t1) (oth t1) r hf.1).mpr (by rw [plus_self hf.1]; exact .zero)
  refine ⟨fun b hb => ?_, fun b hb => ?_⟩
  · rcases List.mem_append.mp hb with z | z
    · exact Sp.self (wide hf) (List.mem_append.mpr (.inl z))
    · rcases (rows_set hp).mp z with e | ⟨q, h1, h2, e⟩
      · rw [e]
        have := d1.plus (wide hf) (own hf) 1
        rw [plus_back t1.1 hf.1] at this
        exact this
      · exact Sp.self (wide hf) (List.mem_append.mpr (.inr ((rows_set hp).mpr (.inr ⟨q, h1, h2, e⟩))))
  · rcases List.mem_append.mp hb with z | z
    · exact Sp.self (wide t1) (List.mem_append.mpr (.inl z))
    · rcases (rows_set hp).mp z with e | ⟨q, h1, h2, e⟩
      · rw [e]
        have := (own t1).plus (wide t1) d2 (-1)
        rw [plus_diff t1.1 hf.1] at this
        exact this
      · exact Sp.self (wide t1) (List.mem_append.mpr (.inr ((rows_set hp).mpr (.inr ⟨q, h1, h2, e⟩))))
end K25

set_option exponentiation.threshold 300
namespace K25
open K26
/-! one row more: the steps -/
def mixR (a b : Int) (r o : List Int) : List Int := List.zipWith (fun one its => a * one + b * its) r o
theorem mixR_eq {w : Nat} {a b : Int} {r o : List Int} (hr : r.length = w) (ho : o.length = w) : mixR a b r o = plus (plus (zeros w) r a) o b := by
  have l1 : (plus (zeros w) r a).length = w := by rw [plus_len (by rw [zeros_len, hr])]; exact zeros_len w
  refine row_ext' (w := w) (by simp [mixR, hr, ho]) (by rw [plus_len (by omega)]; exact l1) fun j hj => ?_
  rw [plus_at (by omega), plus_at (by rw [zeros_len, hr]), zeros_at]
  unfold mixR at0
  rw [List.getD_eq_getElem?_getD, List.getElem?_zipWith, List.getElem?_eq_getElem (show j < r.length by omega), List.getElem?_eq_getElem (show j < o.length by omega)]
  simp [List.getD_eq_getElem?_getD, List.getElem?_eq_getElem (show j < r.length by omega), List.getElem?_eq_getElem (show j < o.length by omega)]
theorem mixR_len {w : Nat} {a b : Int} {r o : List Int} (hr : r.length = w) (ho : o.length = w) : (mixR a b r o).length = w := by simp [mixR, hr, ho]
theorem mixR_at {w : Nat} {a b : Int} {r o : List Int} (hr : r.length = w) (ho : o.length = w) (j : Nat) : at0 (mixR a b r o) j = a * at0 r j + b * at0 o j := by
  have l1 : (plus (zeros w) r a).length = w := by rw [plus_len (by rw [zeros_len, hr])]; exact zeros_len w
  rw [mixR_eq hr ho, plus_at (by omega), plus_at (by rw [zeros_len, hr]), zeros_at]; omega
theorem mixR_sp {w : Nat} {B : List (List Int)} (hB : Wide w B) {a b : Int} {r o : List Int} (hr : Sp w B r) (ho : Sp w B o) : Sp w B (mixR a b r o) := by
  rw [mixR_eq (hr.len hB) (ho.len hB)]
  exact (Sp.zero.plus hB hr a).plus hB ho b
theorem mixR_small {w A B P Q : Nat} {a b : Int} {r o : List Int} (hr : r.length = w) (ho : o.length = w) (ha : a.natAbs ≤ 2 ^ A) (hb : b.natAbs ≤ 2 ^ B) (h1 : Small (2 ^ P) r) (h2 : Small (2 ^ Q) o) (e : A + P = B + Q) : Small (2 ^ (A + P + 1)) (mixR a b r o) := by
  intro x hx
  obtain ⟨i, hi, ex⟩ := mem_at hx
  rw [mixR_len hr ho] at hi
  rw [mixR_at hr ho] at ex
  rw [← ex]
  have t1 : (a * at0 r i).natAbs ≤ 2 ^ A * 2 ^ P := by
    rw [Int.natAbs_mul]; exact Nat.mul_le_mul ha (h1 _ (at_mem (by omega)))
  have t2 : (b * at0 o i).natAbs ≤ 2 ^ B * 2 ^ Q := by
    rw [Int.natAbs_mul]; exact Nat.mul_le_mul hb (h2 _ (at_mem (by omega)))
  rw [← Nat.pow_add] at t1 t2
  rw [← e] at t2
  rw [Nat.pow_succ]
  omega
theorem cons_wide {w : Nat} {v : List Int} {B : List (List Int)} (hv : v.length = w) (hB : Wide w B) : Wide w (v :: B) := fun b hb => (List.mem_cons.mp hb).elim (fun e => by rw [e]; exact hv) (hB b)
/-- the divisible step -/
theorem step_red {w P p : Nat} {g : Hg} {h left : List Int} (G : GI w P g) (hg : g p = some h) (hf : Flat p w left) (hd : (at0 left p).fmod (at0 h p) = 0) :
    Flat (p + 1) w (red p h left) ∧ Eqv w (red p h left :: rowsOf w g) (left :: rowsOf w g) := by
  obtain ⟨o1, o2, o3, o4⟩ := G.ok p h hg
  have hl := red_len (j := p) o2.1 hf.1
  refine ⟨⟨hl, fun i hi => ?_⟩, ?_⟩
  · by_cases hip : i = p
    · rw [hip, red_own o2.1 hf.1]; exact hd
    · rw [red_at o2.1 hf.1, o2.2 i (by omega), hf.2 i (by omega)]; omega
  · have w1 := cons_wide hl G.wide
    have w2 := cons_wide hf.1 G.wide
    have h1 : Sp w (left :: rowsOf w g) h := Sp.self w2 (List.mem_cons_of_mem _ (G.mem hg))
    have h2 : Sp w (red p h left :: rowsOf w g) h := Sp.self w1 (List.mem_cons_of_mem _ (G.mem hg))
    refine ⟨fun b hb => ?_, fun b hb => ?_⟩
    · rcases List.mem_cons.mp hb with e | e
      · rw [e]; exact (Sp.self w2 List.mem_cons_self).plus w2 h1 _
      · exact Sp.self w2 (List.mem_cons_of_mem _ e)
    · rcases List.mem_cons.mp hb with e | e
      · have := (Sp.self w1 (List.mem_cons_self (a := red p h left))).plus w1 h2 ((at0 left p).fdiv (at0 h p))
        have e2 : plus (red p h left) h ((at0 left p).fdiv (at0 h p)) = left := by
          have l1 := hf.1
          have l2 := o2.1
          apply row_ext
          · rw [plus_len (by omega)]; omega
          · intro i
            rw [plus_at (by omega), red_at o2.1 hf.1]; omega
        rw [e2] at this
        rw [e]; exact this
      · exact Sp.self w1 (List.mem_cons_of_mem _ e)
/-- the mixed step: the row held, the row that is left -/
theorem step_mix {w P p : Nat} {g : Hg} {h left : List Int} {gg x y c1 c2 : Int} (G : GI w P g) (hg : g p = some h) (hf : Flat p w left) (D : Gcd2 (at0 h p) (at0 left p) gg x y) (e1 : at0 h p = c1 * gg) (e2 : at0 left p = c2 * gg) :
    Flat p w (mixR x y h left) ∧ at0 (mixR x y h left) p = gg ∧ Flat (p + 1) w (mixR (-c2) c1 h left) ∧
      Eqv w (mixR (-c2) c1 h left :: rowsOf w (gset g p (mixR x y h left))) (left :: rowsOf w g) := by
  obtain ⟨o1, o2, o3, o4⟩ := G.ok p h hg
  have hgg := D.pos
  have det : x * c1 + y * c2 = 1 := by
    have := D.eq
    have e : gg * (x * c1 + y * c2) = gg * 1 := by
      rw [Int.mul_add, Int.mul_one, Int.mul_left_comm gg x c1, Int.mul_left_comm gg y c2, Int.mul_comm gg c1, Int.mul_comm gg c2, ← e1, ← e2]
      exact this.symm
    exact Int.eq_of_mul_eq_mul_left (by omega) e
  have f1 : Flat p w (mixR x y h left) := ⟨mixR_len o2.1 hf.1, fun i hi => by rw [mixR_at o2.1 hf.1, o2.2 i hi, hf.2 i hi]; omega⟩
  have f2 : Flat (p + 1) w (mixR (-c2) c1 h left) := ⟨mixR_len o2.1 hf.1, fun i hi => by
    rw [mixR_at o2.1 hf.1]
    by_cases hip : i = p
    · rw [hip, e1, e2, Int.neg_mul, Int.mul_left_comm c1 c2 gg]; omega
    · rw [o2.2 i (by omega), hf.2 i (by omega)]; omega⟩
  refine ⟨f1, by rw [mixR_at o2.1 hf.1, ← D.eq], f2, ?_⟩
  have w2 := cons_wide hf.1 G.wide
  have w1 : Wide w (mixR (-c2) c1 h left :: rowsOf w (gset g p (mixR x y h left))) := cons_wide f2.1 fun b hb => by
    rcases (rows_set o1).mp hb with e | ⟨q, _, _, e⟩
    · rw [e]; exact f1.1
    · exact (G.ok q b e).2.1.1
  have sh : Sp w (left :: rowsOf w g) h := Sp.self w2 (List.mem_cons_of_mem _ (G.mem hg))
  have sl : Sp w (left :: rowsOf w g) left := Sp.self w2 List.mem_cons_self
  have sn : Sp w (mixR (-c2) c1 h left :: rowsOf w (gset g p (mixR x y h left))) (mixR x y h left) := Sp.self w1 (List.mem_cons_of_mem _ ((rows_set o1).mpr (.inl rfl)))
  have sa : Sp w (mixR (-c2) c1 h left :: rowsOf w (gset g p (mixR x y h left))) (mixR (-c2) c1 h left) := Sp.self w1 List.mem_cons_self
  have bh : mixR c1 (-y) (mixR x y h left) (mixR (-c2) c1 h left) = h := by
    refine row_ext' (w := w) (mixR_len f1.1 f2.1) o2.1 fun i hi => ?_
    rw [mixR_at f1.1 f2.1, mixR_at o2.1 hf.1, mixR_at o2.1 hf.1]
    have e : c1 * (x * at0 h i + y * at0 left i) + -y * (-c2 * at0 h i + c1 * at0 left i) = (x * c1 + y * c2) * at0 h i := by
      rw [Int.mul_add, Int.mul_add, Int.add_mul, Int.neg_mul, Int.neg_mul, Int.neg_mul, Int.mul_neg, ← Int.mul_assoc, ← Int.mul_assoc, ← Int.mul_assoc, ← Int.mul_assoc, Int.mul_comm c1 x, Int.mul_comm c1 y]
      omega
    rw [e, det]; omega
  have bl : mixR c2 x (mixR x y h left) (mixR (-c2) c1 h left) = left := by
    refine row_ext' (w := w) (mixR_len f1.1 f2.1) hf.1 fun i hi => ?_
    rw [mixR_at f1.1 f2.1, mixR_at o2.1 hf.1, mixR_at o2.1 hf.1]
    have e : c2 * (x * at0 h i + y * at0 left i) + x * (-c2 * at0 h i + c1 * at0 left i) = (x * c1 + y * c2) * at0 left i := by
      rw [Int.mul_add, Int.mul_add, Int.add_mul, Int.neg_mul, Int.mul_neg, ← Int.mul_assoc, ← Int.mul_assoc, ← Int.mul_assoc, ← Int.mul_assoc, Int.mul_comm c2 x, Int.mul_comm c2 y]
      omega
    rw [e, det]; omega
  refine ⟨fun b hb => ?_, fun b hb => ?_⟩
  · rcases List.mem_cons.mp hb with e | e
    · rw [e]; exact mixR_sp w2 sh sl
    · rcases (rows_set o1).mp e with e | ⟨q, h1, h2, e⟩
      · rw [e]; exact mixR_sp w2 sh sl
      · exact Sp.self w2 (List.mem_cons_of_mem _ (G.mem e))
  · rcases List.mem_cons.mp hb with e | e
    · rw [e]
      have := mixR_sp w1 (a := c2) (b := x) sn sa
      rw [bl] at this; exact this
    · obtain ⟨q, hq, e⟩ := mem_rowsOf.mp e
      by_cases hqp : q = p
      · rw [hqp, hg] at e
        have := mixR_sp w1 (a := c1) (b := -y) sn sa
        rw [bh] at this
        rw [← Option.some.inj e]; exact this
      · exact Sp.self w1 (List.mem_cons_of_mem _ ((rows_set o1).mpr (.inr ⟨q, hq, hqp, e⟩)))
/-- a new place -/
theorem step_new {w P p : Nat} {g : Hg} {left : List Int} (G : GI w P g) (hp : p < w) (hg : g p = none) (hf : Flat p w left) : Eqv w (rowsOf w (gset g p (upR p left))) (left :: rowsOf w g) := by
  obtain ⟨s, p1, p2⟩ := upR_plus (j := p) hf.1
  have hu : (upR p left).length = w := by rw [p1, plus_len (by rw [zeros_len, hf.1])]; exact zeros_len w
  have w2 := cons_wide hf.1 G.wide
  have w1 : Wide w (rowsOf w (gset g p (upR p left))) := fun b hb => by
    rcases (rows_set hp).mp hb with e | ⟨q, _, _, e⟩
    · rw [e]; exact hu
    · exact (G.ok q b e).2.1.1
  refine ⟨fun b hb => ?_, fun b hb => ?_⟩
  · rcases (rows_set hp).mp hb with e | ⟨q, h1, h2, e⟩
    · rw [e, p1]; exact .add s .zero List.mem_cons_self
    · exact Sp.self w2 (List.mem_cons_of_mem _ (G.mem e))
  · rcases List.mem_cons.mp hb with e | e
    · have := Sp.add (w := w) (B := rowsOf w (gset g p (upR p left))) s .zero ((rows_set hp).mpr (.inl rfl))
      rw [← p2] at this
      rw [e]; exact this
    · obtain ⟨q, hq, e⟩ := mem_rowsOf.mp e
      exact Sp.self w1 ((rows_set hp).mpr (.inr ⟨q, hq, (fun k => (by rw [k, hg] at e; cases e)), e⟩))
theorem step_end {w P : Nat} {g : Hg} {left : List Int} (G : GI w P g) (hf : Flat w w left) : Eqv w (rowsOf w g) (left :: rowsOf w g) := by
  have w2 := cons_wide hf.1 G.wide
  have e0 : left = zeros w := row_ext' (w := w) hf.1 (zeros_len w) fun j hj => by rw [zeros_at]; exact hf.2 j hj
  refine ⟨fun b hb => Sp.self w2 (List.mem_cons_of_mem _ hb), fun b hb => ?_⟩
  rcases List.mem_cons.mp hb with e | e
  · rw [e, e0]; exact .zero
  · exact Sp.self G.wide e
/-- what lies in the span of the rows held is a multiple of the first -/
theorem sp_held {w P p : Nat} {g : Hg} (G : GI w P g) : ∀ (n s : Nat) (v : List Int), s + n = w → s ≤ p → p < w → Sp w ((List.range' s n).filterMap g) v → (∀ i, i < p → at0 v i = 0) → (g p = none → at0 v p = 0) ∧ ∀ h, g p = some h → ∃ m, at0 v p = m * at0 h p
  | 0, s, v, hn, hs, hp, _, _ => by omega
  | n + 1, s, v, hn, hs, hp, hv, hz => by
    rw [List.range'_succ] at hv
    have wt : ∀ s n, Wide w ((List.range' s n).filterMap g) := fun s n b hb => by
      obtain ⟨q, _, e⟩ := List.mem_filterMap.mp hb
      exact (G.ok q b e).2.1.1
    have zt : ∀ (s n i : Nat), i < s → ∀ b ∈ (List.range' s n).filterMap g, at0 b i = 0 := fun s n i hi b hb => by
      obtain ⟨q, hq, e⟩ := List.mem_filterMap.mp hb
      exact (G.ok q b e).2.1.2 i (by have := (List.mem_range'_1.mp hq).1; omega)
    cases hg : g s with
    | none =>
      rw [List.filterMap_cons_none hg] at hv
      by_cases hsp : s = p
      · subst hsp
        refine ⟨fun _ => hv.zero_at (wt _ _) (zt _ _ s (by omega)), fun h k => ?_⟩
        rw [hg] at k; cases k
      · exact sp_held G n (s + 1) v (by omega) (by omega) hp hv hz
    | some h =>
      rw [List.filterMap_cons_some hg] at hv
      obtain ⟨o1, o2, o3, o4⟩ := G.ok s h hg
      have wc : Wide w (h :: (List.range' (s + 1) n).filterMap g) := cons_wide o2.1 (wt _ _)
      obtain ⟨m, u, hu, e⟩ := hv.split wc
      have lu := hu.len (wt _ _)
      have us : at0 u s = 0 := hu.zero_at (wt _ _) (zt _ _ s (by omega))
      by_cases hsp : s = p
      · subst hsp
        refine ⟨fun k => (by rw [hg] at k; cases k), fun h' k => ?_⟩
        rw [hg] at k
        have k := Option.some.inj k
        subst k
        exact ⟨m, by rw [e, plus_at (by rw [lu, o2.1]), us]; omega⟩
      · have vs := hz s (by omega)
        rw [e, plus_at (by rw [lu, o2.1]), us] at vs
        have hm : m = 0 := by
          rcases Int.mul_eq_zero.mp (show m * at0 h s = 0 by omega) with k | k
          · exact k
          · omega
        subst hm
        have evu : v = u := by
          rw [e]
          apply row_ext
          · rw [plus_len (by rw [lu, o2.1])]
          · intro j
            rw [plus_at (by rw [lu, o2.1])]; omega
        rw [evu]
        exact sp_held G n (s + 1) u (by omega) (by omega) hp hu fun i hi => by rw [← evu]; exact hz i hi
theorem sp_rows {w P p : Nat} {g : Hg} (G : GI w P g) {v : List Int} (hp : p < w) (hv : Sp w (rowsOf w g) v) (hz : ∀ i, i < p → at0 v i = 0) : (g p = none → at0 v p = 0) ∧ ∀ h, g p = some h → ∃ m, at0 v p = m * at0 h p := by
  refine sp_held G w 0 v (by omega) (by omega) hp ?_ hz
  unfold rowsOf at hv
  rw [List.range_eq_range'] at hv
  exact hv
end K25

set_option exponentiation.threshold 300
namespace K25
open K26
/-! the numbers of the reduced form are not great -/
/-- what is left of r where f has its lead: without division -/
def crossR (j : Nat) (f r : List Int) : List Int := mixR (-(at0 r j)) (at0 f j) f r
theorem cross_flat {j w : Nat} {f r : List Int} (hf : Flat j w f) (hr : Flat j w r) : Flat (j + 1) w (crossR j f r) := ⟨mixR_len hf.1 hr.1, fun i hi => by
  unfold crossR
  rw [mixR_at hf.1 hr.1]
  by_cases hij : i = j
  · rw [hij, Int.neg_mul, Int.mul_comm (at0 f j)]; omega
  · rw [hf.2 i (by omega), hr.2 i (by omega)]; omega⟩
theorem cross_small {j w b : Nat} {f r : List Int} (hf : f.length = w) (hr : r.length = w) (h1 : Small (2 ^ b) f) (h2 : Small (2 ^ b) r) : Small (2 ^ (2 * b + 1)) (crossR j f r) := by
  have := mixR_small (a := -(at0 r j)) (b := at0 f j) (A := b) (B := b) (P := b) (Q := b) hf hr (by rw [Int.natAbs_neg]; exact at_small h2 j) (at_small h1 j) h1 h2 rfl
  rw [show 2 * b + 1 = b + b + 1 by omega]
  exact this
theorem cross_zero {j w : Nat} {f : List Int} (hf : f.length = w) : crossR j f (zeros w) = zeros w := row_ext' (w := w) (mixR_len hf (zeros_len w)) (zeros_len w) fun i hi => by
  unfold crossR
  rw [mixR_at hf (zeros_len w), zeros_at, zeros_at]; omega
theorem cross_self {j w : Nat} {f : List Int} (hf : f.length = w) : crossR j f f = zeros w := row_ext' (w := w) (mixR_len hf hf) (zeros_len w) fun i hi => by
  unfold crossR
  rw [mixR_at hf hf, zeros_at, Int.neg_mul]; omega
theorem cross_plus {j w : Nat} {f v b : List Int} {t : Int} (hf : f.length = w) (hv : v.length = w) (hb : b.length = w) : crossR j f (plus v b t) = plus (crossR j f v) (crossR j f b) t := by
  have l1 : (plus v b t).length = w := by rw [plus_len (by omega)]; exact hv
  have l2 : (crossR j f v).length = w := mixR_len hf hv
  have l3 : (crossR j f b).length = w := mixR_len hf hb
  refine row_ext' (w := w) (mixR_len hf l1) (by rw [plus_len (by omega)]; exact l2) fun i hi => ?_
  rw [plus_at (by omega)]
  unfold crossR
  rw [mixR_at hf l1, mixR_at hf hv, mixR_at hf hb, plus_at (by omega), plus_at (by omega)]
  generalize at0 f j = fj
  generalize at0 f i = fi
  generalize at0 v j = vj
  generalize at0 v i = vi
  generalize at0 b j = bj
  generalize at0 b i = bi
  simp only [Int.mul_add, Int.add_mul, Int.neg_mul, Int.neg_add, Int.mul_neg, Int.mul_left_comm fj t bi, Int.mul_assoc]
  omega
theorem cross_sp {j w : Nat} {f : List Int} {S T : List (List Int)} (hf : f.length = w) (hS : Wide w S) (hT : Wide w T) (h : ∀ b ∈ S, Sp w T (crossR j f b)) {v : List Int} (hv : Sp w S v) : Sp w T (crossR j f v) := by
  induction hv with
  | zero => rw [cross_zero hf]; exact .zero
  | add t h1 hb ih => rw [cross_plus hf (h1.len hS) (hS _ hb)]; exact ih.plus hT (h _ hb) t
def Gb : Nat → Nat → Nat
  | 0, _ => 0
  | m + 1, b => max b (Gb m (2 * b + 1))
def Cb : Nat → Nat → Nat
  | 0, _ => 0
  | m + 1, b => Cb m (2 * b + 1) + b + 2
theorem sp_nil {w : Nat} {v : List Int} (h : Sp w [] v) : v = zeros w := by
  cases h with
  | zero => rfl
  | add t h hb => cases hb
theorem find_isN {j : Nat} : ∀ S : List (List Int), (∃ f ∈ S, isN j f = true) ∨ ∀ r ∈ S, at0 r j = 0
  | [] => .inr fun r h => (by cases h)
  | r :: S => by
    cases hq : isN j r with
    | true => exact .inl ⟨r, List.mem_cons_self, hq⟩
    | false =>
      rcases find_isN (j := j) S with ⟨f, h1, h2⟩ | h
      · exact .inl ⟨f, List.mem_cons_of_mem _ h1, h2⟩
      · refine .inr fun r' h' => ?_
        rcases List.mem_cons.mp h' with e | e
        · rw [e]; simpa [isN] using hq
        · exact h r' e
theorem filter_lt {α : Type} {p : α → Bool} {x : α} : ∀ {l : List α}, x ∈ l → p x = false → (l.filter p).length < l.length
  | [], h, _ => by cases h
  | y :: l, h, hp => by
    rw [List.filter_cons, List.length_cons]
    rcases List.mem_cons.mp h with e | e
    · subst e
      rw [hp]
      have := List.length_filter_le p l
      simp; omega
    · have := filter_lt e hp
      split
      · rw [List.length_cons]; omega
      · omega
theorem isZ_zeros (w : Nat) : isZ (zeros w) = false := by
  have : ((zeros w).filter fun x => decide (¬ x = 0)) = [] := by
    rw [List.filter_eq_nil_iff]
    intro x hx
    rw [List.eq_of_mem_replicate hx]; simp
  show decide (¬ ((zeros w).filter fun x => decide (¬ x = 0)) = []) = false
  rw [this]; rfl
/-- where the numbers at the leads stay below X, all stay below X times so much -/
theorem rel_bound {w G : Nat} {S0 : List (List Int)} (hS0 : Wide w S0) : ∀ (n j m b X : Nat) (S : List (List Int)) (v : List Int), j + n = w → (∀ r ∈ S, Flat j w r ∧ Small (2 ^ b) r) → S.length ≤ m → Gb m b ≤ G → Sub w S S0 → Sp w S v →
    (∀ p f, Sp w S0 f → Flat p w f → at0 f p ≠ 0 → Small (2 ^ G) f → (at0 v p).natAbs ≤ X) → Small (X * 2 ^ Cb m b) v
  | 0, j, m, b, X, S, v, hj, hS, hm, hG, hsub, hv, hX => by
    have hW : Wide w S := fun r hr => (hS r hr).1.1
    have e : v = zeros w := row_ext' (w := w) (hv.len hW) (zeros_len w) fun i hi => by
      rw [zeros_at]
      exact hv.zero_at hW fun r hr => (hS r hr).1.2 i (by omega)
    rw [e]
    intro x hx
    rw [List.eq_of_mem_replicate hx]
    exact Nat.zero_le _
  | n + 1, j, m, b, X, S, v, hj, hS, hm, hG, hsub, hv, hX => by
    have hW : Wide w S := fun r hr => (hS r hr).1.1
    rcases find_isN (j := j) S with ⟨f, hf, hq⟩ | h0
    · have f0 : at0 f j ≠ 0 := by simpa [isN] using hq
      obtain ⟨ff, fs⟩ := hS f hf
      obtain ⟨m', rfl⟩ : ∃ m', m = m' + 1 := ⟨m - 1, by have := List.length_pos_iff.mpr (List.ne_nil_of_mem hf); omega⟩
      have hGb : b ≤ G := Nat.le_trans (Nat.le_max_left _ _) hG
      have hGm : Gb m' (2 * b + 1) ≤ G := Nat.le_trans (Nat.le_max_right _ _) hG
      have hS' : ∀ r ∈ (S.map (crossR j f)).filter isZ, Flat (j + 1) w r ∧ Small (2 ^ (2 * b + 1)) r := fun r hr => by
        obtain ⟨o, ho, e⟩ := List.mem_map.mp (List.mem_filter.mp hr).1
        rw [← e]
        exact ⟨cross_flat ff (hS o ho).1, cross_small ff.1 (hW o ho) fs (hS o ho).2⟩
      have hW' : Wide w ((S.map (crossR j f)).filter isZ) := fun r hr => (hS' r hr).1.1
      have hlen : ((S.map (crossR j f)).filter isZ).length ≤ m' := by
        have := filter_lt (l := S.map (crossR j f)) (p := isZ) (List.mem_map_of_mem hf) (by rw [cross_self ff.1]; exact isZ_zeros w)
        rw [List.length_map] at this
        omega
      have sf : Sp w S0 f := hsub f hf
      have hsub' : Sub w ((S.map (crossR j f)).filter isZ) S0 := fun r hr => by
        obtain ⟨o, ho, e⟩ := List.mem_map.mp (List.mem_filter.mp hr).1
        rw [← e]
        exact mixR_sp hS0 sf (hsub o ho)
      have hv' : Sp w ((S.map (crossR j f)).filter isZ) (crossR j f v) := cross_sp ff.1 hW hW' (fun o ho => by
        cases hz : isZ (crossR j f o) with
        | true => exact Sp.self hW' (List.mem_filter.mpr ⟨List.mem_map_of_mem ho, hz⟩)
        | false => (have e := isZ_false (r := crossR j f o) (mixR_len ff.1 (hW o ho)) hz; rw [e]; exact .zero)) hv
      have hvl := hv.len hW
      have xj : (at0 v j).natAbs ≤ X := hX j f sf ff f0 (fs.mono (Nat.pow_le_pow_right (by decide) hGb))
      have cr : ∀ i, (at0 (crossR j f v) i) = at0 f j * at0 v i - at0 v j * at0 f i := fun i => by
        unfold crossR
        rw [mixR_at ff.1 hvl, Int.neg_mul]; omega
      have ih := rel_bound hS0 n (j + 1) m' (2 * b + 1) (((at0 f j).natAbs + 2 ^ b) * X) _ _ (by omega) hS' hlen hGm hsub' hv' fun p f' h1 h2 h3 h4 => by
        rw [cr]
        have t1 : (at0 f j * at0 v p - at0 v j * at0 f p).natAbs ≤ (at0 f j).natAbs * (at0 v p).natAbs + (at0 v j).natAbs * (at0 f p).natAbs := by
          rw [← Int.natAbs_mul, ← Int.natAbs_mul]; omega
        have t2 : (at0 f j).natAbs * (at0 v p).natAbs ≤ (at0 f j).natAbs * X := Nat.mul_le_mul_left _ (hX p f' h1 h2 h3 h4)
        have t3 : (at0 v j).natAbs * (at0 f p).natAbs ≤ X * 2 ^ b := Nat.mul_le_mul xj (at_small fs p)
        rw [Nat.add_mul, Nat.mul_comm (2 ^ b) X]
        omega
      intro x hx
      obtain ⟨i, hi, e⟩ := mem_at hx
      rw [← e]
      have h1 := at_small ih i
      rw [cr] at h1
      have f1 : 1 ≤ (at0 f j).natAbs := by omega
      generalize hF : (at0 f j).natAbs = F at *
      have t1 : F * (at0 v i).natAbs ≤ (at0 f j * at0 v i - at0 v j * at0 f i).natAbs + (at0 v j).natAbs * (at0 f i).natAbs := by
        rw [← hF, ← Int.natAbs_mul, ← Int.natAbs_mul]; omega
      have t2 : (at0 v j).natAbs * (at0 f i).natAbs ≤ X * 2 ^ b := Nat.mul_le_mul xj (at_small fs i)
      -- F * |v i| ≤ F * (X * 2 ^ (c + b + 2))
      have goal : F * (at0 v i).natAbs ≤ F * (X * 2 ^ (Cb m' (2 * b + 1) + b + 2)) := by
        generalize Cb m' (2 * b + 1) = c at *
        have p1 : 1 ≤ 2 ^ c := Nat.one_le_two_pow
        have p2 : 1 ≤ 2 ^ b := Nat.one_le_two_pow
        have e1 : 2 ^ (c + b + 2) = 4 * (2 ^ c * 2 ^ b) := by rw [Nat.pow_add, Nat.pow_add, Nat.mul_comm]
        rw [e1]
        generalize 2 ^ c = A at *
        generalize 2 ^ b = B at *
        have q1 : (F + B) * X * A ≤ F * (X * (A * B)) + F * (X * (A * B)) := by
          rw [Nat.add_mul, Nat.add_mul]
          have s1 : F * X * A ≤ F * (X * (A * B)) := by
            rw [Nat.mul_assoc]
            exact Nat.mul_le_mul_left _ (Nat.mul_le_mul_left _ (Nat.le_mul_of_pos_right _ p2))
          have s2 : B * X * A ≤ F * (X * (A * B)) := by
            have : B * X * A = X * (A * B) := by rw [Nat.mul_comm B X, Nat.mul_assoc, Nat.mul_comm B A]
            rw [this]
            exact Nat.le_mul_of_pos_left _ f1
          omega
        have q2 : X * B ≤ F * (X * (A * B)) := by
          have : X * B ≤ X * (A * B) := Nat.mul_le_mul_left _ (Nat.le_mul_of_pos_left _ p1)
          exact Nat.le_trans this (Nat.le_mul_of_pos_left _ f1)
        have q3 : F * (X * (4 * (A * B))) = 4 * (F * (X * (A * B))) := by
          rw [Nat.mul_left_comm X 4, Nat.mul_left_comm F 4]
        rw [q3]
        omega
      exact Nat.le_of_mul_le_mul_left goal f1
    · refine rel_bound hS0 n (j + 1) m b X S v (by omega) (fun r hr => ⟨⟨(hS r hr).1.1, fun i hi => ?_⟩, (hS r hr).2⟩) hm hG hsub hv hX
      by_cases hij : i = j
      · rw [hij]; exact h0 r hr
      · exact (hS r hr).1.2 i (by omega)
/-- the lead of what a reduced form spans -/
theorem hnf_lead {w p : Nat} : ∀ {H : List (List Int)}, Hnf w H → ∀ {v : List Int}, Sp w H v → (∀ i, i < p → at0 v i = 0) → at0 v p ≠ 0 → ∃ b ∈ H, leadFrom 0 b = some p ∧ ∃ m, at0 v p = m * at0 b p
  | [], _, v, hv, _, h0 => by rw [sp_nil hv, zeros_at] at h0; exact absurd rfl h0
  | b :: t, h, v, hv, hz, h0 => by
    have hW := h.wide
    have hh := h
    obtain ⟨l1, ⟨q, h2, h3, h4⟩, h5⟩ := h
    obtain ⟨s1, s2, s3, s4⟩ := lead_spec b 0 q h2
    obtain ⟨z1, m, e1⟩ := hh.lead_in h2 hv
    rcases Nat.lt_trichotomy q p with k | k | k
    · obtain ⟨m', u, hu, e⟩ := hv.split hW
      have lu := hu.len h5.wide
      have uq : at0 u q = 0 := hu.zero_at h5.wide fun c hc => (h4 c hc).1 q (Nat.le_refl q)
      have vq := hz q k
      rw [e, plus_at (by rw [lu, l1]), uq] at vq
      have hm : m' = 0 := by
        rcases Int.mul_eq_zero.mp (show m' * at0 b q = 0 by omega) with z | z
        · exact z
        · omega
      subst hm
      have evu : v = u := by
        rw [e]
        apply row_ext
        · rw [plus_len (by rw [lu, l1])]
        · intro j
          rw [plus_at (by rw [lu, l1])]; omega
      obtain ⟨c, hc, r1, r2⟩ := hnf_lead h5 (v := u) hu (fun i hi => by rw [← evu]; exact hz i hi) (by rw [← evu]; exact h0)
      exact ⟨c, List.mem_cons_of_mem _ hc, r1, by rw [evu]; exact r2⟩
    · subst k
      exact ⟨b, List.mem_cons_self, h2, m, e1⟩
    · exact absurd (z1 p k) h0
theorem hnf_col {w p : Nat} : ∀ {H : List (List Int)}, Hnf w H → ∀ {b c : List Int}, b ∈ H → c ∈ H → leadFrom 0 b = some p → (at0 c p).natAbs ≤ (at0 b p).natAbs
  | [], _, b, c, hb, _, _ => by cases hb
  | a :: t, ⟨l1, ⟨q, h2, h3, h4⟩, h5⟩, b, c, hb, hc, hp => by
    rcases List.mem_cons.mp hb with e | e
    · subst e
      rw [h2] at hp
      have eq := Option.some.inj hp
      subst eq
      rcases List.mem_cons.mp hc with e | e
      · rw [e]; exact Nat.le_refl _
      · rw [(h4 c e).1 q (Nat.le_refl q)]; exact Nat.zero_le _
    · rcases List.mem_cons.mp hc with e' | e'
      · subst e'
        have := (h4 b e).2 p hp
        omega
      · exact hnf_col h5 e e' hp
/-- rows of numbers up to 20, of which some are told gr times over: the numbers of their reduced form -/
theorem hnf_small {w : Nat} {S0 H : List (List Int)} {gr : Int} (hS : ∀ r ∈ S0, r.length = w ∧ Small (2 ^ 5) r) (h5 : S0.length ≤ 6) (hH : Hnf w H) (hg0 : gr ≠ 0) (hg : gr.natAbs ≤ 2 ^ 127) (h1 : Sub w H S0) (h2 : ∀ f, Sp w S0 f → Sp w H (plus (zeros w) f gr)) : ∀ c ∈ H, Small (2 ^ 1000) c := by
  have hW : Wide w S0 := fun r hr => (hS r hr).1
  intro c hc
  have hr := rel_bound (w := w) (G := 191) hW w 0 6 5 (2 ^ 318) S0 c (by omega) (fun r hr => ⟨⟨(hS r hr).1, fun i hi => absurd hi (Nat.not_lt_zero _)⟩, (hS r hr).2⟩) h5 (by decide) (Sub.refl hW) (h1 c hc) fun p f sf ff f0 fs => by
    have hsp := h2 f sf
    have ev : ∀ i, at0 (plus (zeros w) f gr) i = gr * at0 f i := fun i => by rw [plus_at (by rw [zeros_len, ff.1]), zeros_at]; omega
    obtain ⟨b, hb, lb, m, em⟩ := hnf_lead (p := p) hH hsp (fun i hi => by rw [ev, ff.2 i hi]; omega) (by
      rw [ev]
      intro k
      rcases Int.mul_eq_zero.mp k with z | z
      · exact hg0 z
      · exact f0 z)
    refine Nat.le_trans (hnf_col hH hb hc lb) ?_
    have hm : m ≠ 0 := by
      intro k
      rw [k, ev, Int.zero_mul] at em
      rcases Int.mul_eq_zero.mp em with z | z
      · exact hg0 z
      · exact f0 z
    have t : (at0 b p).natAbs ≤ (m * at0 b p).natAbs := by
      rw [Int.natAbs_mul]; exact Nat.le_mul_of_pos_left _ (by omega)
    rw [← em, ev, Int.natAbs_mul] at t
    refine Nat.le_trans t ?_
    have t2 : gr.natAbs * (at0 f p).natAbs ≤ 2 ^ 127 * 2 ^ 191 := Nat.mul_le_mul hg (at_small fs p)
    rw [← Nat.pow_add] at t2
    exact t2
  refine hr.mono ?_
  rw [← Nat.pow_add]
  exact Nat.pow_le_pow_right (by decide) (by decide)
end K25

set_option exponentiation.threshold 300
namespace K25
open K26
/-! rows held and all made small: the reduced form -/
theorem flat_lead {w p : Nat} {r : List Int} (hf : Flat p w r) (hp : p < w) (h : 0 < at0 r p) : leadFrom 0 r = some p := lead_some (by rw [hf.1]; exact hp) (by omega) hf.2
def Reds (g : Hg) (p : Nat) : Prop := ∀ q h, p ≤ q → g q = some h → ∀ q' h', q < q' → g q' = some h' → 0 ≤ at0 h q' ∧ at0 h q' < at0 h' q'
theorem hnf_from {w P : Nat} {g : Hg} (G : GI w P g) : ∀ (n s : Nat), s + n = w → Reds g s → Hnf w ((List.range' s n).filterMap g)
  | 0, s, _, _ => trivial
  | n + 1, s, hn, hR => by
    rw [List.range'_succ]
    have ih := hnf_from G n (s + 1) (by omega) fun q h hq => hR q h (by omega)
    cases hg : g s with
    | none => rw [List.filterMap_cons_none hg]; exact ih
    | some b =>
      rw [List.filterMap_cons_some hg]
      obtain ⟨o1, o2, o3, o4⟩ := G.ok s b hg
      refine ⟨o2.1, ⟨s, flat_lead o2 o1 o3, o3, fun b' hb' => ?_⟩, ih⟩
      obtain ⟨q, hq, e⟩ := List.mem_filterMap.mp hb'
      have hsq := (List.mem_range'_1.mp hq).1
      obtain ⟨p1, p2, p3, p4⟩ := G.ok q b' e
      refine ⟨fun i hi => p2.2 i (by omega), fun q' hq' => ?_⟩
      rw [flat_lead p2 p1 p3] at hq'
      have eq := Option.some.inj hq'
      subst eq
      exact hR s b (Nat.le_refl s) hg q b' (by omega) e
theorem hnf_rows {w P : Nat} {g : Hg} (G : GI w P g) (hR : Reds g 0) : Hnf w (rowsOf w g) := by
  unfold rowsOf
  rw [List.range_eq_range']
  exact hnf_from G w 0 (by omega) hR
theorem tidyR_congr {g g' : Hg} : ∀ {os : List Nat} {r : List Int}, (∀ o ∈ os, g o = g' o) → tidyR g os r = tidyR g' os r
  | [], r, _ => rfl
  | o :: os, r, h => by
    have e := h o List.mem_cons_self
    rw [tidyR, tidyR, e]
    cases g' o with
    | none => exact tidyR_congr fun x hx => h x (List.mem_cons_of_mem _ hx)
    | some b => exact tidyR_congr fun x hx => h x (List.mem_cons_of_mem _ hx)
theorem cntIn_congr {g g' : Hg} {os : List Nat} (h : ∀ o ∈ os, g o = g' o) : cntIn g os = cntIn g' os := by
  unfold cntIn
  induction os with
  | nil => rfl
  | cons o os ih =>
    rw [List.filter_cons, List.filter_cons, h o List.mem_cons_self]
    split
    · rw [List.length_cons, List.length_cons, ih fun x hx => h x (List.mem_cons_of_mem _ hx)]
    · exact ih fun x hx => h x (List.mem_cons_of_mem _ hx)
/-- all from p on made small; then p, too -/
theorem tidy_down {w P p : Nat} {g : Hg} (G : GI w P g) (hR : Reds g (p + 1)) (hp : p < w) : Reds (tidyG w g p) p ∧ GI w (P + cntIn g (List.range' (p + 1) (w - (p + 1))) * (P + 2)) (tidyG w g p) ∧ Eqv w (rowsOf w (tidyG w g p)) (rowsOf w g) ∧ ∀ q, (tidyG w g p q).isSome = (g q).isSome := by
  cases hg : g p with
  | none =>
    have et : tidyG w g p = g := by unfold tidyG; rw [hg]
    rw [et]
    refine ⟨fun q h hq e => ?_, G.mono (by omega), ⟨Sub.refl G.wide, Sub.refl G.wide⟩, fun q => rfl⟩
    by_cases hqp : q = p
    · rw [hqp, hg] at e; cases e
    · exact hR q h (by omega) e
  | some r =>
    obtain ⟨o1, o2, o3, o4⟩ := G.ok p r hg
    obtain ⟨t1, t2, t3, t4, t5⟩ := tidy_spec G (w - (p + 1)) (p + 1) r P (by omega) o2 o4
    have hE := tidy_eqv G o1 o2 o3 o4 [] (fun b hb => by cases hb)
    rw [List.nil_append, List.nil_append] at hE
    have eg : gset g p r = g := by
      funext q
      rw [gset_at]
      by_cases hq : q = p
      · rw [if_pos hq, hq, hg]
      · rw [if_neg hq]
    rw [eg] at hE
    have et : tidyG w g p = gset g p (tidyR g (List.range' (p + 1) (w - (p + 1))) r) := by unfold tidyG; rw [hg]
    rw [et]
    refine ⟨fun q h hq e q' h' hqq e' => ?_, (G.mono (by omega)).set o1 t1 (by rw [t2 p (by omega)]; exact o3) t4, hE, fun q => ?_⟩
    · rw [gset_at] at e e'
      rw [if_neg (by omega)] at e'
      by_cases hqp : q = p
      · rw [if_pos hqp] at e
        have e := Option.some.inj e
        subst e
        exact t3 q' h' (by omega) (by have := (G.ok q' h' e').1; omega) e'
      · rw [if_neg hqp] at e
        exact hR q h (by omega) e q' h' hqq e'
    · rw [gset_at]
      by_cases hqp : q = p
      · rw [if_pos hqp, hqp, hg]; rfl
      · rw [if_neg hqp]
theorem cntIn_app {g : Hg} {a b : List Nat} : cntIn g (a ++ b) = cntIn g a + cntIn g b := by
  unfold cntIn
  rw [List.filter_append, List.length_append]
theorem cnt_le {g : Hg} {s n w k : Nat} (h : cntIn g (List.range w) ≤ k) (hs : s + n ≤ w) : cntIn g (List.range' s n) ≤ k := by
  have e : List.range w = List.range' 0 s ++ (List.range' s n ++ List.range' (s + n) (w - (s + n))) := by
    have e2 := List.range'_append_1 (s := 0) (m := s) (n := w - s)
    rw [Nat.zero_add, show s + (w - s) = w by omega] at e2
    rw [List.range_eq_range', List.range'_append_1, show n + (w - (s + n)) = w - s by omega]
    exact e2.symm
  rw [e, cntIn_app, cntIn_app] at h
  omega
theorem cnt_split {g : Hg} {w p : Nat} (hp : p < w) : cntIn g (List.range' p (w - p)) = cntIn g (List.range' (p + 1) (w - (p + 1))) + (if (g p).isSome then 1 else 0) := by
  rw [show w - p = (w - (p + 1)) + 1 by omega, List.range'_succ]
  unfold cntIn
  rw [List.filter_cons]
  split <;> simp
end K25

set_option exponentiation.threshold 300
namespace K25
open K26
/-- rows of numbers up to 20, of which some are told gr times over: the numbers of their reduced form -/
theorem hnf_small5 {w : Nat} {S0 H : List (List Int)} {gr : Int} (hS : ∀ r ∈ S0, r.length = w ∧ Small (2 ^ 5) r) (h5 : S0.length ≤ 5) (hH : Hnf w H) (hg0 : gr ≠ 0) (hg : gr.natAbs ≤ 2 ^ 127) (h1 : Sub w H S0) (h2 : ∀ f, Sp w S0 f → Sp w H (plus (zeros w) f gr)) : ∀ c ∈ H, Small (2 ^ 440) c := by
  have hW : Wide w S0 := fun r hr => (hS r hr).1
  intro c hc
  have hr := rel_bound (w := w) (G := 95) hW w 0 5 5 (2 ^ 222) S0 c (by omega) (fun r hr => ⟨⟨(hS r hr).1, fun i hi => absurd hi (Nat.not_lt_zero _)⟩, (hS r hr).2⟩) h5 (by decide) (Sub.refl hW) (h1 c hc) fun p f sf ff f0 fs => by
    have hsp := h2 f sf
    have ev : ∀ i, at0 (plus (zeros w) f gr) i = gr * at0 f i := fun i => by rw [plus_at (by rw [zeros_len, ff.1]), zeros_at]; omega
    obtain ⟨b, hb, lb, m, em⟩ := hnf_lead (p := p) hH hsp (fun i hi => by rw [ev, ff.2 i hi]; omega) (by
      rw [ev]
      intro k
      rcases Int.mul_eq_zero.mp k with z | z
      · exact hg0 z
      · exact f0 z)
    refine Nat.le_trans (hnf_col hH hb hc lb) ?_
    have hm : m ≠ 0 := by
      intro k
      rw [k, ev, Int.zero_mul] at em
      rcases Int.mul_eq_zero.mp em with z | z
      · exact hg0 z
      · exact f0 z
    have t : (at0 b p).natAbs ≤ (m * at0 b p).natAbs := by
      rw [Int.natAbs_mul]; exact Nat.le_mul_of_pos_left _ (by omega)
    rw [← em, ev, Int.natAbs_mul] at t
    refine Nat.le_trans t ?_
    have t2 : gr.natAbs * (at0 f p).natAbs ≤ 2 ^ 127 * 2 ^ 95 := Nat.mul_le_mul hg (at_small fs p)
    rw [← Nat.pow_add] at t2
    exact t2
  refine hr.mono ?_
  rw [← Nat.pow_add]
  exact Nat.pow_le_pow_right (by decide) (by decide)
end K25

namespace K26
open PySem PySem.Spec L2 StX PyProof.Rows DL
def rowV (r : List Int) : Vl := .tup (r.map .int)
def leadV : Option Nat → Vl
  | some i => .int (i : Int)
  | none => .non
def c_lead : Ct := fun xs μ Q => ∃ (x : Vl) (r : List Int), xs = [x] ∧ sview μ x = some (r.map .int) ∧ Q (leadV (leadFrom 0 r)) μ
def b_lead : DS :=
    (dSeq (dFor (dEnum (dCons (dVar 0) dNil)) (dgTup 2 (dgCons (dgName 1) (dgCons (dgName 2) dgNil))) (dIf (dTest (dOp dNe (dVar 2) (dC (.int 0)))) (dRet (dVar 1)) dNext))
    (dRet (dC .non)))
def numF (k : Nat) : List Vl → List Vl
  | [] => []
  | x :: r => .tup [.int (k : Int), x] :: numF (k + 1) r
theorem numbered_eq (xs : List Vl) : numbered xs = numF 0 xs := by
  have : ∀ (xs : List Vl) (k : Nat), (xs.mapIdx fun i x => Vl.tup [.int ((i + k : Nat) : Int), x]) = numF k xs := by
    intro xs
    induction xs with
    | nil => intro k; rfl
    | cons x r ih =>
      intro k
      rw [List.mapIdx_cons, numF, ← ih (k + 1)]
      congr 1
      · simp
      · congr 1
        funext i x
        have e : i + 1 + k = i + (k + 1) := by omega
        rw [e]
  exact this xs 0
theorem pure_rt {μ : Mu} {Q : DK} {x : Vl} (b : rfb μ.length x = true) (h : Q x μ) : (pureEnds μ Q).rt x μ := ⟨b, ⟨[], by simp⟩, h⟩
theorem rfbs_ints {n : Nat} : ∀ r : List Int, rfbs n (r.map Vl.int) = true
  | [] => by rw [List.map_nil, rfbs]
  | x :: r => by
    rw [List.map_cons, rfbs, rfbs_ints r, rfb] <;> simp
theorem rfb_row {n : Nat} {r : List Int} : rfb n (rowV r) = true := by
  unfold rowV
  rw [rfb]
  exact rfbs_ints r
theorem rfb_lead {n : Nat} {o : Option Nat} : rfb n (leadV o) = true := by
  cases o <;> (unfold leadV; rw [rfb] <;> simp)
theorem l_lead : ∀ xs μ Q, c_lead xs μ Q → xs.length = 1 := by
  intro xs μ Q ⟨x, r, e, _⟩
  subst e; rfl
theorem lead_loop {G : Mu → Prop} {d : DEnds} {μ : Mu} {x : Option Vl} (hG : G μ) (hn : ∀ ρ, d.nx ρ μ → d.rt .non μ) : ∀ (r : List Int) (k : Nat) (o1 o2 : Option Vl), d.rt (leadV (leadFrom k r)) μ → (∀ ρ, d.rt .non μ → d.nx ρ μ) →
    forD G (dgTup 2 (dgCons (dgName 1) (dgCons (dgName 2) dgNil))) (dIf (dTest (dOp dNe (dVar 2) (dC (.int 0)))) (dRet (dVar 1)) dNext) d (numF k (r.map .int)) [x, o1, o2] μ
  | [], k, o1, o2, h, hx => ⟨hG, hx _ h⟩
  | y :: r, k, o1, o2, h, hx => by
    refine ⟨hG, rfl, ?_⟩
    by_cases hy : y = 0
    · subst hy
      refine ⟨rfl, ?_⟩
      exact lead_loop hG hn r (k + 1) _ _ h hx
    · refine ⟨rfl, ?_⟩
      have e : leadFrom k (y :: r) = some k := by rw [leadFrom, if_neg hy]
      rw [e] at h
      have e2 : (decide (y = 0) != true) = true := by simp [hy]
      show (match (decide (y = 0) != true) with
        | true => _
        | false => _)
      rw [e2]
      exact h
theorem r_lead : ∀ xs μ Q, c_lead xs μ Q → b_lead (pureEnds μ Q) (startD ["row", "place", "number"] xs) μ := by
  intro xs μ Q ⟨x, r, e, hx, q⟩
  subst e
  refine ⟨x, r.map .int, rfl, hx, ?_⟩
  rw [numbered_eq]
  have hG : asLong (r.map .int) x μ := by
    cases x with
    | ref k => exact mview_ref (by simpa [sview, lview, mview] using hx)
    | _ => trivial
  exact lead_loop (d := { pureEnds μ Q with nx := fun ρ' μ' => dRet (dC .non) (pureEnds μ Q) ρ' μ' }) hG (fun _ h => h) r 0 none none (pure_rt rfb_lead q) (fun _ h => h)

/-! plus -/
def c_plus : Ct := fun xs μ Q => ∃ (r o : List Int) (t : Int), xs = [rowV r, rowV o, .int t] ∧ (∀ y ∈ o, MulOk t y) ∧ Q (rowV (plus r o t)) μ
def b_plus : DS :=
    (dRet (dCB fTuple (dCons (dLc (dZip (dCons (dVar 0) (dCons (dVar 1) dNil))) (dgTup 2 (dgCons (dgName 3) (dgCons (dgName 4) dgNil))) dYes (dOp dAdd (dVar 3) (dOp dMul (dVar 2) (dVar 4))) [3, 4]) dNil)))
/-- a comprehension whose items are each made by a function -/
theorem lc_map {α : Type} {G : Mu → Prop} {g : DG} {de : DE} {ρ : Rho} {Q : List Vl → Mu → Prop} {μ : Mu} (hG : G μ) (it : α → Vl) (f : α → Vl) : ∀ (xs : List α) (acc : List Vl), (∀ x ∈ xs, ∀ P : DK, P (f x) μ → g (it x) ρ μ fun ρ2 μ2 => de ρ2 μ2 P) → Q (acc ++ xs.map f) μ →
    lcD G g dYes de ρ Q (xs.map it) acc μ
  | [], acc, _, q => ⟨hG, by simpa using q⟩
  | x :: xs, acc, h, q => by
    refine ⟨hG, ?_⟩
    refine h x List.mem_cons_self _ ?_
    exact lc_map hG it f xs (acc ++ [f x]) (fun y hy => h y (List.mem_cons_of_mem _ hy)) (by simpa using q)
theorem zip_rows (r o : List Int) : zipD (r.map .int) (o.map .int) = (r.zip o).map fun p => Vl.tup [.int p.1, .int p.2] := by
  unfold zipD
  rw [List.zip_map, List.map_map]
  rfl
theorem plus_zip (r o : List Int) (t : Int) : ([] : List Vl) ++ (r.zip o).map (fun p => Vl.int (p.1 + t * p.2)) = (plus r o t).map .int := by
  unfold plus
  rw [List.nil_append]
  induction r generalizing o with
  | nil => rfl
  | cons x r ih => cases o with
    | nil => rfl
    | cons y o => 
      rw [List.zip_cons_cons, List.map_cons, ih, List.zipWith_cons_cons, List.map_cons]
theorem r_plus : ∀ xs μ Q, c_plus xs μ Q → b_plus (pureEnds μ Q) (startD ["row", "other", "times", "one", "its"] xs) μ := by
  intro xs μ Q ⟨r, o, t, e, hm, q⟩
  subst e
  refine ⟨_, _, r.map .int, o.map .int, rfl, rfl, rfl, ?_⟩
  rw [zip_rows]
  refine lc_map ⟨trivial, trivial⟩ _ (fun p => Vl.int (p.1 + t * p.2)) _ _ (fun p hp P hP => ?_) ?_
  · exact ⟨rfl, rfl, hm p.2 (List.of_mem_zip hp).2, hP⟩
  · refine .inl ⟨_, _, rfl, rfl, ?_⟩
    have e := plus_zip r o t
    rw [e]
    exact pure_rt rfb_row q
end K26

namespace K26
open PySem PySem.Spec L2 StX PyProof.Rows DL
/-- an own law for for: a rest that is kept -/
theorem forD_inv {G : Mu → Prop} {g : DG} {body : DS} {d : DEnds} (I : List Vl → Rho → Mu → Prop) (hG : ∀ r ρ μ, I r ρ μ → G μ) (hn : ∀ ρ μ, I [] ρ μ → d.nx ρ μ)
    (hs : ∀ x r ρ μ, I (x :: r) ρ μ → ∀ D : DEnds, (∀ ρ' μ', I r ρ' μ' → D.nx ρ' μ') → D.rt = d.rt → (∀ ρ' μ', I r ρ' μ' → D.ct ρ' μ') → g x ρ μ fun ρ2 μ2 => body D ρ2 μ2) : ∀ (xs : List Vl) (ρ : Rho) (μ : Mu), I xs ρ μ → forD G g body d xs ρ μ
  | [], ρ, μ, h => ⟨hG _ _ _ h, hn _ _ h⟩
  | x :: r, ρ, μ, h => ⟨hG _ _ _ h, hs x r ρ μ h _ (fun ρ' μ' h' => forD_inv I hG hn hs r ρ' μ' h') rfl (fun ρ' μ' h' => forD_inv I hG hn hs r ρ' μ' h')⟩
def LeftOk : List (List Int) → List Int → Prop
  | [], _ => True
  | b :: t, v => (∃ p, leadFrom 0 b = some p ∧ p < v.length ∧ (at0 b p).natAbs.log2 < 9000 ∧ ∀ y ∈ b, MulOk (-(quo b v)) y) ∧ LeftOk t (plus v b (-(quo b v)))
theorem atI_at {r : List Int} {p : Nat} (h : p < r.length) : atI (r.map Vl.int) (p : Int) = some (.int (at0 r p)) := by
  unfold atI
  rw [List.length_map]
  unfold ixN
  rw [if_pos (by omega), if_pos (by omega)]
  simp [at0, List.getD_eq_getElem?_getD, List.getElem?_eq_getElem h]
def c_left_of : Ct := fun xs μ Q => ∃ (bs : List (List Int)) (r : List Int), xs = [.tup (bs.map rowV), rowV r] ∧ LeftOk bs r ∧ Q (rowV (leftOf bs r)) μ
def b_left_of : DS :=
    (dSeq (dAsg (dCB fTuple (dCons (dVar 1) dNil)) (dgName 2))
    (dSeq (dFor (dIter (dVar 0)) (dgName 3) (dSeq (dAsg (dCall c_lead (dCons (dVar 3) dNil)) (dgName 4))
    (dAsg (dCall c_plus (dCons (dVar 2) (dCons (dVar 3) (dCons (dNeg (dOp dFdiv (dOp dIx (dVar 2) (dVar 4)) (dOp dIx (dVar 3) (dVar 4)))) dNil)))) (dgName 2))))
    (dRet (dVar 2))))
theorem left_loop {μ : Mu} {d : DEnds} {x y : Option Vl} : ∀ (bs : List (List Int)) (v : List Int) (o3 o4 : Option Vl), LeftOk bs v → (∀ o3 o4, d.nx [x, y, some (rowV (leftOf bs v)), o3, o4] μ) →
    forD (fun _ => True) (dgName 3) (dSeq (dAsg (dCall c_lead (dCons (dVar 3) dNil)) (dgName 4))
    (dAsg (dCall c_plus (dCons (dVar 2) (dCons (dVar 3) (dCons (dNeg (dOp dFdiv (dOp dIx (dVar 2) (dVar 4)) (dOp dIx (dVar 3) (dVar 4)))) dNil)))) (dgName 2))) d (bs.map rowV) [x, y, some (rowV v), o3, o4] μ
  | [], v, o3, o4, _, h => ⟨trivial, h _ _⟩
  | b :: t, v, o3, o4, ⟨⟨p, hp, hl, h9, hm⟩, ht⟩, h => by
    obtain ⟨s1, s2, s3, s4⟩ := lead_spec b 0 p hp
    refine ⟨trivial, _, b, rfl, rfl, ?_⟩
    rw [hp]
    refine ⟨v.map .int, _, rfl, atI_at hl, b.map .int, _, rfl, atI_at (by omega), ⟨s3, h9⟩, ?_⟩
    have L := left_loop (d := d) (x := x) (y := y) t _ (some (rowV b)) (some (leadV (some p))) ht h
    rw [quo_eq (v := v) hp] at L hm
    exact ⟨v, b, _, rfl, hm, L⟩
theorem l_left_of : ∀ xs μ Q, c_left_of xs μ Q → xs.length = 2 := by
  intro xs μ Q ⟨bs, r, e, _⟩
  subst e; rfl
theorem r_left_of : ∀ xs μ Q, c_left_of xs μ Q → b_left_of (pureEnds μ Q) (startD ["basis", "row", "left", "held", "place"] xs) μ := by
  intro xs μ Q ⟨bs, r, e, h, q⟩
  subst e
  refine ⟨_, r.map .int, rfl, rfl, bs.map rowV, rfl, ?_⟩
  exact left_loop bs r _ _ h fun o3 o4 => pure_rt rfb_row q
def c_is_in : Ct := fun xs μ Q => ∃ (bs : List (List Int)) (r : List Int), xs = [.tup (bs.map rowV), rowV r] ∧ LeftOk bs r ∧ Q (.bl (leadFrom 0 (leftOf bs r)).isNone) μ
def b_is_in : DS :=
    (dRet (dOp (dIsN false) (dCall c_lead (dCons (dCall c_left_of (dCons (dVar 0) (dCons (dVar 1) dNil))) dNil)) (dC .non)))
theorem l_is_in : ∀ xs μ Q, c_is_in xs μ Q → xs.length = 2 := by
  intro xs μ Q ⟨bs, r, e, _⟩
  subst e; rfl
theorem rfb_bl {n : Nat} {b : Bool} : rfb n (.bl b) = true := by rw [rfb] <;> simp
theorem r_is_in : ∀ xs μ Q, c_is_in xs μ Q → b_is_in (pureEnds μ Q) (startD ["basis", "row"] xs) μ := by
  intro xs μ Q ⟨bs, r, e, h, q⟩
  subst e
  refine ⟨bs, r, rfl, h, _, leftOf bs r, rfl, rfl, ?_⟩
  cases hl : leadFrom 0 (leftOf bs r) <;> (rw [hl] at q; exact pure_rt rfb_bl q)
def multV (bs : List (List Int)) (r : List Int) : Vl := if (leadFrom 0 (leftOf bs r)).isNone then rowV (mults bs r) else .non
def c_multiples_of : Ct := fun xs μ Q => ∃ (bs : List (List Int)) (r : List Int), xs = [.tup (bs.map rowV), rowV r] ∧ bs.length < 2 ^ 20 ∧ LeftOk bs r ∧ Q (multV bs r) μ
def b_multiples_of : DS :=
    (dSeq (dPar 2 3 (dCons (dCB fTuple (dCons (dVar 1) dNil)) (dCons (dLst dNil) dNil)))
    (dSeq (dFor (dIter (dVar 0)) (dgName 4) (dSeq (dAsg (dCall c_lead (dCons (dVar 4) dNil)) (dgName 5))
    (dSeq (dDrop (dBM mAppend (dVar 3) (dCons (dOp dFdiv (dOp dIx (dVar 2) (dVar 5)) (dOp dIx (dVar 4) (dVar 5))) dNil)))
    (dAsg (dCall c_plus (dCons (dVar 2) (dCons (dVar 4) (dCons (dNeg (dOp dIx (dVar 3) (dNeg (dC (.int 1))))) dNil)))) (dgName 2)))))
    (dRet (dIfE (dTest (dOp (dIsN false) (dCall c_lead (dCons (dVar 2) dNil)) (dC .non))) (dCB fTuple (dCons (dVar 3) dNil)) (dC .non)))))
theorem atI_last {α : Type} (xs : List α) (x : α) : atI (xs ++ [x]) (-1) = some x := by
  unfold atI
  unfold ixN
  rw [List.length_append, List.length_singleton, if_neg (by omega), if_pos (by omega)]
  have e : ((-1 : Int) + ((xs.length + 1 : Nat) : Int)).toNat = xs.length := by omega
  rw [e]
  simp
theorem mult_loop {μ : Mu} {d : DEnds} {x y : Option Vl} : ∀ (bs : List (List Int)) (v : List Int) (ms : List Int) (o3 o4 : Option Vl), ms.length + bs.length < 2 ^ 20 → LeftOk bs v → (∀ o3 o4, d.nx [x, y, some (rowV (leftOf bs v)), some (.ref μ.length), o3, o4] (μ ++ [.lst ((ms ++ mults bs v).map .int)])) →
    forD (fun _ => True) (dgName 4) (dSeq (dAsg (dCall c_lead (dCons (dVar 4) dNil)) (dgName 5))
    (dSeq (dDrop (dBM mAppend (dVar 3) (dCons (dOp dFdiv (dOp dIx (dVar 2) (dVar 5)) (dOp dIx (dVar 4) (dVar 5))) dNil)))
    (dAsg (dCall c_plus (dCons (dVar 2) (dCons (dVar 4) (dCons (dNeg (dOp dIx (dVar 3) (dNeg (dC (.int 1))))) dNil)))) (dgName 2)))) d (bs.map rowV) [x, y, some (rowV v), some (.ref μ.length), o3, o4] (μ ++ [.lst (ms.map .int)])
  | [], v, ms, o3, o4, _, _, h => ⟨trivial, by simpa [mults, leftOf] using h o3 o4⟩
  | b :: t, v, ms, o3, o4, hn, ⟨⟨p, hp, hl, h9, hm⟩, ht⟩, h => by
    obtain ⟨s1, s2, s3, s4⟩ := lead_spec b 0 p hp
    have hat : (μ ++ [Mo.lst (ms.map Vl.int)])[μ.length]? = some (.lst (ms.map .int)) := by simp
    have hsl := sizeLine_eq
    refine ⟨trivial, _, b, rfl, rfl, ?_⟩
    rw [hp]
    refine ⟨by simp [lview], v.map .int, _, rfl, atI_at hl, b.map .int, _, rfl, atI_at (by omega), ⟨s3, h9⟩, ?_⟩
    refine ⟨_, _, .int (quo b v), rfl, by rw [quo_eq (v := v) hp] <;> rfl, hat, by rw [List.length_map]; omega, ?_⟩
    have e : (μ ++ [Mo.lst (ms.map Vl.int)]).set μ.length (.lst (ms.map Vl.int ++ [.int (quo b v)])) = μ ++ [.lst ((ms ++ [quo b v]).map .int)] := by
      rw [List.set_append_right _ _ (Nat.le_refl _), Nat.sub_self]
      simp
    rw [e]
    refine ⟨ms.map .int ++ [.int (quo b v)], _, by simp [sview, lview], atI_last _ _, ?_⟩
    refine ⟨v, b, _, rfl, hm, ?_⟩
    refine mult_loop t _ (ms ++ [quo b v]) _ _ (by simp at hn ⊢; omega) ht fun o3 o4 => ?_
    have := h o3 o4
    rw [mults, leftOf] at this
    simpa using this
theorem l_multiples_of : ∀ xs μ Q, c_multiples_of xs μ Q → xs.length = 2 := by
  intro xs μ Q ⟨bs, r, e, _⟩
  subst e; rfl
theorem rfb_non {n : Nat} : rfb n .non = true := by rw [rfb] <;> simp
theorem r_multiples_of : ∀ xs μ Q, c_multiples_of xs μ Q → b_multiples_of (pureEnds μ Q) (startD ["basis", "row", "left", "found", "held", "place"] xs) μ := by
  intro xs μ Q ⟨bs, r, e, hz, h, q⟩
  subst e
  have hsl := sizeLine_eq
  refine ⟨_, r.map .int, rfl, rfl, by show (0 : Nat) ≤ _; omega, .inr ?_⟩
  refine ⟨bs.map rowV, rfl, ?_⟩
  refine mult_loop bs r [] _ _ (by simpa using hz) h fun o3 o4 => ?_
  refine ⟨_, leftOf bs r, rfl, rfl, ?_⟩
  unfold multV at q
  cases hl : leadFrom 0 (leftOf bs r) with
  | none =>
    rw [hl] at q
    refine ⟨_, (mults bs r).map .int, rfl, by simp [sview, lview], ⟨rfb_row, ⟨_, rfl⟩, q⟩⟩
  | some p =>
    rw [hl] at q
    exact ⟨rfb_non, ⟨_, rfl⟩, q⟩
end K26

namespace K26
open PySem PySem.Spec L2 StX PyProof.Rows DL
theorem vw_ref {μ : Mu} {k : Nat} {xs : List Vl} (h : μ[k]? = some (.lst xs)) : sview μ (.ref k) = some xs := by
  show (match μ[k]? with
    | some (.lst xs) => some xs
    | _ => none) = _
  rw [h]
/-! _law_pick -/
def c__law_pick : Ct := fun xs μ Q => ∃ (k : Nat) (ns : List Int) (a l : Int) (x : Vl) (vs : List Vl), xs = [.ref k, x] ∧ (∀ μ, sview μ x = some vs) ∧ 0 < vs.length ∧ vs.length < 2 ^ 60 ∧ μ[k]? = some (penM ns a l) ∧ (0 ≤ a ∧ a ≤ 1000000) ∧ 0 ≤ l ∧
  ∀ v a' l', v ∈ vs → a ≤ a' → a' ≤ a + 1 → 0 ≤ l' → Q v (μ.set k (penM ns a' l'))
def c__law_draw : Ct := c_draw
def b__law_pick : DS :=
    (dRet (dOp dIx (dVar 1) (dCall c__law_draw (dCons (dVar 0) (dCons (dCB fLen (dCons (dVar 1) dNil)) dNil)))))
theorem l__law_pick : ∀ xs μ Q, c__law_pick xs μ Q → xs.length = 2 := by
  intro xs μ Q ⟨_, _, _, _, _, _, e, _⟩
  subst e; rfl
theorem atI_mem {vs : List Vl} {i : Int} (h1 : 0 ≤ i) (h2 : i < (vs.length : Int)) : ∃ x, x ∈ vs ∧ atI vs i = some x := by
  have hj : i.toNat < vs.length := by omega
  refine ⟨vs[i.toNat], List.getElem_mem hj, ?_⟩
  unfold atI
  unfold ixN
  rw [if_pos h1, if_pos h2]
  simp [hj]
theorem r__law_pick : ∀ xs μ Q, c__law_pick xs μ Q → b__law_pick (spEnds Q) (startD ["pen", "some"] xs) μ := by
  intro xs μ Q ⟨k, ns, a, l, x, vs, e, hx, hn, hn2, hk, ha, hl, q⟩
  subst e
  refine ⟨x, vs, rfl, hx μ, ?_⟩
  refine ⟨k, ns, a, l, (vs.length : Int), rfl, hk, ha, hl, by omega, fun d a' l' h1 h2 h3 h4 h5 => ?_⟩
  obtain ⟨v, hv, e⟩ := atI_mem (vs := vs) (i := d) h1 (by omega)
  exact ⟨vs, v, hx _, e, q v a' l' hv h3 h4 h5⟩
/-! _law_row -/
def c__law_row : Ct := fun xs μ Q => ∃ (k : Nat) (ns : List Int) (a l : Int) (w : Nat), xs = [.ref k, .int (w : Int)] ∧ w ≤ 100 ∧ μ[k]? = some (penM ns a l) ∧ (0 ≤ a ∧ a ≤ 900000) ∧ 0 ≤ l ∧
  ∀ r a' l', r.length = w → (∀ y ∈ r, -20 ≤ y ∧ y ≤ 20) → a ≤ a' → a' ≤ a + 2 * w → 0 ≤ l' → Q (rowV r) (μ.set k (penM ns a' l'))
def b__law_row : DS :=
    (dRet (dCB fTuple (dCons (dLc (dRange1 (dCons (dVar 1) dNil)) (dgName 2) dYes (dCall c__law_pick (dCons (dVar 0) (dCons (dLst (dCons (dC (.int 0)) (dCons (dC (.int 0)) (dCons (dC (.int 1)) (dCons (dC (.int 2)) (dCons (dC (.int 3)) (dCons (dC (.int 4)) (dCons (dC (.int 6)) (dCons (dNeg (dC (.int 1))) (dCons (dNeg (dC (.int 2))) (dCons (dNeg (dC (.int 3))) (dCons (dC (.int 12)) (dCons (dOp (dI0 fun i j => .int (i - j)) (dCall c__law_draw (dCons (dVar 0) (dCons (dC (.int 41)) dNil))) (dC (.int 20))) dNil))))))))))))) dNil))) [2]) dNil)))
theorem l__law_row : ∀ xs μ Q, c__law_row xs μ Q → xs.length = 2 := by
  intro xs μ Q ⟨_, _, _, _, _, e, _⟩
  subst e; rfl
theorem r__law_row : ∀ xs μ Q, c__law_row xs μ Q → b__law_row (spEnds Q) (startD ["pen", "width", "at"] xs) μ := by
  intro xs μ Q ⟨k, ns, a, l, w, e, hw, hk, ⟨ha, ha9⟩, hl, q⟩
  subst e
  have hsl := sizeLine_eq
  refine ⟨(w : Int), rfl, by omega, by omega, ?_⟩
  refine lcD_inv (fun rest acc μ' => ∃ (r : List Int) (a' l' : Int), acc = r.map .int ∧ (∀ y ∈ r, -20 ≤ y ∧ y ≤ 20) ∧ r.length + rest.length = w ∧ a ≤ a' ∧ a' ≤ a + 2 * (r.length : Int) ∧ 0 ≤ l' ∧ μ' = μ.set k (penM ns a' l')) (fun _ _ _ _ => trivial) (fun acc μ' h => ?_) (fun x rest acc μ' h D hD => ?_) _ _ _ ?_
  · obtain ⟨r, a', l', e1, h2, h3, h4, h5, h6, e2⟩ := h
    subst e1; subst e2
    refine .inl ⟨_, r.map .int, rfl, rfl, ?_⟩
    exact q r a' l' (by simpa using h3) h2 h4 (by simp at h3; omega) h6
  · obtain ⟨r, a', l', e1, h2, h3, h4, h5, h6, e2⟩ := h
    subst e1; subst e2
    rw [List.length_cons] at h3
    refine ⟨k, ns, a', l', 41, rfl, set_get hk, by omega, h6, by decide, fun d a2 l2 g1 g2 g3 g4 g5 => ?_⟩
    rw [set_set]
    refine ⟨by show 12 ≤ _; omega, .inl ?_⟩
    refine ⟨k, ns, a2, l2, _, _, rfl, fun _ => rfl, by show 0 < 12; omega, by show 12 < _; decide, set_get hk, by omega, g5, fun v a3 l3 f1 f2 f3 f4 => ?_⟩
    rw [set_set]
    have hv : ∃ y : Int, v = .int y ∧ -20 ≤ y ∧ y ≤ 20 := by
      simp only [List.mem_cons, List.not_mem_nil, or_false] at f1
      rcases f1 with f | f | f | f | f | f | f | f | f | f | f | f <;> (rw [f]; refine ⟨_, rfl, ?_⟩; omega)
    obtain ⟨y, ey, hy⟩ := hv
    subst ey
    refine hD _ _ ⟨r ++ [y], a3, l3, by simp, fun z hz => ?_, by simp; omega, by omega, by simp; omega, f4, rfl⟩
    rcases List.mem_append.mp hz with z1 | z1
    · exact h2 z z1
    · rw [List.mem_singleton.mp z1]; exact hy
  · exact ⟨[], a, l, rfl, by simp, by simp [rngD_len], by omega, by simp, hl, (set_same hk).symm⟩
/-! _law_sum -/
def c__law_sum : Ct := fun xs μ Q => ∃ (x y : Vl) (rows : List (List Int)) (ms : List Int) (w : Nat), xs = [x, y, .int (w : Int)] ∧ sview μ x = some (rows.map rowV) ∧ asLong (rows.map rowV) x μ ∧ sview μ y = some (ms.map .int) ∧ asLong (ms.map .int) y μ ∧ w ≤ 100 ∧ (∀ r ∈ rows, r.length = w) ∧ (∀ m ∈ ms, ∀ r ∈ rows, ∀ z ∈ r, MulOk m z) ∧ Q (rowV (sumR rows ms w)) μ
def b__law_sum : DS :=
    (dRet (dCB fTuple (dCons (dLc (dRange1 (dCons (dVar 2) dNil)) (dgName 3) dYes (dCB fSum (dCons (dLc (dZip (dCons (dVar 1) (dCons (dVar 0) dNil))) (dgTup 2 (dgCons (dgName 4) (dgCons (dgName 5) dgNil))) dYes (dOp dMul (dVar 4) (dOp dIx (dVar 5) (dVar 3))) [4, 5]) dNil)) [3]) dNil)))
theorem l__law_sum : ∀ xs μ Q, c__law_sum xs μ Q → xs.length = 3 := by
  intro xs μ Q ⟨_, _, _, _, _, e, _⟩
  subst e; rfl
theorem rngD_map (w : Nat) : rngD 0 w = (List.range w).map fun (i : Nat) => Vl.int (i : Int) := by
  unfold rngD
  congr 1
  funext i
  rw [Int.zero_add]
theorem r__law_sum : ∀ xs μ Q, c__law_sum xs μ Q → b__law_sum (pureEnds μ Q) (startD ["rows", "multiples", "width", "at", "times", "row"] xs) μ := by
  intro xs μ Q ⟨x, y, rows, ms, w, e, hx, gx, hy, gy, hw, hl, hm, q⟩
  subst e
  refine ⟨(w : Int), rfl, by omega, by omega, ?_⟩
  rw [Int.toNat_natCast, rngD_map]
  refine lc_map trivial _ (fun j => Vl.int (((ms.zip rows).map fun p => p.1 * at0 p.2 j).sum)) _ _ (fun j hj P hP => ?_) (.inl ?_)
  · have hj : j < w := List.mem_range.mp hj
    refine ⟨y, x, _, _, rfl, hy, hx, ?_⟩
    have ez : zipD (ms.map Vl.int) (rows.map rowV) = (ms.zip rows).map fun p => Vl.tup [.int p.1, rowV p.2] := by
      unfold zipD
      rw [List.zip_map, List.map_map]
      rfl
    rw [ez]
    refine lc_map ⟨gy, gx⟩ _ (fun p => Vl.int (p.1 * at0 p.2 j)) _ _ (fun p hp P2 hP2 => ?_) (.inl ?_)
    · have hr : p.2 ∈ rows := (List.of_mem_zip hp).2
      refine ⟨rfl, rfl, _, _, rfl, atI_at (by rw [hl _ hr]; exact hj), ?_⟩
      exact ⟨hm _ (List.of_mem_zip hp).1 _ hr _ (at_mem (by rw [hl _ hr]; exact hj)), hP2⟩
    · refine ⟨_, (ms.zip rows).map fun p => p.1 * at0 p.2 j, rfl, ?_, hP⟩
      rw [List.nil_append, List.map_map]
      rfl
  · refine ⟨_, (sumR rows ms w).map .int, rfl, ?_, pure_rt rfb_row q⟩
    unfold sumR
    rw [List.nil_append, List.map_map]
    rfl
end K26

namespace K26
open PySem PySem.Spec L2 StX PyProof.Rows DL
/-! where numbers other than 0 stand -/
def spots (k : Nat) : List Int → List Nat
  | [] => []
  | x :: r => if x = 0 then spots (k + 1) r else k :: spots (k + 1) r
theorem spots_head : ∀ (r : List Int) (k : Nat), (spots k r).head? = leadFrom k r
  | [], k => rfl
  | x :: r, k => by
    rw [spots, leadFrom]
    by_cases h : x = 0
    · rw [if_pos h, if_pos h, spots_head r]
    · rw [if_neg h, if_neg h]; rfl
theorem spots_loop {G : Mu → Prop} {dt : DT} {de : DE} {g : DG} {ρ : Rho} {Q : List Vl → Mu → Prop} {μ : Mu} (hG : G μ)
    (hs : ∀ (k : Nat) (y : Int) (P : Bool → Mu → Prop) (R : DK), (¬ y = 0 → R (.int (k : Int)) μ) → (y = 0 → P false μ) → g (.tup [.int (k : Int), .int y]) ρ μ fun ρ2 μ2 => dt ρ2 μ2 fun b μ3 => match b with
      | true => de ρ2 μ3 R
      | false => P false μ3) : ∀ (r : List Int) (k : Nat) (acc : List Vl), Q (acc ++ (spots k r).map fun (i : Nat) => Vl.int (i : Int)) μ → lcD G g dt de ρ Q (numF k (r.map .int)) acc μ
  | [], k, acc, q => ⟨hG, by simpa [spots] using q⟩
  | y :: r, k, acc, q => by
    refine ⟨hG, ?_⟩
    refine hs k y (fun _ μ3 => lcD G g dt de ρ Q (numF (k + 1) (r.map .int)) acc μ3) _ (fun e => ?_) (fun e => ?_)
    · refine spots_loop hG hs r (k + 1) (acc ++ [.int (k : Int)]) ?_
      rw [spots, if_neg e] at q
      simpa using q
    · refine spots_loop hG hs r (k + 1) acc ?_
      rw [spots, if_pos e] at q
      exact q
def c__law_lead : Ct := fun xs μ Q => ∃ r : List Int, xs = [rowV r] ∧ Q (leadV (leadFrom 0 r)) μ
def b__law_lead : DS :=
    (dSeq (dAsg (dLc (dEnum (dCons (dVar 0) dNil)) (dgTup 2 (dgCons (dgName 2) (dgCons (dgName 3) dgNil))) (dTest (dOp dNe (dVar 3) (dC (.int 0)))) (dVar 2) [2, 3]) (dgName 1))
    (dRet (dIfE (dTest (dOp dNe (dVar 1) (dLst dNil))) (dOp dIx (dVar 1) (dC (.int 0))) (dC .non))))
theorem l__law_lead : ∀ xs μ Q, c__law_lead xs μ Q → xs.length = 1 := by
  intro xs μ Q ⟨_, e, _⟩
  subst e; rfl
theorem spots_ints (k : Nat) (r : List Int) : (spots k r).map (fun (i : Nat) => Vl.int (i : Int)) = ((spots k r).map fun (i : Nat) => (i : Int)).map .int := by
  rw [List.map_map]; rfl
theorem r__law_lead : ∀ xs μ Q, c__law_lead xs μ Q → b__law_lead (pureEnds μ Q) (startD ["row", "some", "at", "number"] xs) μ := by
  intro xs μ Q ⟨r, e, q⟩
  subst e
  refine ⟨_, r.map .int, rfl, rfl, ?_⟩
  rw [numbered_eq]
  refine spots_loop trivial (fun k y P R h1 h2 => ?_) r 0 [] (.inl ?_)
  · exact ⟨rfl, rfl, dec_splitN (p := y = 0) h1 h2⟩
  rw [List.nil_append, spots_ints]
  have hh := spots_head r 0
  generalize spots 0 r = sp at hh
  refine ⟨by show 0 ≤ _; omega, .inl ?_⟩
  refine eq_lstI (s := []) ?_
  refine dec_splitN (p := (sp.map fun (i : Nat) => (i : Int)) = []) (fun h => ?_) (fun h => ?_)
  · cases sp with
    | nil => exact absurd rfl h
    | cons p t =>
      rw [← hh] at q
      refine ⟨_, .int (p : Int), rfl, ?_, pure_rt (rfb_lead (o := some p)) q⟩
      show atI ((((p : Int) :: t.map fun (i : Nat) => (i : Int))).map Vl.int) 0 = _
      unfold atI
      unfold ixN
      rw [if_pos (by omega), if_pos (by simp)]
      rfl
  · have e : sp = [] := by simpa using h
    subst e
    rw [← hh] at q
    exact pure_rt (rfb_lead (o := none)) q
/-! _law_is_in -/
def c__law_is_in : Ct := fun xs μ Q => ∃ (bs : List (List Int)) (r : List Int), xs = [.tup (bs.map rowV), rowV r] ∧ LeftOk bs r ∧ (∀ b ∈ bs, b.length = r.length) ∧ Q (.bl (leadFrom 0 (leftOf bs r)).isNone) μ
def b__law_is_in : DS :=
    (dSeq (dAsg (dCB fList (dCons (dVar 1) dNil)) (dgName 2))
    (dSeq (dFor (dIter (dVar 0)) (dgName 3) (dSeq (dAsg (dOp dIx (dLc (dEnum (dCons (dVar 3) dNil)) (dgTup 2 (dgCons (dgName 8) (dgCons (dgName 6) dgNil))) (dTest (dOp dNe (dVar 6) (dC (.int 0)))) (dVar 8) [8, 6]) (dC (.int 0))) (dgName 4))
    (dSeq (dAsg (dOp dFdiv (dOp dIx (dVar 2) (dVar 4)) (dOp dIx (dVar 3) (dVar 4))) (dgName 5))
    (dAsg (dLc (dZip (dCons (dVar 2) (dCons (dVar 3) dNil))) (dgTup 2 (dgCons (dgName 6) (dgCons (dgName 7) dgNil))) dYes (dOp (dI0 fun i j => .int (i - j)) (dVar 6) (dOp dMul (dVar 5) (dVar 7))) [6, 7]) (dgName 2)))))
    (dRet (dOp dEq (dLc (dIter (dVar 2)) (dgName 6) (dTest (dOp dNe (dVar 6) (dC (.int 0)))) (dVar 6) [6]) (dLst dNil)))))
theorem l__law_is_in : ∀ xs μ Q, c__law_is_in xs μ Q → xs.length = 2 := by
  intro xs μ Q ⟨_, _, e, _⟩
  subst e; rfl
theorem mulok_neg {i j : Int} (h : DL.MulOk (-i) j) : DL.MulOk i j := by
  unfold DL.MulOk at h ⊢
  rw [Int.natAbs_neg] at h
  exact h
theorem minus_zip (r o : List Int) (t : Int) : ([] : List Vl) ++ (r.zip o).map (fun p => Vl.int (p.1 - t * p.2)) = (plus r o (-t)).map .int := by
  rw [← plus_zip]
  congr 1
  congr 1
  funext p
  rw [Int.neg_mul, ← Int.sub_eq_add_neg]
theorem isin_loop {μ : Mu} {d : DEnds} {x y : Option Vl} : ∀ (bs : List (List Int)) (v : List Int) (o3 o4 o5 o6 o7 o8 : Option Vl), LeftOk bs v → (∀ b ∈ bs, b.length = v.length) → (∀ o3 o4 o5 o6 o7 o8, d.nx [x, y, some (.lst ((leftOf bs v).map .int)), o3, o4, o5, o6, o7, o8] μ) →
    forD (fun _ => True) (dgName 3) (dSeq (dAsg (dOp dIx (dLc (dEnum (dCons (dVar 3) dNil)) (dgTup 2 (dgCons (dgName 8) (dgCons (dgName 6) dgNil))) (dTest (dOp dNe (dVar 6) (dC (.int 0)))) (dVar 8) [8, 6]) (dC (.int 0))) (dgName 4))
    (dSeq (dAsg (dOp dFdiv (dOp dIx (dVar 2) (dVar 4)) (dOp dIx (dVar 3) (dVar 4))) (dgName 5))
    (dAsg (dLc (dZip (dCons (dVar 2) (dCons (dVar 3) dNil))) (dgTup 2 (dgCons (dgName 6) (dgCons (dgName 7) dgNil))) dYes (dOp (dI0 fun i j => .int (i - j)) (dVar 6) (dOp dMul (dVar 5) (dVar 7))) [6, 7]) (dgName 2)))) d (bs.map rowV) [x, y, some (.lst (v.map .int)), o3, o4, o5, o6, o7, o8] μ
  | [], v, o3, o4, o5, o6, o7, o8, _, _, h => ⟨trivial, h _ _ _ _ _ _⟩
  | b :: t, v, o3, o4, o5, o6, o7, o8, ⟨⟨p, hp, hl, h9, hm⟩, ht⟩, hlen, h => by
    obtain ⟨s1, s2, s3, s4⟩ := lead_spec b 0 p hp
    refine ⟨trivial, _, b.map .int, rfl, rfl, ?_⟩
    rw [numbered_eq]
    refine spots_loop trivial (fun k y P R h1 h2 => ?_) b 0 [] (.inl ?_)
    · exact ⟨rfl, rfl, dec_splitN (p := y = 0) h1 h2⟩
    rw [List.nil_append, spots_ints]
    have hh := spots_head b 0
    rw [hp] at hh
    refine ⟨_, .int (p : Int), rfl, ?_, ?_⟩
    · cases hs : spots 0 b with
      | nil => rw [hs] at hh; cases hh
      | cons p' t' =>
        rw [hs] at hh
        have e : p' = p := Option.some.inj hh
        rw [e]
        show atI ((((p : Int) :: t'.map fun (i : Nat) => (i : Int))).map Vl.int) 0 = _
        unfold atI
        unfold ixN
        rw [if_pos (by omega), if_pos (by simp)]
        rfl
    refine ⟨v.map .int, _, rfl, atI_at hl, b.map .int, _, rfl, atI_at (by omega), ⟨s3, h9⟩, ?_⟩
    have L := isin_loop (d := d) (x := x) (y := y) t (plus v b (-(quo b v))) (some (rowV b)) (some (.int (p : Int))) (some (.int (quo b v))) o6 o7 o8 ht (fun b' hb' => by rw [plus_len (hlen b List.mem_cons_self).symm]; exact hlen b' (List.mem_cons_of_mem _ hb')) h
    rw [quo_eq (v := v) hp] at L hm
    refine ⟨_, _, v.map .int, b.map .int, rfl, rfl, rfl, ?_⟩
    rw [zip_rows]
    refine lc_map ⟨trivial, trivial⟩ _ (fun p' => Vl.int (p'.1 - (at0 v p).fdiv (at0 b p) * p'.2)) _ _ (fun p' hp' P hP => ?_) (.inl ?_)
    · exact ⟨rfl, rfl, mulok_neg (hm p'.2 (List.of_mem_zip hp').2), hP⟩
    · rw [minus_zip]
      exact L
theorem keep_nil (r : List Int) : (r.filter fun x => decide (¬ x = 0)) = [] ↔ leadFrom 0 r = none := by
  rw [lead_none, List.filter_eq_nil_iff]
  simp
theorem r__law_is_in : ∀ xs μ Q, c__law_is_in xs μ Q → b__law_is_in (pureEnds μ Q) (startD ["basis", "row", "left", "held", "at", "by", "number", "its", "spot"] xs) μ := by
  intro xs μ Q ⟨bs, r, e, h, hl, q⟩
  subst e
  refine ⟨_, r.map .int, rfl, rfl, .inl ?_⟩
  refine ⟨bs.map rowV, rfl, ?_⟩
  refine isin_loop bs r _ _ _ _ _ _ h hl fun o3 o4 o5 o6 o7 o8 => ?_
  refine ⟨(leftOf bs r).map .int, rfl, ?_⟩
  refine lc_filter trivial _ (fun x => decide (¬ x = 0)) Vl.int _ _ (fun x hx P R h1 h2 => ?_) (.inl ?_)
  · exact dec_splitN (p := x = 0) (fun e => h1 (by simpa using e)) (fun e => h2 (by simpa using e))
  refine ⟨by show 0 ≤ _; have := sizeLine_eq; omega, .inl ?_⟩
  refine eq_lstI (s := []) ?_
  have e : (decide ((leftOf bs r).filter (fun x => decide (¬ x = 0)) = []) != false) = (leadFrom 0 (leftOf bs r)).isNone := by
    by_cases hz : (leftOf bs r).filter (fun x => decide (¬ x = 0)) = []
    · rw [decide_eq_true hz, (keep_nil _).mp hz]; rfl
    · rw [decide_eq_false hz]
      cases hq : leadFrom 0 (leftOf bs r) with
      | none => exact absurd ((keep_nil _).mpr hq) hz
      | some p => rfl
  rw [← e] at q
  exact pure_rt rfb_bl q
end K26

set_option exponentiation.threshold 300
namespace K25
open PySem PySem.Spec L2 StX PyProof.Rows DL K26
theorem mulok_small {i j : Int} {a b : Nat} (hi : i.natAbs ≤ 2 ^ a) (hj : j.natAbs ≤ 2 ^ b) (h : a + b < 134000000) : DL.MulOk i j := by
  have l : ∀ {x a : Nat}, x ≤ 2 ^ a → x.log2 ≤ a := fun {x a} h => by
    by_cases hz : x = 0
    · rw [hz]; exact Nat.zero_le _
    · have := (Nat.log2_lt hz).mpr (show x < 2 ^ (a + 1) by rw [Nat.pow_succ]; have := Nat.one_le_two_pow (n := a); omega)
      omega
  exact .inr (.inr (by have := l hi; have := l hj; omega))
def c_plus : Ct := K26.c_plus
def c_mixed : Ct := fun xs μ Q => ∃ (r o : List Int) (a b : Int), xs = [rowV r, rowV o, .tup [.int a, .int b]] ∧ (∀ y ∈ r, DL.MulOk a y) ∧ (∀ y ∈ o, DL.MulOk b y) ∧ Q (rowV (mixR a b r o)) μ
def b_mixed : DS :=
    (dRet (dCB fTuple (dCons (dLc (dZip (dCons (dVar 0) (dCons (dVar 1) dNil))) (dgTup 2 (dgCons (dgName 3) (dgCons (dgName 4) dgNil))) dYes (dOp dAdd (dOp dMul (dOp dIx (dVar 2) (dC (.int 0))) (dVar 3)) (dOp dMul (dOp dIx (dVar 2) (dC (.int 1))) (dVar 4))) [3, 4]) dNil)))
theorem l_mixed : ∀ xs μ Q, c_mixed xs μ Q → xs.length = 3 := by
  intro xs μ Q ⟨_, _, _, _, e, _⟩
  subst e; rfl
theorem mix_zip (r o : List Int) (a b : Int) : ([] : List Vl) ++ (r.zip o).map (fun p => Vl.int (a * p.1 + b * p.2)) = (mixR a b r o).map .int := by
  unfold mixR
  rw [List.nil_append]
  induction r generalizing o with
  | nil => rfl
  | cons x r ih => cases o with
    | nil => rfl
    | cons y o =>
      rw [List.zip_cons_cons, List.map_cons, ih, List.zipWith_cons_cons, List.map_cons]
theorem r_mixed : ∀ xs μ Q, c_mixed xs μ Q → b_mixed (pureEnds μ Q) (startD ["row", "other", "multiples", "one", "its"] xs) μ := by
  intro xs μ Q ⟨r, o, a, b, e, h1, h2, q⟩
  subst e
  refine ⟨_, _, r.map .int, o.map .int, rfl, rfl, rfl, ?_⟩
  rw [K26.zip_rows]
  refine DL.lc_map ⟨trivial, trivial⟩ _ (fun p => Vl.int (a * p.1 + b * p.2)) _ _ (fun p hp P hP => ?_) ?_
  · exact ⟨rfl, rfl, _, .int a, rfl, rfl, h1 p.1 (List.of_mem_zip hp).1, _, .int b, rfl, rfl, h2 p.2 (List.of_mem_zip hp).2, hP⟩
  · refine .inl ⟨_, _, rfl, rfl, ?_⟩
    rw [mix_zip]
    exact DL.pure_rt rfb_row q
/-! divided -/
def c_divided : Ct := fun xs μ Q => ∃ (one other : Int) (B : Nat), xs = [.int one, .int other] ∧ 0 < one ∧ other ≠ 0 ∧ one.natAbs ≤ 2 ^ B ∧ other.natAbs ≤ 2 ^ B ∧ B < 60000000 ∧ ∀ g x y, Gcd2 one other g x y → Q (.tup [.int g, .tup [.int x, .int y]]) μ
def b_divided : DS :=
    (dSeq (dAsg (dLst (dCons (dTup (dCons (dVar 0) (dCons (dC (.int 1)) (dCons (dC (.int 0)) dNil)))) (dCons (dTup (dCons (dVar 1) (dCons (dC (.int 0)) (dCons (dC (.int 1)) dNil)))) dNil))) (dgName 2))
    (dSeq (dWhile (dTest (dOp dNe (dOp dIx (dOp dIx (dVar 2) (dC (.int 1))) (dC (.int 0))) (dC (.int 0)))) (dAsg (dLst (dCons (dOp dIx (dVar 2) (dC (.int 1))) (dCons (dCall c_plus (dCons (dOp dIx (dVar 2) (dC (.int 0))) (dCons (dOp dIx (dVar 2) (dC (.int 1))) (dCons (dNeg (dOp dFdivB (dOp dIx (dOp dIx (dVar 2) (dC (.int 0))) (dC (.int 0))) (dOp dIx (dOp dIx (dVar 2) (dC (.int 1))) (dC (.int 0))))) dNil)))) dNil))) (dgName 2)))
    (dSeq (dAsg (dOp dIx (dVar 2) (dC (.int 0))) (dgTup 3 (dgCons (dgName 3) (dgCons (dgName 4) (dgCons (dgName 5) dgNil)))))
    (dRet (dIfE (dTest (dOp dGe (dVar 3) (dC (.int 0)))) (dTup (dCons (dVar 3) (dCons (dTup (dCons (dVar 4) (dCons (dVar 5) dNil))) dNil))) (dTup (dCons (dNeg (dVar 3)) (dCons (dTup (dCons (dNeg (dVar 4)) (dCons (dNeg (dVar 5)) dNil))) dNil))))))))
theorem l_divided : ∀ xs μ Q, c_divided xs μ Q → xs.length = 2 := by
  intro xs μ Q ⟨_, _, _, e, _⟩
  subst e; rfl
/-- where the turns stand -/
def DS1 (one other a x y b u v : Int) : Prop := DJ one other a x y b u v ∨ (other < 0 ∧ a = one ∧ x = 1 ∧ y = 0 ∧ b = other ∧ u = 0 ∧ v = 1)
theorem rfb_pair {n : Nat} {g x y : Int} : rfb n (.tup [.int g, .tup [.int x, .int y]]) = true := by
  simp [rfb, rfbs]
theorem r_divided : ∀ xs μ Q, c_divided xs μ Q → b_divided (pureEnds μ Q) (startD ["one", "other", "rows", "number", "first", "last"] xs) μ := by
  intro xs μ Q ⟨one, other, B, e, h1, h2, hb1, hb2, hB, q⟩
  subst e
  have hsl := sizeLine_eq
  refine ⟨by show 3 ≤ _; omega, by show 3 ≤ _; omega, by show 2 ≤ _; omega, .inl ?_⟩
  refine ⟨fun m ρ μ1 => ∃ a x y b u v : Int, m = b.natAbs ∧ μ1 = μ ∧ a.natAbs ≤ 2 ^ B ∧ b.natAbs ≤ 2 ^ B ∧ DS1 one other a x y b u v ∧ ρ = [some (.int one), some (.int other), some (.lst [rowV [a, x, y], rowV [b, u, v]]), none, none, none],
    ⟨other.natAbs, one, 1, 0, other, 0, 1, rfl, rfl, hb1, hb2, ?_, rfl⟩, ?_⟩
  · by_cases ho : 0 < other
    · exact .inl ((DI0.first h1 h2).1 ho)
    · exact .inr ⟨by omega, rfl, rfl, rfl, rfl, rfl, rfl⟩
  intro m ρ μ1 ⟨a, x, y, b, u, v, em, eμ, ha, hb, hD, eρ⟩
  subst em; subst eμ; subst eρ
  refine ⟨_, rowV [b, u, v], rfl, rfl, _, .int b, rfl, rfl, ?_⟩
  refine dec_splitN (p := b = 0) (fun hb0 => ?_) (fun hb0 => ?_)
  · have next : DJ one other b u v (a + -(a.fdiv b) * b) (x + -(a.fdiv b) * u) (y + -(a.fdiv b) * v) := by
      rcases hD with hD | ⟨e0, e1, e2, e3, e4, e5, e6⟩
      · exact hD.turn hb0
      · subst e1; subst e2; subst e3; subst e4; subst e5; subst e6
        exact (DI0.first h1 h2).2 e0
    have hqb := fdiv_size (a := a) hb0
    have hq : (-(a.fdiv b)).natAbs ≤ 2 ^ (B + 1) := by
      rw [Int.natAbs_neg, Nat.pow_succ]
      have : (a.fdiv b).natAbs * 1 ≤ (a.fdiv b).natAbs * b.natAbs := Nat.mul_le_mul_left _ (by omega)
      omega
    have hm : ∀ z ∈ [b, u, v], DL.MulOk (-(a.fdiv b)) z := fun z hz => by
      refine mulok_small (a := B + 1) (b := B) hq ?_ (by omega)
      simp only [List.mem_cons, List.not_mem_nil, or_false] at hz
      rcases hz with k | k | k
      · rw [k]; exact hb
      · rw [k]; exact Nat.le_trans next.bx hb2
      · rw [k]; exact Nat.le_trans next.by' hb1
    refine ⟨_, rowV [b, u, v], rfl, rfl, ?_⟩
    refine ⟨_, rowV [a, x, y], rfl, rfl, _, rowV [b, u, v], rfl, rfl, _, rowV [a, x, y], rfl, rfl, _, .int a, rfl, rfl, _, rowV [b, u, v], rfl, rfl, _, .int b, rfl, rfl, hb0, ?_⟩
    refine ⟨[a, x, y], [b, u, v], -(a.fdiv b), rfl, hm, by show 2 ≤ _; omega, .inl ?_⟩
    exact ⟨_, DJ.less hb0, b, u, v, _, _, _, rfl, rfl, hb, Nat.le_trans (Nat.le_of_lt (DJ.less hb0)) hb, .inl next, rfl⟩
  · subst hb0
    have hD : DJ one other a x y 0 u v := by
      rcases hD with hD | ⟨e0, e1, e2, e3, e4, e5, e6⟩
      · exact hD
      · exact absurd e4.symm h2
    obtain ⟨d1, d2⟩ := hD.done
    refine ⟨_, rowV [a, x, y], rfl, rfl, rfl, rfl, ?_⟩
    refine dec_split (p := 0 ≤ a) (fun h => ?_) (fun h => ?_)
    · exact ⟨by show 2 ≤ _; omega, by show 2 ≤ _; omega, DL.pure_rt rfb_pair (q _ _ _ (d1 h))⟩
    · exact ⟨by show 2 ≤ _; omega, by show 2 ≤ _; omega, DL.pure_rt rfb_pair (q _ _ _ (d2 h))⟩
end K25

set_option exponentiation.threshold 300
namespace K25
open PySem PySem.Spec L2 StX PyProof.Rows DL K26
/-! the object: its width, its rows by places -/
theorem opt_split {o : Option Vl} {A B : Prop} (h1 : ∀ x, o = some x → A) (h2 : o = none → B) : (match (o.isSome != false) with
    | true => A
    | false => B) := by
  cases o with
  | none => exact h2 rfl
  | some x => exact h1 x rfl
theorem opt_splitN {o : Option Vl} {A B : Prop} (h1 : o = none → A) (h2 : ∀ x, o = some x → B) : (match (o.isSome != true) with
    | true => A
    | false => B) := by
  cases o with
  | none => exact h1 rfl
  | some x => exact h2 x rfl
theorem val_put (k k' : Key) (v : Vl) : ∀ kvs : List (Key × Vl), valD (putK' kvs k v) k' = if k' = k then some v else valD kvs k' := by
  intro kvs
  have hm : ∀ kvs : List (Key × Vl), valD (kvs.map fun kv => if kv.1 = k then (kv.1, v) else kv) k' = if k' = k then (if kvs.any (fun kv => decide (kv.1 = k)) then some v else none) else valD kvs k' := by
    intro kvs
    induction kvs with
    | nil => simp [valD]
    | cons a r ih =>
      have step : ∀ (b : Key × Vl) (r : List (Key × Vl)), valD (b :: r) k' = if b.1 = k' then some b.2 else valD r k' := fun b r => by
        by_cases h : b.1 = k' <;> simp [valD, List.find?_cons, h]
      rw [List.map_cons, step, step, ih, List.any_cons]
      by_cases h1 : a.1 = k
      · by_cases h2 : k' = k
        · simp [h1, h2]
        · have : ¬ k = k' := fun e => h2 e.symm
          simp [h1, h2, this]
      · by_cases h2 : k' = k
        · subst h2
          simp only [if_neg h1, if_true]
          by_cases hr : (r.any fun kv => decide (kv.1 = k')) = true
          · rw [if_pos hr, if_pos (by rw [Bool.or_eq_true]; exact .inr hr)]
          · rw [if_neg hr, if_neg (by rw [Bool.or_eq_true]; rintro (z | z); exact h1 (of_decide_eq_true z); exact hr z)]
        · simp [h1, h2]
  unfold putK'
  split
  · rename_i h
    rw [hm, h]; simp
  · rename_i h
    have hn : valD kvs k = none := by
      unfold valD
      cases hf : kvs.find? fun kv => decide (kv.1 = k) with
      | none => rfl
      | some x =>
        exfalso
        apply h
        rw [List.any_eq_true]
        exact ⟨x, List.mem_of_find?_eq_some hf, by have := List.find?_some hf; simpa using this⟩
    unfold valD
    rw [List.find?_append]
    by_cases h2 : k' = k
    · subst h2
      have hf : (kvs.find? fun kv => decide (kv.1 = k')) = none := by
        cases hf : kvs.find? fun kv => decide (kv.1 = k') with
        | none => rfl
        | some x => rw [valD, hf] at hn; cases hn
      rw [hf, if_pos rfl]; simp
    · have : ¬ k = k' := fun e => h2 e.symm
      rw [if_neg h2]
      cases hf : kvs.find? fun kv => decide (kv.1 = k') <;> simp [this]
theorem put_len (k : Key) (v : Vl) (kvs : List (Key × Vl)) : (putK' kvs k v).length ≤ kvs.length + 1 ∧ (∀ x, valD kvs k = some x → (putK' kvs k v).length = kvs.length) := by
  unfold putK'
  split
  · exact ⟨by rw [List.length_map]; omega, fun x _ => by rw [List.length_map]⟩
  · rename_i h
    refine ⟨by simp, fun x hx => ?_⟩
    exfalso
    apply h
    unfold valD at hx
    cases hf : kvs.find? fun kv => decide (kv.1 = k) with
    | none => rw [hf] at hx; cases hx
    | some y =>
      rw [List.any_eq_true]
      exact ⟨y, List.mem_of_find?_eq_some hf, by have := List.find?_some hf; simpa using this⟩
abbrev fsG (w : Nat) (kd : Nat) : List (Str × Vl) := [("width", .int (w : Int)), ("rows", .ref kd)]
theorem look_w (w kd : Nat) : (fsG w kd).lookup ("width" : Str) = some (.int (w : Int)) := by
  unfold fsG
  rw [List.lookup_cons, show (("width" : Str) == "width") = true from by decide +kernel]
theorem look_r (w kd : Nat) : (fsG w kd).lookup ("rows" : Str) = some (.ref kd) := by
  unfold fsG
  rw [List.lookup_cons, show (("rows" : Str) == "width") = false from by decide +kernel, List.lookup_cons, show (("rows" : Str) == "rows") = true from by decide +kernel]
theorem look_no (w kd : Nat) {m : Str} (h1 : (m == "width") = false) (h2 : (m == "rows") = false) : (fsG w kd).lookup m = none := by
  unfold fsG
  rw [List.lookup_cons, h1, List.lookup_cons, h2]
  rfl
structure DG (G : Addr) (w : Nat) (μ : Mu) (ko kd N : Nat) (g : Hg) (kvs : List (Key × Vl)) : Prop where
  o : μ[ko]? = some (.ins G (fsG w kd))
  d : μ[kd]? = some (.dict kvs)
  ne : ko ≠ kd
  sz : kvs.length ≤ N
  at' : ∀ p : Nat, valD kvs (.inl (p : Int)) = (g p).map rowV
theorem DG.put {G : Addr} {w : Nat} {μ : Mu} {ko kd N p : Nat} {g : Hg} {kvs : List (Key × Vl)} {r : List Int} (h : DG G w μ ko kd N g kvs) : DG G w (μ.set kd (.dict (putK' kvs (.inl (p : Int)) (rowV r)))) ko kd (N + 1) (gset g p r) (putK' kvs (.inl (p : Int)) (rowV r)) ∧
    ((g p).isSome = true → DG G w (μ.set kd (.dict (putK' kvs (.inl (p : Int)) (rowV r)))) ko kd N (gset g p r) (putK' kvs (.inl (p : Int)) (rowV r))) := by
  have hsz := h.sz
  have hat : ∀ q : Nat, valD (putK' kvs (.inl (p : Int)) (rowV r)) (.inl (q : Int)) = (gset g p r q).map rowV := fun q => by
    rw [val_put, gset_at, h.at' q]
    by_cases hq : q = p
    · subst hq; simp
    · have : ¬ ((Sum.inl (q : Int) : Key) = .inl (p : Int)) := fun e => hq (by have := Sum.inl.inj e; omega)
      rw [if_neg this, if_neg hq]
  obtain ⟨l1, l2⟩ := put_len (.inl (p : Int)) (rowV r) kvs
  refine ⟨⟨by rw [List.getElem?_set_ne (Ne.symm h.ne)]; exact h.o, by rw [List.getElem?_set_self (List.getElem?_eq_some_iff.mp h.d).1], h.ne, by omega, hat⟩, fun hs => ⟨by rw [List.getElem?_set_ne (Ne.symm h.ne)]; exact h.o, by rw [List.getElem?_set_self (List.getElem?_eq_some_iff.mp h.d).1], h.ne, ?_, hat⟩⟩
  cases hg : g p with
  | none => rw [hg] at hs; cases hs
  | some x => rw [l2 (rowV x) (by rw [h.at' p, hg]; rfl)]; exact hsz
/-- __init__ -/
def c_Growing___init__ (G : Addr) : Ct := fun xs μ Q => ∃ (ko w : Nat), xs = [.ref ko, .int (w : Int)] ∧ μ[ko]? = some (.ins G []) ∧ (∀ μ' : Mu, DG G w μ' ko μ.length 0 (fun _ => none) [] → (∃ m m', μ' = μ.set ko m ++ [m']) → Q .non μ')
def b_Growing___init__ (G : Addr) : DS :=
    (dSeq (dgFld G "width" (dVar 0) (dVar 1))
    (dgFld G "rows" (dVar 0) dDict0))
theorem l_Growing___init__ (G : Addr) : ∀ xs μ Q, c_Growing___init__ G xs μ Q → xs.length = 2 := by
  intro xs μ Q ⟨_, _, e, _⟩
  subst e; rfl
theorem put_rows (w kd : Nat) : putD ("rows" : Str) (.ref kd) (putD ("width" : Str) (.int (w : Int)) []) = fsG w kd := by
  show (if ("width" : Str) = "rows" then _ else (("width" : Str), Vl.int (w : Int)) :: [(("rows" : Str), Vl.ref kd)]) = _
  rw [if_neg (by decide +kernel)]
theorem r_Growing___init__ (G : Addr) : ∀ xs μ Q, c_Growing___init__ G xs μ Q → b_Growing___init__ G (spEnds Q) (startD ["self", "width"] xs) μ := by
  intro xs μ Q ⟨ko, w, e, ho, q⟩
  subst e
  have hlt := (List.getElem?_eq_some_iff.mp ho).1
  refine ⟨ko, [], rfl, ho, by show 0 < 1000; omega, ?_⟩
  have e1 : (μ.set ko (Mo.ins G (putD ("width" : Str) (Vl.int (w : Int)) []))).length = μ.length := List.length_set
  refine ⟨ko, putD ("width" : Str) (.int (w : Int)) [], rfl, ?_, by show 1 < 1000; omega, ?_⟩
  · rw [List.getElem?_append_left (by rw [e1]; exact hlt), List.getElem?_set_self hlt]
  rw [e1, put_rows]
  refine q _ ⟨?_, ?_, by omega, by show 0 ≤ 0; omega, fun p => rfl⟩ ⟨.ins G (fsG w μ.length), .dict [], ?_⟩
  · rw [List.getElem?_set_self (by rw [List.length_append, e1]; omega)]
  · rw [List.getElem?_set_ne (by omega), List.getElem?_append_right (by rw [e1]; omega), e1, Nat.sub_self]; rfl
  · rw [List.set_append_left _ _ (by rw [e1]; exact hlt), List.set_set]
/-- a quotient is hardly greater than what is divided -/
theorem fdiv_le {a b : Int} (h : b ≠ 0) : (a.fdiv b).natAbs ≤ a.natAbs + 1 := by
  have h1 := fdiv_size (a := a) h
  apply Nat.le_of_not_lt
  intro k
  have h2 : (a.natAbs + 2) * b.natAbs ≤ (a.fdiv b).natAbs * b.natAbs := Nat.mul_le_mul_right _ (by omega)
  rw [Nat.add_mul] at h2
  have h3 : a.natAbs * 1 ≤ a.natAbs * b.natAbs := Nat.mul_le_mul_left _ (by omega)
  omega
/-- tidy -/
def c_Growing_tidy (G : Addr) : Ct := fun xs μ Q => ∃ (ko kd N w p Y P T B C : Nat) (g gA : Hg) (kvs : List (Key × Vl)) (r : List Int), xs = [.ref ko, .int (p : Int)] ∧ DG G w μ ko kd N g kvs ∧ w ≤ 100 ∧ N < 1000 ∧ g p = some r ∧ GI w T gA ∧ (∀ o, p < o → g o = gA o) ∧ p < w ∧ Flat p w r ∧ Small (2 ^ B) r ∧
  (∀ o, (gA o).isSome = true → (at0 r o).natAbs ≤ 2 ^ Y) ∧ (∀ o h o', p < o → gA o = some h → (gA o').isSome = true → (at0 h o').natAbs ≤ 2 ^ P) ∧
  cntIn gA (List.range' (p + 1) (w - (p + 1))) ≤ C ∧ Y + C * (P + 2) + 1 + T ≤ B ∧ B + C < 61000000 ∧
  ∀ (kvs' : List (Key × Vl)) (g' : Hg), (∀ q, g' q = gset g p (tidyR gA (List.range' (p + 1) (w - (p + 1))) r) q) → DG G w (μ.set kd (.dict kvs')) ko kd N g' kvs' → Q .non (μ.set kd (.dict kvs'))
theorem l_Growing_tidy (G : Addr) : ∀ xs μ Q, c_Growing_tidy G xs μ Q → xs.length = 2 := by
  intro xs μ Q ⟨_, _, _, _, _, _, _, _, _, _, _, _, _, _, e, _⟩
  subst e; rfl
def tBody (G : Addr) : DS := (dIf (dTest (dDIn false (dVar 2) (dFld G "rows" (dVar 0)))) (dSeq (dAsg (dDGet (dFld G "rows" (dVar 0)) (dVar 2)) (dgName 3))
    (dAsg (dCall c_plus (dCons (dDGet (dFld G "rows" (dVar 0)) (dVar 1)) (dCons (dVar 3) (dCons (dNeg (dOp dFdivB (dOp dIx (dDGet (dFld G "rows" (dVar 0)) (dVar 1)) (dVar 2)) (dOp dIx (dVar 3) (dVar 2)))) dNil)))) (dgDIx (dFld G "rows" (dVar 0)) (dVar 1)))) dNext)
def b_Growing_tidy (G : Addr) : DS :=
    (dFor (dRange2 (dCons (dOp dAdd (dVar 1) (dC (.int 1))) (dCons (dFld G "width" (dVar 0)) dNil))) (dgName 2) (tBody G))
theorem tidy_loop {G : Addr} {d : DEnds} {ko kd N w p Y P T B C : Nat} {gA : Hg} (GA : GI w T gA) (hp : p < w) (hN : N < 1000) (hP : ∀ o h o', p < o → gA o = some h → (gA o').isSome = true → (at0 h o').natAbs ≤ 2 ^ P) (hB : Y + C * (P + 2) + 1 + T ≤ B) (hM : B + C < 61000000) : ∀ (n s c : Nat) (g : Hg) (kvs : List (Key × Vl)) (μ : Mu) (r : List Int) (o2 o3 : Option Vl), s + n = w → p < s → DG G w μ ko kd N g kvs → g p = some r → (∀ o, p < o → g o = gA o) → Flat p w r → Small (2 ^ (B + c)) r →
    (∀ o, (gA o).isSome = true → (at0 r o).natAbs ≤ 2 ^ (Y + c * (P + 2))) → c + cntIn gA (List.range' s n) ≤ C →
    (∀ (kvs' : List (Key × Vl)) (g' : Hg) (o2 o3 : Option Vl), (∀ q, g' q = gset g p (tidyR gA (List.range' s n) r) q) → DG G w (μ.set kd (.dict kvs')) ko kd N g' kvs' → d.nx [some (.ref ko), some (.int (p : Int)), o2, o3] (μ.set kd (.dict kvs'))) →
    forD (fun _ => True) (dgName 2) (tBody G) d ((List.range' s n).map fun (i : Nat) => Vl.int (i : Int)) [some (.ref ko), some (.int (p : Int)), o2, o3] μ
  | 0, s, c, g, kvs, μ, r, o2, o3, hs, hps, D, hg, hA, hf, hx, hy, hb, q => by
    refine ⟨trivial, ?_⟩
    have e : μ.set kd (.dict kvs) = μ := DL.set_same D.d
    have := q kvs g o2 o3 (fun q => by
      show g q = gset g p r q
      rw [gset_at]
      by_cases hq : q = p
      · rw [if_pos hq, hq, hg]
      · rw [if_neg hq]) (by rw [e]; exact D)
    rw [e] at this
    exact this
  | n + 1, s, c, g, kvs, μ, r, o2, o3, hs, hps, D, hg, hA, hf, hx, hy, hb, q => by
    rw [List.range'_succ] at hb q ⊢
    have ec : cntIn gA (s :: List.range' (s + 1) n) = cntIn gA (List.range' (s + 1) n) + (if (gA s).isSome then 1 else 0) := by
      unfold cntIn
      rw [List.filter_cons]
      split <;> simp
    rw [ec] at hb
    have vs := D.at' s
    have vp := D.at' p
    rw [hA s hps] at vs
    rw [hg] at vp
    refine ⟨trivial, ko, fsG w kd, .ref kd, rfl, D.o, look_r w kd, kd, kvs, .inl (s : Int), rfl, D.d, rfl, ?_⟩
    refine opt_split (fun x hx1 => ?_) (fun hx1 => ?_)
    · cases hgs : gA s with
      | none => rw [hgs, hx1] at vs; cases vs
      | some h =>
        rw [hgs] at vs
        obtain ⟨a1, a2, a3, a4⟩ := GA.ok s h hgs
        rw [hgs] at hb
        have hb : c + (cntIn gA (List.range' (s + 1) n) + 1) ≤ C := hb
        have hcC : (c + 1) * (P + 2) ≤ C * (P + 2) := Nat.mul_le_mul_right _ (by omega)
        rw [Nat.add_mul, Nat.one_mul] at hcC
        have hss : (gA s).isSome = true := by rw [hgs]; rfl
        have hqs : (-((at0 r s).fdiv (at0 h s))).natAbs ≤ 2 ^ (Y + c * (P + 2) + 1) := by
          rw [Int.natAbs_neg]
          have c1 := hy s hss
          have c2 := fdiv_le (a := at0 r s) (show at0 h s ≠ 0 by omega)
          have c3 := Nat.one_le_two_pow (n := Y + c * (P + 2))
          rw [Nat.pow_succ]
          omega
        refine ⟨ko, fsG w kd, .ref kd, rfl, D.o, look_r w kd, kd, kvs, .inl (s : Int), rowV h, rfl, D.d, rfl, vs, ?_⟩
        refine ⟨ko, fsG w kd, .ref kd, rfl, D.o, look_r w kd, kd, kvs, .inl (p : Int), rowV r, rfl, D.d, rfl, vp, ?_⟩
        refine ⟨ko, fsG w kd, .ref kd, rfl, D.o, look_r w kd, kd, kvs, .inl (p : Int), rowV r, rfl, D.d, rfl, vp, ?_⟩
        refine ⟨r.map .int, _, rfl, atI_at (by rw [hf.1]; exact a1), h.map .int, _, rfl, atI_at (by rw [a2.1]; exact a1), by omega, ?_⟩
        refine ⟨r, h, -((at0 r s).fdiv (at0 h s)), rfl, fun y hy => mulok_small (a := Y + c * (P + 2) + 1) (b := T) hqs (a4 y hy) (by omega), ?_⟩
        refine ⟨ko, fsG w kd, .ref kd, rfl, D.o, look_r w kd, kd, kvs, .inl (p : Int), rfl, rfl, D.d, by have := D.sz; rw [sizeLine_eq]; omega, ?_⟩
        have D2 := (D.put (p := p) (r := red s h r)).2 (by rw [hg]; rfl)
        have hfl : Flat p w (red s h r) := ⟨red_len a2.1 hf.1, fun i hi => by rw [red_at a2.1 hf.1, a2.2 i (by omega), hf.2 i hi]; omega⟩
        have hat : ∀ i, (at0 (red s h r) i).natAbs ≤ (at0 r i).natAbs + (-((at0 r s).fdiv (at0 h s))).natAbs * (at0 h i).natAbs := fun i => by
          rw [red_at a2.1 hf.1, Int.natAbs_neg, ← Int.natAbs_mul]; omega
        refine tidy_loop GA hp hN hP hB hM n (s + 1) (c + 1) (gset g p (red s h r)) _ _ (red s h r) _ _ (by omega) (by omega) D2 (by rw [gset_at, if_pos rfl]) (fun o ho => by rw [gset_at, if_neg (by omega)]; exact hA o ho) hfl (fun x hx' => ?_) (fun o ho => ?_) (by omega) fun kvs' g' o2 o3 hg' D3 => ?_
        · obtain ⟨i, _, ei⟩ := mem_at hx'
          rw [← ei]
          have k1 := hat i
          have k2 := at_small hx i
          have k3 := Nat.mul_le_mul hqs (at_small a4 i)
          rw [← Nat.pow_add] at k3
          have k4 : 2 ^ (Y + c * (P + 2) + 1 + T) ≤ 2 ^ (B + c) := Nat.pow_le_pow_right (by decide) (by omega)
          rw [← Nat.add_assoc, Nat.pow_succ]
          omega
        · have k1 := hat o
          have k2 := hy o ho
          have k3 := Nat.mul_le_mul hqs (hP s h o hps hgs ho)
          rw [← Nat.pow_add] at k3
          have k4 : 2 ^ (Y + c * (P + 2)) ≤ 2 ^ (Y + c * (P + 2) + 1 + P) := Nat.pow_le_pow_right (by decide) (by omega)
          rw [show Y + (c + 1) * (P + 2) = Y + c * (P + 2) + 1 + P + 1 by rw [Nat.add_mul]; omega, Nat.pow_succ]
          omega
        · rw [DL.set_set] at D3 ⊢
          refine q kvs' g' _ _ (fun q' => ?_) D3
          have et : tidyR gA (s :: List.range' (s + 1) n) r = tidyR gA (List.range' (s + 1) n) (red s h r) := by rw [tidyR, hgs]
          rw [hg' q', et, gset_at, gset_at, gset_at]
          by_cases hq : q' = p
          · rw [if_pos hq, if_pos hq]
          · rw [if_neg hq, if_neg hq, if_neg hq]
    · cases hgs : gA s with
      | some h => rw [hgs, hx1] at vs; cases vs
      | none =>
        rw [hgs] at hb
        have hb : c + (cntIn gA (List.range' (s + 1) n) + 0) ≤ C := hb
        refine tidy_loop GA hp hN hP hB hM n (s + 1) c g kvs μ r _ _ (by omega) (by omega) D hg hA hf hx hy (by omega) fun kvs' g' o2 o3 hg' D3 => q kvs' g' _ _ (fun q' => ?_) D3
        have et : tidyR gA (s :: List.range' (s + 1) n) r = tidyR gA (List.range' (s + 1) n) r := by rw [tidyR, hgs]
        rw [et]; exact hg' q'
theorem r_Growing_tidy (G : Addr) : ∀ xs μ Q, c_Growing_tidy G xs μ Q → b_Growing_tidy G (spEnds Q) (startD ["self", "place", "other", "held"] xs) μ := by
  intro xs μ Q ⟨ko, kd, N, w, p, Y, P, T, B, C, g, gA, kvs, r, e, D, hw, hN, hg, GA, hA, hp, hf, hx, hy, hP, hc, hB, hM, q⟩
  subst e
  refine ⟨ko, fsG w kd, .int (w : Int), rfl, D.o, look_w w kd, (p : Int) + 1, (w : Int), rfl, by omega, by omega, ?_⟩
  have er : rngD ((p : Int) + 1) ((w : Int) - ((p : Int) + 1)).toNat = (List.range' (p + 1) (w - (p + 1))).map fun (i : Nat) => Vl.int (i : Int) := by
    unfold rngD
    rw [show ((w : Int) - ((p : Int) + 1)).toNat = w - (p + 1) by omega, List.range'_eq_map_range, List.map_map]
    refine List.map_congr_left fun i _ => ?_
    show Vl.int _ = Vl.int _
    congr 1 <;> omega
  rw [er]
  exact tidy_loop GA hp hN hP hB hM (w - (p + 1)) (p + 1) 0 g kvs μ r none none (by omega) (by omega) D hg hA hf hx (fun o ho => by rw [Nat.zero_mul]; exact hy o ho) (by omega) fun kvs' g' o2 o3 hg' D' => q kvs' g' hg' D'
theorem tidy_drop {G : Addr} {ko p i : Nat} {ρ : Rho} {μ : Mu} {Q : DK} (e : ρ[i]? = some (some (.int (p : Int)))) (h : c_Growing_tidy G [.ref ko, .int (p : Int)] μ Q) : dCons (dVar i) dNil ρ μ fun xs μ2 => c_Growing_tidy G (.ref ko :: xs) μ2 Q := by
  unfold dCons dVar
  rw [e]; exact h
/-- one size for all numbers -/
theorem tidy_of {G : Addr} {xs : List Vl} {μ : Mu} {Q : DK} (h : ∃ (ko kd N w p P X k : Nat) (g gA : Hg) (kvs : List (Key × Vl)) (r : List Int), xs = [.ref ko, .int (p : Int)] ∧ DG G w μ ko kd N g kvs ∧ w ≤ 100 ∧ N < 1000 ∧ g p = some r ∧ GI w P gA ∧ (∀ o, p < o → g o = gA o) ∧ p < w ∧ Flat p w r ∧ Small (2 ^ X) r ∧
  cntIn gA (List.range' (p + 1) (w - (p + 1))) ≤ k ∧ X + (k + 1) * (P + 2) < 60000000 ∧
  ∀ (kvs' : List (Key × Vl)) (g' : Hg), (∀ q, g' q = gset g p (tidyR gA (List.range' (p + 1) (w - (p + 1))) r) q) → DG G w (μ.set kd (.dict kvs')) ko kd N g' kvs' → Q .non (μ.set kd (.dict kvs'))) : c_Growing_tidy G xs μ Q := by
  obtain ⟨ko, kd, N, w, p, P, X, k, g, gA, kvs, r, e, D, hw, hN, hg, GA, hA, hp, hf, hx, hc, hb, q⟩ := h
  have c1 : cntIn gA (List.range' (p + 1) (w - (p + 1))) ≤ 100 := by
    unfold cntIn
    refine Nat.le_trans (List.length_filter_le _ _) ?_
    rw [List.length_range']; omega
  have c2 := Nat.mul_le_mul_right (P + 2) hc
  rw [Nat.add_mul, Nat.one_mul] at hb
  refine ⟨ko, kd, N, w, p, X, P, P, X + cntIn gA (List.range' (p + 1) (w - (p + 1))) * (P + 2) + 1 + P, cntIn gA (List.range' (p + 1) (w - (p + 1))), g, gA, kvs, r, e, D, hw, hN, hg, GA, hA, hp, hf, hx.mono (Nat.pow_le_pow_right (by decide) (by omega)), fun o _ => at_small hx o, fun o h o' _ ho _ => at_small (GA.ok o h ho).2.2.2 o', Nat.le_refl _, by omega, by omega, q⟩
end K25

set_option exponentiation.threshold 300
namespace K25
open PySem PySem.Spec L2 StX PyProof.Rows DL K26
theorem cnt_set {g : Hg} {p : Nat} {r : List Int} : ∀ (n s : Nat), cntIn (gset g p r) (List.range' s n) ≤ cntIn g (List.range' s n) + 1
  | 0, s => by simp [cntIn]
  | n + 1, s => by
    have step : ∀ g : Hg, cntIn g (s :: List.range' (s + 1) n) = cntIn g (List.range' (s + 1) n) + (if (g s).isSome then 1 else 0) := fun g => by
      unfold cntIn
      rw [List.filter_cons]
      split <;> simp
    rw [List.range'_succ, step, step]
    by_cases hs : s = p
    · have e : cntIn (gset g p r) (List.range' (s + 1) n) = cntIn g (List.range' (s + 1) n) := cntIn_congr fun o ho => by
        have := (List.mem_range'_1.mp ho).1
        rw [gset_at, if_neg (by omega)]
      rw [e]
      have : (if (gset g p r s).isSome = true then 1 else 0) ≤ 1 := by split <;> omega
      omega
    · have := cnt_set (g := g) (p := p) (r := r) n (s + 1)
      rw [gset_at, if_neg hs]
      omega
theorem cnt_some {g g' : Hg} (h : ∀ q, (g q).isSome = (g' q).isSome) (os : List Nat) : cntIn g os = cntIn g' os := by
  unfold cntIn
  congr 1
  refine List.filter_congr fun o _ => h o
structure AddOk (w k P L : Nat) (g0 : Hg) (row : List Int) (g' : Hg) : Prop where
  gi : GI w (max P (L + k * (P + 2))) g'
  eqv : Eqv w (rowsOf w g') (row :: rowsOf w g0)
  cnt : cntIn g' (List.range w) ≤ k + 1
  keep : Sp w (rowsOf w g0) row → ∀ q, g' q = g0 q
def c_addA (G : Addr) : Ct := fun xs μ Q => ∃ (ko kd N w P L k : Nat) (g : Hg) (kvs : List (Key × Vl)) (row : List Int), xs = [.ref ko, rowV row] ∧ DG G w μ ko kd N g kvs ∧ w ≤ 100 ∧ N < 900 ∧ GI w P g ∧ row.length = w ∧ Small (2 ^ L) row ∧ cntIn g (List.range w) ≤ k ∧ L + (k + 2) * (P + 2) < 50000000 ∧
  ∀ (b : Bool) (kvs' : List (Key × Vl)) (g' : Hg), AddOk w k P L g row g' → DG G w (μ.set kd (.dict kvs')) ko kd (N + 1) g' kvs' → Q (.bl b) (μ.set kd (.dict kvs'))
theorem l_addA (G : Addr) : ∀ xs μ Q, c_addA G xs μ Q → xs.length = 2 := by
  intro xs μ Q ⟨_, _, _, _, _, _, _, _, _, _, e, _⟩
  subst e; rfl
def aBody (G : Addr) : DS := (dSeq (dIf (dTest (dOp dEq (dOp dIx (dVar 2) (dVar 4)) (dC (.int 0)))) dCont dNext)
    (dSeq (dIf (dTest (dDIn true (dVar 4) (dFld G "rows" (dVar 0)))) (dSeq (dAsg (dIfE (dTest (dOp dGt (dOp dIx (dVar 2) (dVar 4)) (dC (.int 0)))) (dVar 2) (dCB fTuple (dCons (dLc (dIter (dVar 2)) (dgName 9) dYes (dNeg (dVar 9)) [9]) dNil))) (dgDIx (dFld G "rows" (dVar 0)) (dVar 4)))
    (dSeq (dDrop (dMeth G "tidy" (c_Growing_tidy G) (dVar 0) (dCons (dVar 4) dNil)))
    (dRet (dC (.bl true))))) dNext)
    (dSeq (dAsg (dDGet (dFld G "rows" (dVar 0)) (dVar 4)) (dgName 5))
    (dSeq (dIf (dTest (dOp dEq (dOp dMod (dOp dIx (dVar 2) (dVar 4)) (dOp dIx (dVar 5) (dVar 4))) (dC (.int 0)))) (dSeq (dAsg (dCall c_plus (dCons (dVar 2) (dCons (dVar 5) (dCons (dNeg (dOp dFdivB (dOp dIx (dVar 2) (dVar 4)) (dOp dIx (dVar 5) (dVar 4)))) dNil)))) (dgName 2))
    dCont) dNext)
    (dSeq (dAsg (dCall c_divided (dCons (dOp dIx (dVar 5) (dVar 4)) (dCons (dOp dIx (dVar 2) (dVar 4)) dNil))) (dgTup 2 (dgCons (dgName 6) (dgCons (dgName 7) dgNil))))
    (dSeq (dAsg (dCall c_mixed (dCons (dVar 5) (dCons (dVar 2) (dCons (dTup (dCons (dNeg (dOp dFdivB (dOp dIx (dVar 2) (dVar 4)) (dVar 6))) (dCons (dOp dFdivB (dOp dIx (dVar 5) (dVar 4)) (dVar 6)) dNil))) dNil)))) (dgName 8))
    (dSeq (dAsg (dTup (dCons (dCall c_mixed (dCons (dVar 5) (dCons (dVar 2) (dCons (dVar 7) dNil)))) (dCons (dVar 8) (dCons (dC (.bl true)) dNil)))) (dgTup 3 (dgCons (dgDIx (dFld G "rows" (dVar 0)) (dVar 4)) (dgCons (dgName 2) (dgCons (dgName 3) dgNil)))))
    (dDrop (dMeth G "tidy" (c_Growing_tidy G) (dVar 0) (dCons (dVar 4) dNil))))))))))
def b_Growing_add (G : Addr) : DS :=
    (dSeq (dPar 2 3 (dCons (dCB fTuple (dCons (dVar 1) dNil)) (dCons (dC (.bl false)) dNil)))
    (dSeq (dFor (dRange1 (dCons (dFld G "width" (dVar 0)) dNil)) (dgName 4) (aBody G))
    (dRet (dVar 3))))
/-- what holds ahead of place p -/
structure AI (G : Addr) (w k P L ko kd N : Nat) (g0 : Hg) (row : List Int) (p n c : Nat) (μ : Mu) (g : Hg) (kvs : List (Key × Vl)) (left : List Int) : Prop where
  dg : DG G w μ ko kd N g kvs
  gi : GI w (max P (L + k * (P + 2))) g
  same : ∀ q, p ≤ q → g q = g0 q
  some' : ∀ q, (g q).isSome = (g0 q).isSome
  fl : Flat p w left
  sm : Small (2 ^ (L + c * (P + 2))) left
  cn : c + cntIn g0 (List.range' p n) ≤ k
  eqv : Eqv w (left :: rowsOf w g) (row :: rowsOf w g0)
  keep : Sp w (rowsOf w g0) row → (∀ q, g q = g0 q) ∧ Sp w (rowsOf w g0) left
theorem fdiv_cancel {c g : Int} (h : g ≠ 0) : (c * g).fdiv g = c := Int.mul_fdiv_cancel _ h
theorem add_loop {G : Addr} {w k P L ko kd N : Nat} {g0 : Hg} {row : List Int} {d : DEnds} {o1 : Option Vl} (G0 : GI w P g0) (hw : w ≤ 100) (hN : N < 900) (hrow : row.length = w) (hk : cntIn g0 (List.range w) ≤ k) (hb : L + (k + 2) * (P + 2) < 50000000) : ∀ (n p c : Nat) (μ : Mu) (g : Hg) (kvs : List (Key × Vl)) (left : List Int) (o3 o4 o5 o6 o7 o8 o9 : Option Vl), p + n = w →
    AI G w k P L ko kd N g0 row p n c μ g kvs left → (∃ b, o3 = some (.bl b)) →
    (∀ (b : Bool) (kvs' : List (Key × Vl)) (g' : Hg) (o2 o4 o5 o6 o7 o8 o9 : Option Vl), AddOk w k P L g0 row g' → DG G w (μ.set kd (.dict kvs')) ko kd (N + 1) g' kvs' → d.rt (.bl b) (μ.set kd (.dict kvs')) ∧ d.nx [some (.ref ko), o1, o2, some (.bl b), o4, o5, o6, o7, o8, o9] (μ.set kd (.dict kvs'))) →
    forD (fun _ => True) (dgName 4) (aBody G) d ((List.range' p n).map fun (i : Nat) => Vl.int (i : Int)) [some (.ref ko), o1, some (rowV left), o3, o4, o5, o6, o7, o8, o9] μ
  | 0, p, c, μ, g, kvs, left, o3, o4, o5, o6, o7, o8, o9, hp, A, ⟨b, hb3⟩, q => by
    refine ⟨trivial, ?_⟩
    subst hb3
    have e : μ.set kd (.dict kvs) = μ := DL.set_same A.dg.d
    have hpw : p = w := by omega
    subst hpw
    have ok : AddOk p k P L g0 row g := ⟨A.gi, (step_end A.gi A.fl).trans A.gi.wide (cons_wide hrow G0.wide) A.eqv, by rw [cnt_some A.some']; omega, fun h => (A.keep h).1⟩
    have := (q b kvs g (some (rowV left)) o4 o5 o6 o7 o8 o9 ok (by rw [e]; exact ⟨A.dg.o, A.dg.d, A.dg.ne, Nat.le_succ_of_le A.dg.sz, A.dg.at'⟩)).2
    rw [e] at this
    exact this
  | n + 1, p, c, μ, g, kvs, left, o3, o4, o5, o6, o7, o8, o9, hp, A, hb3, q => by
    have hsl := sizeLine_eq
    have hpw : p < w := by omega
    have hcn := A.cn
    rw [show List.range' p (n + 1) = p :: List.range' (p + 1) n from List.range'_succ] at hcn ⊢
    have ec : cntIn g0 (p :: List.range' (p + 1) n) = cntIn g0 (List.range' (p + 1) n) + (if (g0 p).isSome then 1 else 0) := by
      unfold cntIn
      rw [List.filter_cons]
      split <;> simp
    rw [ec] at hcn
    have D := A.dg
    have hdsz := D.sz
    have vp := D.at' p
    have en : w - (p + 1) = n := by omega
    rw [A.same p (Nat.le_refl p)] at vp
    have hlft := A.fl.1
    have hX : L + c * (P + 2) + 2 * (P + 2) < 50000000 := by
      have : c * (P + 2) ≤ k * (P + 2) := Nat.mul_le_mul_right _ (by omega)
      rw [Nat.add_mul] at hb
      omega
    have agree : ∀ o, p < o → g o = g0 o := fun o ho => A.same o (by omega)
    have tc : ∀ r, tidyR g0 (List.range' (p + 1) (w - (p + 1))) r = tidyR g (List.range' (p + 1) (w - (p + 1))) r := fun r => tidyR_congr fun o ho => (agree o (List.mem_range'_1.mp ho).1).symm
    refine ⟨trivial, left.map .int, _, rfl, atI_at (by rw [hlft]; exact hpw), ?_⟩
    refine dec_splitE (p := at0 left p = 0) (fun h0 => ?_) (fun h0 => ?_)
    · refine add_loop G0 hw hN hrow hk hb n (p + 1) c μ g kvs left _ _ _ _ _ _ _ (by omega) ⟨D, A.gi, fun q hq => A.same q (by omega), A.some', ⟨hlft, fun i hi => ?_⟩, A.sm, by omega, A.eqv, A.keep⟩ hb3 q
      by_cases hip : i = p
      · rw [hip]; exact h0
      · exact A.fl.2 i (by omega)
    refine ⟨ko, fsG w kd, .ref kd, rfl, D.o, look_r w kd, kd, kvs, .inl (p : Int), rfl, D.d, rfl, ?_⟩
    refine opt_splitN (fun hx1 => ?_) (fun x hx1 => ?_)
    · -- a new place
      have hg0 : g0 p = none := by
        cases hg : g0 p with
        | none => rfl
        | some h => rw [hg, hx1] at vp; cases vp
      rw [hg0] at hcn
      have hcn : c + (cntIn g0 (List.range' (p + 1) n) + 0) ≤ k := hcn
      obtain ⟨u1, u2, u3⟩ := upR_ok A.fl h0 A.sm
      have D2 := (D.put (p := p) (r := upR p left)).1
      have fin : ∀ (μ' : Mu), μ' = μ.set kd (.dict (putK' kvs (.inl (p : Int)) (rowV (upR p left)))) → (dSeq (dDrop (dMeth G "tidy" (c_Growing_tidy G) (dVar 0) (dCons (dVar 4) dNil))) (dRet (dC (.bl true)))) d [some (.ref ko), o1, some (rowV left), o3, some (.int (p : Int)), o5, o6, o7, o8, o9] μ' := by
        intro μ' e
        subst e
        refine ⟨⟨ko, fsG w kd, rfl, D2.o, look_no w kd (by decide +kernel) (by decide +kernel)⟩, ?_⟩
        refine tidy_drop (p := p) rfl ?_
        refine tidy_of ⟨ko, kd, N + 1, w, p, P, L + c * (P + 2), cntIn g0 (List.range' (p + 1) (w - (p + 1))), gset g p (upR p left), g0, _, upR p left, rfl, D2, hw, by omega, by rw [gset_at, if_pos rfl], G0, fun o ho => by rw [gset_at, if_neg (by omega)]; exact agree o ho, hpw, u1, u3, Nat.le_refl _, ?_, fun kvs' g' hg' D3 => ?_⟩
        · rw [en]
          have : (cntIn g0 (List.range' (p + 1) n) + 1) * (P + 2) + c * (P + 2) ≤ (k + 1) * (P + 2) := by
            rw [← Nat.add_mul]; exact Nat.mul_le_mul_right _ (by omega)
          simp only [Nat.add_mul] at this hb ⊢
          omega
        · have eg : g' = gset g p (tidyR g (List.range' (p + 1) (w - (p + 1))) (upR p left)) := by
            funext q'
            rw [hg' q', tc, gset_at, gset_at, gset_at]
            by_cases hq : q' = p
            · rw [if_pos hq, if_pos hq]
            · rw [if_neg hq, if_neg hq, if_neg hq]
          rw [DL.set_set] at D3 ⊢
          obtain ⟨t1, t2, t3, t4, t5⟩ := tidy_spec G0 (w - (p + 1)) (p + 1) (upR p left) (L + c * (P + 2)) (by omega) u1 u3
          rw [tc] at t1 t2 t4
          have hgi : GI w (max P (L + k * (P + 2))) g' := by
            rw [eg]
            refine A.gi.set hpw t1 (by rw [t2 p (by omega)]; exact u2) (t4.mono (Nat.pow_le_pow_right (by decide) ?_))
            rw [en]
            have : c * (P + 2) + cntIn g0 (List.range' (p + 1) n) * (P + 2) ≤ k * (P + 2) := by
              rw [← Nat.add_mul]; exact Nat.mul_le_mul_right _ (by omega)
            omega
          have e1 := tidy_eqv A.gi hpw u1 u2 u3 [] (fun b hb => by cases hb)
          rw [List.nil_append, List.nil_append, ← eg] at e1
          have e2 := step_new A.gi hpw (by rw [A.same p (Nat.le_refl p)]; exact hg0) A.fl
          have wl := cons_wide hlft A.gi.wide
          have wr := cons_wide hrow G0.wide
          have ok : AddOk w k P L g0 row g' := ⟨hgi, ((e1.trans hgi.wide wl e2).trans hgi.wide wr A.eqv), ?_, fun h => ?_⟩
          · exact (q true kvs' g' none none none none none none none ok D3).1
          · rw [eg]
            have := cnt_set (g := g) (p := p) (r := tidyR g (List.range' (p + 1) (w - (p + 1))) (upR p left)) w 0
            rw [← List.range_eq_range', cnt_some A.some'] at this
            omega
          · exfalso
            exact h0 ((sp_rows G0 hpw (A.keep h).2 A.fl.2).1 hg0)
      refine ⟨left.map .int, _, rfl, atI_at (by rw [hlft]; exact hpw), ?_⟩
      have put : ∀ P' : Prop, ((dSeq (dDrop (dMeth G "tidy" (c_Growing_tidy G) (dVar 0) (dCons (dVar 4) dNil))) (dRet (dC (.bl true)))) d [some (.ref ko), o1, some (rowV left), o3, some (.int (p : Int)), o5, o6, o7, o8, o9] (μ.set kd (.dict (putK' kvs (.inl (p : Int)) (rowV (upR p left))))) → P') → P' := fun P' h => h (fin _ rfl)
      unfold upR at fin
      refine dec_split (p := 0 < at0 left p) (fun hpos => ?_) (fun hpos => ?_)
      · rw [if_pos hpos] at fin
        exact ⟨ko, fsG w kd, .ref kd, rfl, D.o, look_r w kd, kd, kvs, .inl (p : Int), rfl, rfl, D.d, by omega, fin _ rfl⟩
      · rw [if_neg hpos] at fin
        refine ⟨left.map .int, rfl, ?_⟩
        refine DL.lc_map trivial _ (fun x => Vl.int (-x)) _ _ (fun x hx P hP => hP) (.inl ?_)
        have e : ([] : List Vl) ++ left.map (fun x => Vl.int (-x)) = (neg left).map .int := by
          unfold neg
          rw [List.nil_append, List.map_map]; rfl
        rw [e]
        exact ⟨_, (neg left).map .int, rfl, rfl, ko, fsG w kd, .ref kd, rfl, D.o, look_r w kd, kd, kvs, .inl (p : Int), rfl, rfl, D.d, by omega, fin _ rfl⟩
    · -- a place that is held
      cases hg0 : g0 p with
      | none => rw [hg0, hx1] at vp; cases vp
      | some h =>
      rw [hg0] at vp hcn
      have hcn : c + (cntIn g0 (List.range' (p + 1) n) + 1) ≤ k := hcn
      obtain ⟨a1, a2, a3, a4⟩ := G0.ok p h hg0
      have hgp : g p = some h := by rw [A.same p (Nat.le_refl p)]; exact hg0
      have hhl := a2.1
      refine ⟨ko, fsG w kd, .ref kd, rfl, D.o, look_r w kd, kd, kvs, .inl (p : Int), rowV h, rfl, D.d, rfl, vp, ?_⟩
      refine ⟨left.map .int, _, rfl, atI_at (by rw [hlft]; exact hpw), h.map .int, _, rfl, atI_at (by rw [hhl]; exact hpw), by omega, ?_⟩
      have lp := at_small A.sm p
      have hpb := at_small a4 p
      refine dec_splitE (p := (at0 left p).fmod (at0 h p) = 0) (fun hd => ?_) (fun hd => ?_)
      · obtain ⟨f1, f2⟩ := step_red A.gi hgp A.fl hd
        have hq := fdiv_size (a := at0 left p) (show at0 h p ≠ 0 by omega)
        have hqs : (-((at0 left p).fdiv (at0 h p))).natAbs ≤ 2 ^ (L + c * (P + 2) + P + 1) := by
          rw [Int.natAbs_neg]
          have c3 : ((at0 left p).fdiv (at0 h p)).natAbs * 1 ≤ ((at0 left p).fdiv (at0 h p)).natAbs * (at0 h p).natAbs := Nat.mul_le_mul_left _ (by omega)
          have c4 : 2 ^ (L + c * (P + 2)) ≤ 2 ^ (L + c * (P + 2) + P) := Nat.pow_le_pow_right (by decide) (by omega)
          have c5 : 2 ^ P ≤ 2 ^ (L + c * (P + 2) + P) := Nat.pow_le_pow_right (by decide) (by omega)
          rw [Nat.pow_succ]
          omega
        refine ⟨left.map .int, _, rfl, atI_at (by rw [hlft]; exact hpw), h.map .int, _, rfl, atI_at (by rw [hhl]; exact hpw), by omega, ?_⟩
        refine ⟨left, h, -((at0 left p).fdiv (at0 h p)), rfl, fun y hy => mulok_small (a := L + c * (P + 2) + P + 1) (b := P) hqs (a4 y hy) (by omega), ?_⟩
        refine add_loop G0 hw hN hrow hk hb n (p + 1) (c + 1) μ g kvs (red p h left) _ _ _ _ _ _ _ (by omega) ⟨D, A.gi, fun q hq => A.same q (by omega), A.some', f1, ?_, by omega, ?_, fun hs => ?_⟩ hb3 q
        · refine (red_bits hhl hlft a3 a4 A.sm).mono (Nat.pow_le_pow_right (by decide) ?_)
          rw [Nat.add_mul]; omega
        · exact f2.trans (cons_wide f1.1 A.gi.wide) (cons_wide hrow G0.wide) A.eqv
        · obtain ⟨k1, k2⟩ := A.keep hs
          exact ⟨k1, k2.plus G0.wide (Sp.self G0.wide (G0.mem hg0)) _⟩
      · -- the greatest common divisor
        refine ⟨h.map .int, _, rfl, atI_at (by rw [hhl]; exact hpw), left.map .int, _, rfl, atI_at (by rw [hlft]; exact hpw), ?_⟩
        have b1 : 2 ^ P ≤ 2 ^ (L + c * (P + 2) + P) := Nat.pow_le_pow_right (by decide) (by omega)
        have b2 : 2 ^ (L + c * (P + 2)) ≤ 2 ^ (L + c * (P + 2) + P) := Nat.pow_le_pow_right (by decide) (by omega)
        refine ⟨at0 h p, at0 left p, L + c * (P + 2) + P, rfl, a3, h0, by omega, by omega, by omega, fun gg x y Gc => ?_⟩
        obtain ⟨c1, e1⟩ := Gc.d1
        obtain ⟨c2, e2⟩ := Gc.d2
        have hgg := Gc.pos
        have hc1 : c1.natAbs ≤ 2 ^ P := by
          have : c1.natAbs * 1 ≤ c1.natAbs * gg.natAbs := Nat.mul_le_mul_left _ (by omega)
          rw [← Int.natAbs_mul, ← e1] at this
          omega
        have hc2 : (-c2).natAbs ≤ 2 ^ (L + c * (P + 2)) := by
          rw [Int.natAbs_neg]
          have : c2.natAbs * 1 ≤ c2.natAbs * gg.natAbs := Nat.mul_le_mul_left _ (by omega)
          rw [← Int.natAbs_mul, ← e2] at this
          omega
        have hxb : x.natAbs ≤ 2 ^ (L + c * (P + 2)) := Nat.le_trans Gc.bx lp
        have hyb : y.natAbs ≤ 2 ^ P := Nat.le_trans Gc.by' hpb
        obtain ⟨m1, m2, m3, m4⟩ := step_mix A.gi hgp A.fl Gc e1 e2
        have q2 : (at0 left p).fdiv gg = c2 := by rw [e2]; exact fdiv_cancel (by omega)
        have q1 : (at0 h p).fdiv gg = c1 := by rw [e1]; exact fdiv_cancel (by omega)
        refine ⟨rfl, rfl, left.map .int, _, rfl, atI_at (by rw [hlft]; exact hpw), by omega, h.map .int, _, rfl, atI_at (by rw [hhl]; exact hpw), by omega, by show 2 ≤ _; omega, ?_⟩
        rw [← q1] at hc1 m3 m4
        rw [← q2] at hc2 m3 m4
        refine ⟨h, left, -((at0 left p).fdiv gg), (at0 h p).fdiv gg, rfl, fun z hz => mulok_small hc2 (a4 z hz) (by omega), fun z hz => mulok_small hc1 (A.sm z hz) (by omega), ?_⟩
        refine ⟨h, left, x, y, rfl, fun z hz => mulok_small hxb (a4 z hz) (by omega), fun z hz => mulok_small hyb (A.sm z hz) (by omega), by show 3 ≤ _; omega, rfl, ?_⟩
        refine ⟨ko, fsG w kd, .ref kd, rfl, D.o, look_r w kd, kd, kvs, .inl (p : Int), rfl, rfl, D.d, by omega, rfl, ?_⟩
        have D2 := (D.put (p := p) (r := mixR x y h left)).2 (by rw [hgp]; rfl)
        have sNew : Small (2 ^ (L + c * (P + 2) + P + 1)) (mixR x y h left) := mixR_small hhl hlft hxb hyb a4 A.sm (by omega)
        have sAway : Small (2 ^ (L + c * (P + 2) + P + 1)) (mixR (-((at0 left p).fdiv gg)) ((at0 h p).fdiv gg) h left) := mixR_small hhl hlft hc2 hc1 a4 A.sm (by omega)
        have pos : 0 < at0 (mixR x y h left) p := by rw [m2]; exact hgg
        refine ⟨⟨ko, fsG w kd, rfl, D2.o, look_no w kd (by decide +kernel) (by decide +kernel)⟩, ?_⟩
        refine tidy_drop (p := p) rfl ?_
        refine tidy_of ⟨ko, kd, N, w, p, P, L + c * (P + 2) + P + 1, cntIn g0 (List.range' (p + 1) (w - (p + 1))), gset g p (mixR x y h left), g0, _, mixR x y h left, rfl, D2, hw, by omega, by rw [gset_at, if_pos rfl], G0, fun o ho => by rw [gset_at, if_neg (by omega)]; exact agree o ho, hpw, m1, sNew, Nat.le_refl _, ?_, fun kvs' g' hg' D3 => ?_⟩
        · rw [en]
          have : (cntIn g0 (List.range' (p + 1) n) + 1) * (P + 2) + c * (P + 2) ≤ k * (P + 2) := by
            rw [← Nat.add_mul]; exact Nat.mul_le_mul_right _ (by omega)
          simp only [Nat.add_mul] at this hb ⊢
          omega
        · have eg : g' = gset g p (tidyR g (List.range' (p + 1) (w - (p + 1))) (mixR x y h left)) := by
            funext q'
            rw [hg' q', tc, gset_at, gset_at, gset_at]
            by_cases hq : q' = p
            · rw [if_pos hq, if_pos hq]
            · rw [if_neg hq, if_neg hq, if_neg hq]
          rw [DL.set_set] at D3 ⊢
          obtain ⟨t1, t2, t3, t4, t5⟩ := tidy_spec G0 (w - (p + 1)) (p + 1) (mixR x y h left) (L + c * (P + 2) + P + 1) (by omega) m1 sNew
          rw [tc] at t1 t2 t4
          have hgi : GI w (max P (L + k * (P + 2))) g' := by
            rw [eg]
            refine A.gi.set hpw t1 (by rw [t2 p (by omega)]; exact pos) (t4.mono (Nat.pow_le_pow_right (by decide) ?_))
            rw [en]
            have : c * (P + 2) + (P + 2) + cntIn g0 (List.range' (p + 1) n) * (P + 2) ≤ k * (P + 2) := by
              have : c * (P + 2) + (P + 2) + cntIn g0 (List.range' (p + 1) n) * (P + 2) = (c + 1 + cntIn g0 (List.range' (p + 1) n)) * (P + 2) := by rw [Nat.add_mul, Nat.add_mul, Nat.one_mul]
              rw [this]; exact Nat.mul_le_mul_right _ (by omega)
            omega
          have e1' := tidy_eqv A.gi hpw m1 pos sNew [mixR (-((at0 left p).fdiv gg)) ((at0 h p).fdiv gg) h left] (fun b hb => by rw [List.mem_singleton.mp hb]; exact m3.1)
          rw [← eg] at e1'
          have wl := cons_wide hlft A.gi.wide
          have wr := cons_wide hrow G0.wide
          have wn := cons_wide m3.1 hgi.wide
          refine add_loop G0 hw hN hrow hk hb n (p + 1) (c + 1) (μ.set kd (.dict kvs')) g' kvs' _ _ _ _ _ _ _ _ (by omega) ⟨D3, hgi, fun q' hq' => ?_, fun q' => ?_, m3, ?_, by omega, ?_, fun hs => ?_⟩ ⟨true, rfl⟩ fun b kvs'' g'' o2 o4 o5 o6 o7 o8 o9 ok D4 => ?_
          · rw [eg, gset_at, if_neg (by omega)]; exact A.same q' (by omega)
          · rw [eg, gset_at]
            by_cases hq : q' = p
            · rw [if_pos hq, hq, hg0]; rfl
            · rw [if_neg hq]; exact A.some' q'
          · refine sAway.mono (Nat.pow_le_pow_right (by decide) ?_)
            rw [Nat.add_mul]; omega
          · exact (Eqv.trans wn wl e1' m4).trans wn wr A.eqv
          · exfalso
            obtain ⟨mm, em⟩ := (sp_rows G0 hpw (A.keep hs).2 A.fl.2).2 h hg0
            apply hd
            rw [em]
            exact Int.mul_fmod_left _ _
          · rw [DL.set_set] at D4 ⊢
            exact q b kvs'' g'' o2 o4 o5 o6 o7 o8 o9 ok D4
theorem r_addA (G : Addr) : ∀ xs μ Q, c_addA G xs μ Q → b_Growing_add G (spEnds Q) (startD ["self", "row", "left", "is_new", "place", "held", "number", "multiples", "away", "one"] xs) μ := by
  intro xs μ Q ⟨ko, kd, N, w, P, L, k, g, kvs, row, e, D, hw, hN, G0, hrow, hs, hk, hb, q⟩
  subst e
  refine ⟨_, row.map .int, rfl, rfl, ?_⟩
  refine ⟨ko, fsG w kd, .int (w : Int), rfl, D.o, look_w w kd, (w : Int), rfl, by omega, by omega, ?_⟩
  rw [Int.toNat_natCast, rngD_map, List.range_eq_range']
  refine add_loop G0 hw hN hrow hk hb w 0 0 μ g kvs row _ _ _ _ _ _ _ (by omega) ⟨D, G0.mono (Nat.le_max_left _ _), fun q _ => rfl, fun q => rfl, ⟨hrow, fun i hi => absurd hi (Nat.not_lt_zero _)⟩, by rw [Nat.zero_mul, Nat.add_zero]; exact hs, by rw [← List.range_eq_range']; omega, ?_, fun h => ⟨fun q => rfl, h⟩⟩ ⟨false, rfl⟩ fun b kvs' g' o2 o4 o5 o6 o7 o8 o9 ok D' => ?_
  · have := cons_wide hrow G0.wide
    exact ⟨Sub.refl this, Sub.refl this⟩
  · exact ⟨q b kvs' g' ok D', q b kvs' g' ok D'⟩
/-! a row that begins behind all that are held -/
theorem tidyR_none : ∀ (os : List Nat) (r : List Int), tidyR (fun _ => none) os r = r
  | [], r => rfl
  | o :: os, r => tidyR_none os r
def c_addB (G : Addr) : Ct := fun xs μ Q => ∃ (ko kd N w L p : Nat) (g : Hg) (kvs : List (Key × Vl)) (row : List Int), xs = [.ref ko, rowV row] ∧ DG G w μ ko kd N g kvs ∧ w ≤ 100 ∧ N < 900 ∧ (∀ q, p ≤ q → g q = none) ∧ p < w ∧ Flat p w row ∧ 0 < at0 row p ∧ Small (2 ^ L) row ∧ L < 50000000 ∧
  ∀ (kvs' : List (Key × Vl)), DG G w (μ.set kd (.dict kvs')) ko kd (N + 1) (gset g p row) kvs' → Q (.bl true) (μ.set kd (.dict kvs'))
theorem addB_loop {G : Addr} {w L ko kd N p : Nat} {g : Hg} {kvs : List (Key × Vl)} {row : List Int} {d : DEnds} {μ : Mu} {o1 o3 o5 o6 o7 o8 o9 : Option Vl} (D : DG G w μ ko kd N g kvs) (hw : w ≤ 100) (hN : N < 900) (hg : ∀ q, p ≤ q → g q = none) (hpw : p < w) (hf : Flat p w row) (hpos : 0 < at0 row p) (hs : Small (2 ^ L) row) (hL : L < 50000000)
    (q : ∀ (kvs' : List (Key × Vl)), DG G w (μ.set kd (.dict kvs')) ko kd (N + 1) (gset g p row) kvs' → d.rt (.bl true) (μ.set kd (.dict kvs'))) : ∀ (n s : Nat) (o4 : Option Vl), s + n = w → s ≤ p →
    forD (fun _ => True) (dgName 4) (aBody G) d ((List.range' s n).map fun (i : Nat) => Vl.int (i : Int)) [some (.ref ko), o1, some (rowV row), o3, o4, o5, o6, o7, o8, o9] μ
  | 0, s, o4, hn, hsp => by omega
  | n + 1, s, o4, hn, hsp => by
    have hsl := sizeLine_eq
    rw [show List.range' s (n + 1) = s :: List.range' (s + 1) n from List.range'_succ]
    refine ⟨trivial, row.map .int, _, rfl, atI_at (by rw [hf.1]; omega), ?_⟩
    refine dec_splitE (p := at0 row s = 0) (fun h0 => ?_) (fun h0 => ?_)
    · have hsp' : s + 1 ≤ p := by
        rcases Nat.lt_or_eq_of_le hsp with z | z
        · exact z
        · rw [z] at h0; omega
      exact addB_loop D hw hN hg hpw hf hpos hs hL q n (s + 1) _ (by omega) hsp'
    have hs' : s = p := by
      rcases Nat.lt_or_eq_of_le hsp with z | z
      · exact absurd (hf.2 s z) h0
      · exact z
    subst hs'
    have vp := D.at' s
    have hdsz := D.sz
    rw [hg s (Nat.le_refl s)] at vp
    refine ⟨ko, fsG w kd, .ref kd, rfl, D.o, look_r w kd, kd, kvs, .inl (s : Int), rfl, D.d, rfl, ?_⟩
    refine opt_splitN (fun hx1 => ?_) (fun x hx1 => ?_)
    · have D2 := (D.put (p := s) (r := row)).1
      refine ⟨row.map .int, _, rfl, atI_at (by rw [hf.1]; exact hpw), ?_⟩
      refine dec_split (p := 0 < at0 row s) (fun _ => ?_) (fun k => absurd hpos k)
      refine ⟨ko, fsG w kd, .ref kd, rfl, D.o, look_r w kd, kd, kvs, .inl (s : Int), rfl, rfl, D.d, by omega, ?_⟩
      refine ⟨⟨ko, fsG w kd, rfl, D2.o, look_no w kd (by decide +kernel) (by decide +kernel)⟩, ?_⟩
      refine tidy_drop (p := s) rfl ?_
      refine ⟨ko, kd, N + 1, w, s, L, 0, 0, L + 1, 0, gset g s row, fun _ => none, _, row, rfl, D2, hw, by omega, by rw [gset_at, if_pos rfl], ⟨fun q r e => by cases e⟩, fun o ho => by rw [gset_at, if_neg (by omega)]; exact hg o (by omega), hpw, hf, hs.mono (Nat.pow_le_pow_right (by decide) (by omega)), (fun o ho => by cases ho), (fun o h o' _ e => by cases e), by simp [cntIn], by omega, by omega, fun kvs' g' hg' D3 => ?_⟩
      have eg : g' = gset g s row := by
        funext q'
        rw [hg' q', tidyR_none, gset_at, gset_at]
        by_cases hq : q' = s
        · rw [if_pos hq, if_pos hq]
        · rw [if_neg hq, if_neg hq]
      subst eg
      rw [DL.set_set] at D3 ⊢
      exact q kvs' D3
    · rw [hx1] at vp; cases vp
def c_Growing_add (G : Addr) : Ct := fun xs μ Q => c_addA G xs μ Q ∨ c_addB G xs μ Q
theorem l_Growing_add (G : Addr) : ∀ xs μ Q, c_Growing_add G xs μ Q → xs.length = 2 := by
  intro xs μ Q h
  rcases h with h | ⟨_, _, _, _, _, _, _, _, _, e, _⟩
  · exact l_addA G xs μ Q h
  · subst e; rfl
theorem r_Growing_add (G : Addr) : ∀ xs μ Q, c_Growing_add G xs μ Q → b_Growing_add G (spEnds Q) (startD ["self", "row", "left", "is_new", "place", "held", "number", "multiples", "away", "one"] xs) μ := by
  intro xs μ Q h
  rcases h with h | ⟨ko, kd, N, w, L, p, g, kvs, row, e, D, hw, hN, hg, hpw, hf, hpos, hs, hL, q⟩
  · exact r_addA G xs μ Q h
  · subst e
    refine ⟨_, row.map .int, rfl, rfl, ?_⟩
    refine ⟨ko, fsG w kd, .int (w : Int), rfl, D.o, look_w w kd, (w : Int), rfl, by omega, by omega, ?_⟩
    rw [Int.toNat_natCast, rngD_map, List.range_eq_range']
    exact addB_loop D hw hN hg hpw hf hpos hs hL q w 0 _ (by omega) (by omega)
end K25

set_option exponentiation.threshold 300
namespace K25
open PySem PySem.Spec L2 StX PyProof.Rows DL K26
/-! basis -/
def downs : Nat → List Vl
  | 0 => []
  | m + 1 => .int (m : Int) :: downs m
theorem downD_eq : ∀ n : Nat, downD ((n : Int) - 1) n = downs n
  | 0 => rfl
  | n + 1 => by
    unfold downs
    rw [← downD_eq n]
    unfold downD
    rw [List.range_succ_eq_map, List.map_cons, List.map_map]
    congr 1
    · congr 1; omega
    · refine List.map_congr_left fun i _ => ?_
      show Vl.int _ = Vl.int _
      congr 1
      omega
/-- how great the rows get from above -/
def Tq (P : Nat) : Nat → Nat
  | 0 => P
  | i + 1 => P + i * (P + 2) + 1 + Tq P i + i
/-- tidying against rows that are small where others begin -/
theorem tidy_size {w p Y P T B C : Nat} {gA : Hg} (GA : GI w T gA) (hP : ∀ o h o', p < o → gA o = some h → (gA o').isSome = true → (at0 h o').natAbs ≤ 2 ^ P) (hB : Y + C * (P + 2) + 1 + T ≤ B) : ∀ (n s c : Nat) (r : List Int), p < s → r.length = w → Small (2 ^ (B + c)) r →
    (∀ o, (gA o).isSome = true → (at0 r o).natAbs ≤ 2 ^ (Y + c * (P + 2))) → c + cntIn gA (List.range' s n) ≤ C → Small (2 ^ (B + C)) (tidyR gA (List.range' s n) r)
  | 0, s, c, r, hps, hf, hx, hy, hb => hx.mono (Nat.pow_le_pow_right (by decide) (by omega))
  | n + 1, s, c, r, hps, hf, hx, hy, hb => by
    rw [List.range'_succ] at hb ⊢
    have ec : cntIn gA (s :: List.range' (s + 1) n) = cntIn gA (List.range' (s + 1) n) + (if (gA s).isSome then 1 else 0) := by
      unfold cntIn
      rw [List.filter_cons]
      split <;> simp
    rw [ec] at hb
    cases hgs : gA s with
    | none =>
      rw [hgs] at hb
      have hb : c + (cntIn gA (List.range' (s + 1) n) + 0) ≤ C := hb
      have et : tidyR gA (s :: List.range' (s + 1) n) r = tidyR gA (List.range' (s + 1) n) r := by rw [tidyR, hgs]
      rw [et]
      exact tidy_size GA hP hB n (s + 1) c r (by omega) hf hx hy (by omega)
    | some h =>
      obtain ⟨a1, a2, a3, a4⟩ := GA.ok s h hgs
      rw [hgs] at hb
      have hb : c + (cntIn gA (List.range' (s + 1) n) + 1) ≤ C := hb
      have hcC : (c + 1) * (P + 2) ≤ C * (P + 2) := Nat.mul_le_mul_right _ (by omega)
      rw [Nat.add_mul, Nat.one_mul] at hcC
      have hss : (gA s).isSome = true := by rw [hgs]; rfl
      have hqs : (-((at0 r s).fdiv (at0 h s))).natAbs ≤ 2 ^ (Y + c * (P + 2) + 1) := by
        rw [Int.natAbs_neg]
        have c1 := hy s hss
        have c2 := fdiv_le (a := at0 r s) (show at0 h s ≠ 0 by omega)
        have c3 := Nat.one_le_two_pow (n := Y + c * (P + 2))
        rw [Nat.pow_succ]
        omega
      have hat : ∀ i, (at0 (red s h r) i).natAbs ≤ (at0 r i).natAbs + (-((at0 r s).fdiv (at0 h s))).natAbs * (at0 h i).natAbs := fun i => by
        rw [red_at a2.1 hf, Int.natAbs_neg, ← Int.natAbs_mul]; omega
      have et : tidyR gA (s :: List.range' (s + 1) n) r = tidyR gA (List.range' (s + 1) n) (red s h r) := by rw [tidyR, hgs]
      rw [et]
      refine tidy_size GA hP hB n (s + 1) (c + 1) (red s h r) (by omega) (red_len a2.1 hf) (fun x hx' => ?_) (fun o ho => ?_) (by omega)
      · obtain ⟨i, _, ei⟩ := mem_at hx'
        rw [← ei]
        have k1 := hat i
        have k2 := at_small hx i
        have k3 := Nat.mul_le_mul hqs (at_small a4 i)
        rw [← Nat.pow_add] at k3
        have k4 : 2 ^ (Y + c * (P + 2) + 1 + T) ≤ 2 ^ (B + c) := Nat.pow_le_pow_right (by decide) (by omega)
        rw [← Nat.add_assoc, Nat.pow_succ]
        omega
      · have k1 := hat o
        have k2 := hy o ho
        have k3 := Nat.mul_le_mul hqs (hP s h o hps hgs ho)
        rw [← Nat.pow_add] at k3
        have k4 : 2 ^ (Y + c * (P + 2)) ≤ 2 ^ (Y + c * (P + 2) + 1 + P) := Nat.pow_le_pow_right (by decide) (by omega)
        rw [show Y + (c + 1) * (P + 2) = Y + c * (P + 2) + 1 + P + 1 by rw [Nat.add_mul]; omega, Nat.pow_succ]
        omega
def upper (g : Hg) (p : Nat) : Hg := fun q => if p ≤ q then g q else none
theorem Tq_mono (P i : Nat) : Tq P i ≤ Tq P (i + 1) := by rw [show Tq P (i + 1) = P + i * (P + 2) + 1 + Tq P i + i from rfl]; omega
theorem Tq_ge (P : Nat) : ∀ i, P ≤ Tq P i
  | 0 => Nat.le_refl _
  | i + 1 => Nat.le_trans (Tq_ge P i) (Tq_mono P i)
theorem Tq_up (P : Nat) : ∀ {i j : Nat}, i ≤ j → Tq P i ≤ Tq P j
  | i, 0, h => by rw [show i = 0 by omega]; exact Nat.le_refl _
  | i, j + 1, h => by
    by_cases e : i = j + 1
    · rw [e]; exact Nat.le_refl _
    · exact Nat.le_trans (Tq_up P (show i ≤ j by omega)) (Tq_mono P j)
def c_Growing_basis (G : Addr) : Ct := fun xs μ Q => ∃ (ko kd N w P k : Nat) (g : Hg) (kvs : List (Key × Vl)), xs = [.ref ko] ∧ DG G w μ ko kd N g kvs ∧ w ≤ 100 ∧ N < 900 ∧ GI w P g ∧ cntIn g (List.range w) ≤ k ∧ Tq P k < 60000000 ∧
  ∀ (kvs' : List (Key × Vl)) (g' : Hg), Hnf w (rowsOf w g') → Eqv w (rowsOf w g') (rowsOf w g) → DG G w (μ.set kd (.dict kvs')) ko kd N g' kvs' → Q (.tup ((rowsOf w g').map rowV)) (μ.set kd (.dict kvs'))
theorem l_Growing_basis (G : Addr) : ∀ xs μ Q, c_Growing_basis G xs μ Q → xs.length = 1 := by
  intro xs μ Q ⟨_, _, _, _, _, _, _, _, e, _⟩
  subst e; rfl
def sBody (G : Addr) : DS := (dIf (dTest (dDIn false (dVar 1) (dFld G "rows" (dVar 0)))) (dDrop (dMeth G "tidy" (c_Growing_tidy G) (dVar 0) (dCons (dVar 1) dNil))) dNext)
def b_Growing_basis (G : Addr) : DS :=
    (dSeq (dFor (dRangeDown (dCons (dOp (dI0 fun i j => .int (i - j)) (dFld G "width" (dVar 0)) (dC (.int 1))) (dCons (dNeg (dC (.int 1))) (dCons (dNeg (dC (.int 1))) dNil)))) (dgName 1) (sBody G))
    (dRet (dCB fTuple (dCons (dLc (dRange1 (dCons (dFld G "width" (dVar 0)) dNil)) (dgName 1) (dTest (dDIn false (dVar 1) (dFld G "rows" (dVar 0)))) (dDGet (dFld G "rows" (dVar 0)) (dVar 1)) [1]) dNil))))
theorem cnt_upper {g : Hg} {p n : Nat} : cntIn (upper g p) (List.range' p n) = cntIn g (List.range' p n) := cntIn_congr fun o ho => by
  have := (List.mem_range'_1.mp ho).1
  unfold upper
  rw [if_pos this]
/-- from p on made small -/
theorem basis_loop {G : Addr} {w P k ko kd N : Nat} {g0 : Hg} {d : DEnds} (hw : w ≤ 100) (hN : N < 900) (hb : Tq P k < 60000000) (hc0 : cntIn g0 (List.range w) ≤ k) : ∀ (p : Nat) (μ : Mu) (g : Hg) (kvs : List (Key × Vl)) (o1 : Option Vl), p ≤ w → DG G w μ ko kd N g kvs →
    GI w (Tq P k) g → GI w (Tq P (cntIn g0 (List.range' p (w - p)))) (upper g p) → (∀ q r, q < p → g q = some r → Small (2 ^ P) r) → (∀ q r, g q = some r → (at0 r q).natAbs ≤ 2 ^ P) → (∀ q, (g q).isSome = (g0 q).isSome) → Reds g p → Eqv w (rowsOf w g) (rowsOf w g0) → Wide w (rowsOf w g0) →
    (∀ (kvs' : List (Key × Vl)) (g' : Hg) (o1 : Option Vl), Reds g' 0 → GI w (Tq P k) g' → Eqv w (rowsOf w g') (rowsOf w g0) → DG G w (μ.set kd (.dict kvs')) ko kd N g' kvs' → d.nx [some (.ref ko), o1] (μ.set kd (.dict kvs'))) →
    forD (fun _ => True) (dgName 1) (sBody G) d (downs p) [some (.ref ko), o1] μ
  | 0, μ, g, kvs, o1, hp, D, G1, GU, hs, hpv, hsm, hR, hE, hW0, q => by
    refine ⟨trivial, ?_⟩
    have e : μ.set kd (.dict kvs) = μ := DL.set_same D.d
    have := q kvs g o1 hR G1 hE (by rw [e]; exact D)
    rw [e] at this
    exact this
  | p + 1, μ, g, kvs, o1, hp, D, G1, GU, hs, hpv, hsm, hR, hE, hW0, q => by
    have hpw : p < w := by omega
    have vp := D.at' p
    have csp := cnt_split (g := g0) hpw
    have cle : cntIn g0 (List.range' p (w - p)) ≤ k := cnt_le hc0 (by omega)
    refine ⟨trivial, ko, fsG w kd, .ref kd, rfl, D.o, look_r w kd, kd, kvs, .inl (p : Int), rfl, D.d, rfl, ?_⟩
    refine opt_split (fun x hx1 => ?_) (fun hx1 => ?_)
    · cases hg : g p with
      | none => rw [hg, hx1] at vp; cases vp
      | some r =>
      have h0s : (g0 p).isSome = true := by rw [← hsm p, hg]; rfl
      rw [h0s, if_pos rfl] at csp
      obtain ⟨a1, a2, a3, a4⟩ := G1.ok p r hg
      have rs : Small (2 ^ P) r := hs p r (by omega) hg
      have T : Tq P (cntIn g0 (List.range' (p + 1) (w - (p + 1)))) ≤ Tq P k := Tq_up P (by omega)
      have cU : cntIn (upper g (p + 1)) (List.range' (p + 1) (w - (p + 1))) = cntIn g0 (List.range' (p + 1) (w - (p + 1))) := by rw [cnt_upper]; exact cnt_some hsm _
      generalize hi : cntIn g0 (List.range' (p + 1) (w - (p + 1))) = ci at csp T cU GU
      have hTi : P + ci * (P + 2) + 1 + Tq P ci + ci ≤ Tq P k := Tq_up P (show ci + 1 ≤ k by omega)
      have hPu : ∀ o h o', p < o → upper g (p + 1) o = some h → (upper g (p + 1) o').isSome = true → (at0 h o').natAbs ≤ 2 ^ P := fun o h o' ho e1 e2 => by
        unfold upper at e1 e2
        rw [if_pos (show p + 1 ≤ o from ho)] at e1
        by_cases ho' : p + 1 ≤ o'
        · rw [if_pos ho'] at e2
          obtain ⟨h', eh'⟩ := Option.isSome_iff_exists.mp e2
          by_cases c1 : o' < o
          · rw [(G1.ok o h e1).2.1.2 o' c1]; exact Nat.zero_le _
          · by_cases c2 : o' = o
            · rw [c2]; exact hpv o h e1
            · have c3 := hR o h (by omega) e1 o' h' (by omega) eh'
              have c4 := hpv o' h' eh'
              omega
        · rw [if_neg ho'] at e2; cases e2
      refine ⟨⟨ko, fsG w kd, rfl, D.o, look_no w kd (by decide +kernel) (by decide +kernel)⟩, ?_⟩
      refine ⟨ko, kd, N, w, p, P, P, Tq P ci, P + ci * (P + 2) + 1 + Tq P ci, ci, g, upper g (p + 1), kvs, r, rfl, D, hw, by omega, hg, GU, fun o ho => by unfold upper; rw [if_pos (show p + 1 ≤ o from ho)], hpw, a2, rs.mono (Nat.pow_le_pow_right (by decide) (by omega)), fun o _ => at_small rs o, hPu, by rw [cU]; exact Nat.le_refl _, Nat.le_refl _, by omega, fun kvs' g' hg' D3 => ?_⟩
      · have tc : tidyR (upper g (p + 1)) (List.range' (p + 1) (w - (p + 1))) r = tidyR g (List.range' (p + 1) (w - (p + 1))) r := tidyR_congr fun o ho => by
          have := (List.mem_range'_1.mp ho).1
          unfold upper
          rw [if_pos this]
        have et : tidyG w g p = gset g p (tidyR g (List.range' (p + 1) (w - (p + 1))) r) := by unfold tidyG; rw [hg]
        have eg : g' = tidyG w g p := by
          funext q'
          rw [hg' q', tc, et]
        obtain ⟨t1, t2, t3, t4, t5⟩ := tidy_spec GU (w - (p + 1)) (p + 1) r P (by omega) a2 rs
        have t4 := tidy_size (Y := P) (C := ci) (B := P + ci * (P + 2) + 1 + Tq P ci) GU hPu (Nat.le_refl _) (w - (p + 1)) (p + 1) 0 r (by omega) a2.1 (rs.mono (Nat.pow_le_pow_right (by decide) (by omega))) (fun o _ => by rw [Nat.zero_mul]; exact at_small rs o) (by rw [cU, Nat.zero_add]; exact Nat.le_refl _)
        rw [tc] at t1 t2 t4
        obtain ⟨k1, k2, k3, k4⟩ := tidy_down G1 hR hpw
        have gs' : ∀ q, (g' q).isSome = (g0 q).isSome := fun q => by rw [eg, k4 q]; exact hsm q
        have hTu : Tq P ci ≤ Tq P (cntIn g0 (List.range' p (w - p))) := by rw [csp]; exact Tq_mono _ _
        have sm' : Small (2 ^ Tq P (cntIn g0 (List.range' p (w - p)))) (tidyR g (List.range' (p + 1) (w - (p + 1))) r) := by rw [csp]; exact t4
        have pos' : 0 < at0 (tidyR g (List.range' (p + 1) (w - (p + 1))) r) p := by rw [t2 p (by omega)]; exact a3
        have GI' : GI w (Tq P k) g' := by
          rw [eg, et]
          exact G1.set hpw t1 pos' (sm'.mono (Nat.pow_le_pow_right (by decide) (Tq_up P cle)))
        refine basis_loop hw hN hb hc0 p (μ.set kd (.dict kvs')) g' kvs' _ (by omega) D3 GI' ⟨fun q' r' e' => ?_⟩ (fun q' r' hq' e' => ?_) (fun q' r' e' => ?_) gs' (by rw [eg]; exact k1) ?_ hW0 fun kvs'' g'' o1 r1 r2 r3 D4 => ?_
        · unfold upper at e'
          by_cases hq : p ≤ q'
          · rw [if_pos hq] at e'
            by_cases hqp : q' = p
            · rw [hqp, eg, et, gset_at, if_pos rfl] at e'
              have e' := Option.some.inj e'
              subst e'
              rw [hqp]
              exact ⟨hpw, t1, pos', sm'⟩
            · rw [eg, et, gset_at, if_neg hqp] at e'
              have : upper g (p + 1) q' = some r' := by
                unfold upper
                rw [if_pos (show p + 1 ≤ q' by omega)]; exact e'
              obtain ⟨b1, b2, b3, b4⟩ := GU.ok q' r' this
              exact ⟨b1, b2, b3, b4.mono (Nat.pow_le_pow_right (by decide) hTu)⟩
          · rw [if_neg hq] at e'; cases e'
        · rw [eg, et, gset_at, if_neg (by omega)] at e'
          exact hs q' r' (by omega) e'
        · rw [eg, et, gset_at] at e'
          by_cases hq : q' = p
          · rw [if_pos hq] at e'
            have e' := Option.some.inj e'
            rw [← e', hq, t2 p (by omega)]
            exact hpv p r hg
          · rw [if_neg hq] at e'; exact hpv q' r' e'
        · rw [eg]
          rw [eg] at GI'
          exact k3.trans GI'.wide hW0 hE
        · rw [DL.set_set] at D4 ⊢
          exact q kvs'' g'' o1 r1 r2 r3 D4
    · cases hg : g p with
      | some r => rw [hg, hx1] at vp; cases vp
      | none =>
      have h0s : (g0 p).isSome = false := by rw [← hsm p, hg]; rfl
      rw [h0s] at csp
      have csp : cntIn g0 (List.range' p (w - p)) = cntIn g0 (List.range' (p + 1) (w - (p + 1))) := csp
      refine basis_loop hw hN hb hc0 p μ g kvs _ (by omega) D G1 ⟨fun q' r' e' => ?_⟩ (fun q' r' hq' e' => hs q' r' (by omega) e') hpv hsm (fun q' h hq' e' => ?_) hE hW0 q
      · have e2 := e'
        unfold upper at e2
        by_cases hq : p ≤ q'
        · rw [if_pos hq] at e2
          have hqp : q' ≠ p := fun k => by rw [k, hg] at e2; cases e2
          have : upper g (p + 1) q' = some r' := by
            unfold upper
            rw [if_pos (show p + 1 ≤ q' by omega)]; exact e2
          rw [csp]
          exact GU.ok q' r' this
        · rw [if_neg hq] at e2; cases e2
      · by_cases hqp : q' = p
        · rw [hqp, hg] at e'; cases e'
        · exact hR q' h (by omega) e'
theorem rfb_rows {n : Nat} (S : List (List Int)) : rfb n (.tup (S.map rowV)) = true := by
  rw [rfb]
  induction S with
  | nil => rw [List.map_nil, rfbs]
  | cons r S ih => rw [List.map_cons, rfbs, ih, rfb_row]; rfl
theorem r_Growing_basis (G : Addr) : ∀ xs μ Q, c_Growing_basis G xs μ Q → b_Growing_basis G (spEnds Q) (startD ["self", "place"] xs) μ := by
  intro xs μ Q ⟨ko, kd, N, w, P, k, g, kvs, e, D, hw, hN, G0, hk, hb, q⟩
  subst e
  refine ⟨ko, fsG w kd, .int (w : Int), rfl, D.o, look_w w kd, (w : Int) - 1, -1, rfl, by omega, by omega, ?_⟩
  rw [show ((w : Int) - 1 - -1).toNat = w by omega, downD_eq]
  refine basis_loop hw hN hb hk w μ g kvs _ (Nat.le_refl w) D (G0.mono (Tq_up P (Nat.zero_le k))) ⟨fun q' r' e' => ?_⟩ (fun q' r' _ e' => (G0.ok q' r' e').2.2.2) (fun q' r' e' => at_small (G0.ok q' r' e').2.2.2 q') (fun q => rfl) (fun q' h hq' e' => absurd (G0.ok q' h e').1 (by omega)) ⟨Sub.refl G0.wide, Sub.refl G0.wide⟩ G0.wide fun kvs' g' o1 hR G' hE D' => ?_
  · unfold upper at e'
    by_cases hq : w ≤ q'
    · rw [if_pos hq] at e'; exact absurd (G0.ok q' r' e').1 (by omega)
    · rw [if_neg hq] at e'; cases e'
  · have hn := hnf_rows G' hR
    refine ⟨ko, fsG w kd, .int (w : Int), rfl, D'.o, look_w w kd, (w : Int), rfl, by omega, by omega, ?_⟩
    rw [Int.toNat_natCast, rngD_map]
    refine DL.lc_filter trivial _ (fun i => (g' i).isSome) (fun i => rowV ((g' i).getD [])) _ _ (fun i hi Pp R h1 h2 => ?_) (.inl ?_)
    · have vi := D'.at' i
      refine ⟨ko, fsG w kd, .ref kd, rfl, D'.o, look_r w kd, kd, kvs', .inl (i : Int), rfl, D'.d, rfl, ?_⟩
      refine opt_split (fun x hx1 => ?_) (fun hx1 => ?_)
      · cases hg : g' i with
        | none => rw [hg, hx1] at vi; cases vi
        | some r =>
          rw [hg] at vi h1
          exact ⟨ko, fsG w kd, .ref kd, rfl, D'.o, look_r w kd, kd, kvs', .inl (i : Int), rowV r, rfl, D'.d, rfl, vi, h1 rfl⟩
      · cases hg : g' i with
        | none => rw [hg] at h2; exact h2 rfl
        | some r => rw [hg, hx1] at vi; cases vi
    · refine ⟨_, (rowsOf w g').map rowV, rfl, ?_, q kvs' g' hn hE D'⟩
      show some _ = some _
      congr 1
      rw [List.nil_append]
      unfold rowsOf
      generalize List.range w = os
      induction os with
      | nil => rfl
      | cons o os ih =>
        cases hg : g' o with
        | none => rw [List.filter_cons_of_neg (by rw [hg]; simp), List.filterMap_cons_none hg]; exact ih
        | some r => rw [List.filter_cons_of_pos (by rw [hg]; rfl), List.filterMap_cons_some hg, List.map_cons, List.map_cons, ih, hg]; rfl
end K25

set_option exponentiation.threshold 300
namespace K25
open PySem PySem.Spec L2 StX PyProof.Rows DL K26
def Pre (μ μ' : Mu) : Prop := ∃ ex, μ' = μ ++ ex
theorem Pre.refl (μ : Mu) : Pre μ μ := ⟨[], by simp⟩
theorem Pre.add {μ μ' : Mu} (h : Pre μ μ') (ex : Mu) : Pre μ (μ' ++ ex) := by
  obtain ⟨e, h⟩ := h
  exact ⟨e ++ ex, by rw [h, List.append_assoc]⟩
theorem Pre.set {μ μ' : Mu} {k : Nat} {m : Mo} (h : Pre μ μ') (hk : μ.length ≤ k) : Pre μ (μ'.set k m) := by
  obtain ⟨e, h⟩ := h
  exact ⟨e.set (k - μ.length) m, by rw [h, List.set_append_right _ _ hk]⟩
theorem Pre.get {μ μ' : Mu} {k : Nat} {m : Mo} (h : Pre μ μ') (e : μ[k]? = some m) : μ'[k]? = some m := by
  obtain ⟨ex, h⟩ := h
  rw [h, List.getElem?_append_left (List.getElem?_eq_some_iff.mp e).1]; exact e
theorem Pre.long {μ μ' : Mu} {xs : List Vl} {x : Vl} (h : Pre μ μ') (e : asLong xs x μ) : asLong xs x μ' := by
  cases x with
  | ref k => exact h.get e
  | _ => exact e
/-! hermite -/
/-- how great the rows get, row by row, of rows of L bits -/
def Pq (L : Nat) : Nat → Nat
  | 0 => 0
  | a + 1 => max (Pq L a) (L + a * (Pq L a + 2))
theorem Pq_up (L : Nat) : ∀ {i j : Nat}, i ≤ j → Pq L i ≤ Pq L j
  | i, 0, h => by rw [show i = 0 by omega]; exact Nat.le_refl _
  | i, j + 1, h => by
    by_cases e : i = j + 1
    · rw [e]; exact Nat.le_refl _
    · exact Nat.le_trans (Pq_up L (show i ≤ j by omega)) (Nat.le_max_left _ _)
/-- room for the turns over so many rows of L bits -/
def Fits (L a : Nat) : Prop := L + (a + 2) * (Pq L a + 2) < 50000000 ∧ Tq (Pq L a) a < 60000000
def c_hermite : Ct := fun xs μ Q =>
  (∃ (x : Vl) (w L : Nat) (A B : List (List Int)), xs = [x, .int (w : Int)] ∧ sview μ x = some ((A ++ B).map rowV) ∧ asLong ((A ++ B).map rowV) x μ ∧ w ≤ 100 ∧ (A ++ B).length ≤ 100 ∧ Fits L A.length ∧ (∀ r ∈ A ++ B, r.length = w ∧ Small (2 ^ L) r) ∧ (∀ b ∈ B, Sp w A b) ∧
    ∀ H, Hnf w H → Eqv w H A → Q (.tup (H.map rowV)) μ) ∨
  ∃ (x : Vl) (w L : Nat) (H : List (List Int)), xs = [x, .int (w : Int)] ∧ sview μ x = some (H.map rowV) ∧ asLong (H.map rowV) x μ ∧ w ≤ 100 ∧ H.length ≤ 100 ∧ L < 50000000 ∧ Tq L H.length < 60000000 ∧ Hnf w H ∧ (∀ r ∈ H, Small (2 ^ L) r) ∧ Q (.tup (H.map rowV)) μ
theorem l_hermite : ∀ xs μ Q, c_hermite xs μ Q → xs.length = 2 := by
  intro xs μ Q h
  rcases h with ⟨_, _, _, _, _, e, _⟩ | ⟨_, _, _, _, e, _⟩
  · subst e; rfl
  · subst e; rfl
def b_hermite (G : Addr) : DS :=
    (dSeq (dAsg (dMake G (c_Growing___init__ G) (dCons (dVar 1) dNil)) (dgName 2))
    (dSeq (dFor (dIter (dVar 0)) (dgName 3) (dDrop (dMeth G "add" (c_Growing_add G) (dVar 2) (dCons (dVar 3) dNil))))
    (dRet (dMeth G "basis" (c_Growing_basis G) (dVar 2) dNil))))
theorem eqv_snoc {w : Nat} {X Y : List (List Int)} {r : List Int} (hr : r.length = w) (hX : Wide w X) (hY : Wide w Y) (h : Eqv w X Y) : Eqv w (r :: X) (Y ++ [r]) := by
  have w1 := cons_wide hr hX
  have w2 : Wide w (Y ++ [r]) := fun b hb => (List.mem_append.mp hb).elim (hY b) fun z => by rw [List.mem_singleton.mp z]; exact hr
  refine ⟨fun b hb => ?_, fun b hb => ?_⟩
  · rcases List.mem_cons.mp hb with e | e
    · rw [e]; exact Sp.self w2 (by simp)
    · exact (h.1 b e).mem hY w2 fun c hc => by simp [hc]
  · rcases List.mem_append.mp hb with e | e
    · exact (h.2 b e).mem hX w1 fun c hc => List.mem_cons_of_mem _ hc
    · rw [List.mem_singleton.mp e]; exact Sp.self w1 List.mem_cons_self
theorem her_loop {G : Addr} {d : DEnds} {μ : Mu} {x : Vl} {w L ko kd : Nat} {A B : List (List Int)} (hx : asLong ((A ++ B).map rowV) x μ) (hw : w ≤ 100) (hko : μ.length ≤ ko) (hkd : μ.length ≤ kd) (hAB : (A ++ B).length ≤ 100) (hF : Fits L A.length) (hr : ∀ r ∈ A ++ B, r.length = w ∧ Small (2 ^ L) r) (hsp : ∀ b ∈ B, Sp w A b) :
    ∀ (rest pre : List (List Int)) (μ1 : Mu) (g : Hg) (kvs : List (Key × Vl)) (o3 : Option Vl), pre ++ rest = A ++ B → Pre μ μ1 → DG G w μ1 ko kd pre.length g kvs →
      (pre.length ≤ A.length → GI w (Pq L pre.length) g ∧ cntIn g (List.range w) ≤ pre.length ∧ Eqv w (rowsOf w g) pre) → (A.length ≤ pre.length → GI w (Pq L A.length) g ∧ cntIn g (List.range w) ≤ A.length ∧ Eqv w (rowsOf w g) A) →
      (∀ (μ1 : Mu) (g : Hg) (kvs : List (Key × Vl)) (N : Nat) (o3 : Option Vl), Pre μ μ1 → N ≤ 100 → DG G w μ1 ko kd N g kvs → GI w (Pq L A.length) g → cntIn g (List.range w) ≤ A.length → Eqv w (rowsOf w g) A → d.nx [some x, some (.int (w : Int)), some (.ref ko), o3] μ1) →
      forD (asLong ((A ++ B).map rowV) x) (dgName 3) (dDrop (dMeth G "add" (c_Growing_add G) (dVar 2) (dCons (dVar 3) dNil))) d (rest.map rowV) [some x, some (.int (w : Int)), some (.ref ko), o3] μ1
  | [], pre, μ1, g, kvs, o3, hpre, hP, D, h1, h2, q => by
    rw [List.append_nil] at hpre
    have hl : A.length ≤ pre.length := by rw [hpre, List.length_append]; omega
    obtain ⟨k1, k2, k3⟩ := h2 hl
    exact ⟨hP.long hx, q μ1 g kvs pre.length o3 hP (by rw [hpre]; exact hAB) D k1 k2 k3⟩
  | row :: rest, pre, μ1, g, kvs, o3, hpre, hP, D, h1, h2, q => by
    have hmem : row ∈ A ++ B := by rw [← hpre]; simp
    obtain ⟨hrl, hrs⟩ := hr row hmem
    have hlen : pre.length + (rest.length + 1) = A.length + B.length := by
      have := congrArg List.length hpre
      simpa using this
    rw [List.length_append] at hAB
    have wA : Wide w A := fun b hb => (hr b (List.mem_append.mpr (.inl hb))).1
    have wpre : Wide w pre := fun b hb => (hr b (by rw [← hpre]; exact List.mem_append.mpr (.inl hb))).1
    have hpre' : (pre ++ [row]) ++ rest = A ++ B := by rw [← hpre]; simp
    refine ⟨hP.long hx, ⟨ko, fsG w kd, rfl, D.o, look_no w kd (by decide +kernel) (by decide +kernel)⟩, ?_⟩
    by_cases hlt : pre.length < A.length
    · obtain ⟨k1, k2, k3⟩ := h1 (by omega)
      have hq := Pq_up L (show pre.length ≤ A.length by omega)
      refine .inl ⟨ko, kd, pre.length, w, Pq L pre.length, L, pre.length, g, kvs, row, rfl, D, hw, by omega, k1, hrl, hrs, k2, ?_, fun b kvs' g' ok D' => ?_⟩
      · have : (pre.length + 2) * (Pq L pre.length + 2) ≤ (A.length + 2) * (Pq L A.length + 2) := Nat.mul_le_mul (by omega) (by omega)
        have := hF.1
        omega
      · have gi : GI w (Pq L (pre ++ [row]).length) g' := by
          have := ok.gi
          rw [List.length_append, List.length_singleton]
          exact this
        have ev : Eqv w (rowsOf w g') (pre ++ [row]) := by
          refine Eqv.trans ok.gi.wide (fun b hb => ?_) ok.eqv (eqv_snoc hrl k1.wide wpre k3)
          rcases List.mem_append.mp hb with z | z
          · exact wpre b z
          · rw [List.mem_singleton.mp z]; exact hrl
        have cn : cntIn g' (List.range w) ≤ (pre ++ [row]).length := by rw [List.length_append, List.length_singleton]; exact ok.cnt
        refine her_loop hx hw hko hkd (by rw [List.length_append]; exact hAB) hF hr hsp rest (pre ++ [row]) _ g' kvs' _ hpre' (hP.set hkd) (by rw [List.length_append, List.length_singleton]; exact D') (fun _ => ⟨gi, cn, ev⟩) (fun hge => ?_) q
        have el : (pre ++ [row]).length = A.length := by
          rw [List.length_append, List.length_singleton] at hge ⊢; omega
        have ea : pre ++ [row] = A := List.append_inj_left hpre' el
        rw [ea] at gi cn ev
        exact ⟨gi, cn, ev⟩
    · obtain ⟨k1, k2, k3⟩ := h2 (by omega)
      have hB' : row ∈ B := by
        have e1 : (A ++ B)[pre.length]? = some row := by rw [← hpre]; simp
        rw [List.getElem?_append_right (by omega)] at e1
        exact List.mem_of_getElem? e1
      have srow : Sp w (rowsOf w g) row := (hsp row hB').trans k1.wide k3.2
      refine .inl ⟨ko, kd, pre.length, w, Pq L A.length, L, A.length, g, kvs, row, rfl, D, hw, by omega, k1, hrl, hrs, k2, ?_, fun b kvs' g' ok D' => ?_⟩
      · exact hF.1
      · have eg : g' = g := funext (ok.keep srow)
        subst eg
        refine her_loop hx hw hko hkd (by rw [List.length_append]; exact hAB) hF hr hsp rest (pre ++ [row]) _ g' kvs' _ hpre' (hP.set hkd) (by rw [List.length_append, List.length_singleton]; exact D') (fun hle => ?_) (fun _ => ⟨k1, k2, k3⟩) q
        rw [List.length_append, List.length_singleton] at hle
        omega
/-- rows that are reduced stay as they are -/
theorem hnf_top {w : Nat} {b : List Int} {t : List (List Int)} : Hnf w (b :: t) → ∃ p, p < w ∧ leadFrom 0 b = some p ∧ 0 < at0 b p ∧ Flat p w b ∧ ∀ b' ∈ t, ∀ i, i ≤ p → at0 b' i = 0
  | ⟨h1, ⟨p, h2, h3, h4⟩, h5⟩ => by
    obtain ⟨s1, s2, s3, s4⟩ := lead_spec b 0 p h2
    exact ⟨p, by omega, h2, h3, ⟨h1, fun i hi => s4 i (by omega)⟩, fun b' hb i hi => (h4 b' hb).1 i hi⟩
theorem rows_snoc {w p : Nat} {g : Hg} {r : List Int} (hp : p < w) (hg : ∀ q, p ≤ q → g q = none) : rowsOf w (gset g p r) = rowsOf w g ++ [r] ∧ cntIn (gset g p r) (List.range w) = cntIn g (List.range w) + 1 := by
  have e1 : List.range w = List.range p ++ p :: List.range' (p + 1) (w - (p + 1)) := by
    rw [List.range_eq_range', List.range_eq_range', ← List.range'_succ, show w - (p + 1) + 1 = w - p by omega]
    have := List.range'_append_1 (s := 0) (m := p) (n := w - p)
    rw [Nat.zero_add] at this
    rw [this]
    congr 1; omega
  have e2 : ∀ os : List Nat, (∀ o ∈ os, o < p) → os.filterMap (gset g p r) = os.filterMap g ∧ (os.filter fun o => (gset g p r o).isSome) = os.filter fun o => (g o).isSome := fun os h => by
    refine ⟨?_, List.filter_congr fun o ho => ?_⟩
    · induction os with
      | nil => rfl
      | cons o os ih =>
        have e : gset g p r o = g o := by rw [gset_at, if_neg (by have := h o List.mem_cons_self; omega)]
        rw [List.filterMap_cons, List.filterMap_cons, e, ih fun o ho => h o (List.mem_cons_of_mem _ ho)]
    · rw [gset_at, if_neg (by have := h o ho; omega)]
  have e3 : ∀ os : List Nat, (∀ o ∈ os, p < o) → os.filterMap (gset g p r) = [] ∧ os.filterMap g = [] ∧ (os.filter fun o => (gset g p r o).isSome) = [] ∧ (os.filter fun o => (g o).isSome) = [] := fun os h => by
    induction os with
    | nil => exact ⟨rfl, rfl, rfl, rfl⟩
    | cons o os ih =>
      have ho := h o List.mem_cons_self
      obtain ⟨i1, i2, i3, i4⟩ := ih fun o ho => h o (List.mem_cons_of_mem _ ho)
      have g1 : gset g p r o = none := by rw [gset_at, if_neg (by omega)]; exact hg o (by omega)
      have g2 : g o = none := hg o (by omega)
      refine ⟨?_, ?_, ?_, ?_⟩
      · rw [List.filterMap_cons_none g1]; exact i1
      · rw [List.filterMap_cons_none g2]; exact i2
      · rw [List.filter_cons_of_neg (by rw [g1]; simp)]; exact i3
      · rw [List.filter_cons_of_neg (by rw [g2]; simp)]; exact i4
  obtain ⟨a1, a2⟩ := e2 (List.range p) fun o ho => List.mem_range.mp ho
  obtain ⟨c1, c2, c3, c4⟩ := e3 (List.range' (p + 1) (w - (p + 1))) fun o ho => (List.mem_range'_1.mp ho).1
  have gp : gset g p r p = some r := by rw [gset_at, if_pos rfl]
  have gn : g p = none := hg p (Nat.le_refl p)
  unfold rowsOf cntIn
  rw [e1, List.filterMap_append, List.filterMap_append, List.filter_append, List.filter_append, a1, a2, List.filterMap_cons_some gp, List.filterMap_cons_none gn, List.filter_cons_of_pos (by rw [gp]; rfl), List.filter_cons_of_neg (by rw [gn]; simp), c1, c2, c3, c4]
  exact ⟨by simp, by simp⟩
theorem her_loopB {G : Addr} {d : DEnds} {μ : Mu} {x : Vl} {w L ko kd : Nat} {H : List (List Int)} (hx : asLong (H.map rowV) x μ) (hw : w ≤ 100) (hko : μ.length ≤ ko) (hkd : μ.length ≤ kd) (hH : H.length ≤ 100) (hL : L < 50000000) (hs : ∀ r ∈ H, Small (2 ^ L) r) :
    ∀ (rest pre : List (List Int)) (μ1 : Mu) (g : Hg) (kvs : List (Key × Vl)) (o3 : Option Vl), pre ++ rest = H → Hnf w rest → Pre μ μ1 → DG G w μ1 ko kd pre.length g kvs → GI w L g → cntIn g (List.range w) = pre.length → rowsOf w g = pre → (∀ b ∈ rest, ∀ i, (g i).isSome = true → ∀ k, k ≤ i → at0 b k = 0) →
      (∀ (μ1 : Mu) (g : Hg) (kvs : List (Key × Vl)) (o3 : Option Vl), Pre μ μ1 → DG G w μ1 ko kd H.length g kvs → GI w L g → cntIn g (List.range w) = H.length → rowsOf w g = H → d.nx [some x, some (.int (w : Int)), some (.ref ko), o3] μ1) →
      forD (asLong (H.map rowV) x) (dgName 3) (dDrop (dMeth G "add" (c_Growing_add G) (dVar 2) (dCons (dVar 3) dNil))) d (rest.map rowV) [some x, some (.int (w : Int)), some (.ref ko), o3] μ1
  | [], pre, μ1, g, kvs, o3, hpre, hR, hP, D, h1, h2, h3, h4, q => by
    rw [List.append_nil] at hpre
    subst hpre
    exact ⟨hP.long hx, q μ1 g kvs o3 hP D h1 h2 h3⟩
  | b :: rest, pre, μ1, g, kvs, o3, hpre, hR, hP, D, h1, h2, h3, h4, q => by
    have hmem : b ∈ H := by rw [← hpre]; simp
    have hlen : pre.length + (rest.length + 1) = H.length := by
      have := congrArg List.length hpre
      simpa using this
    obtain ⟨p, hpw, p1, p2, p3, p4⟩ := hnf_top hR
    have hfree : ∀ q, p ≤ q → g q = none := fun q hq => by
      cases hg : g q with
      | none => rfl
      | some r =>
        have := h4 b List.mem_cons_self q (by rw [hg]; rfl) p hq
        omega
    have hpre' : (pre ++ [b]) ++ rest = H := by rw [← hpre]; simp
    obtain ⟨r1, r2⟩ := rows_snoc (r := b) hpw hfree
    refine ⟨hP.long hx, ⟨ko, fsG w kd, rfl, D.o, look_no w kd (by decide +kernel) (by decide +kernel)⟩, ?_⟩
    refine .inr ⟨ko, kd, pre.length, w, L, p, g, kvs, b, rfl, D, hw, by omega, hfree, hpw, p3, p2, hs b hmem, hL, fun kvs' D' => ?_⟩
    refine her_loopB hx hw hko hkd hH hL hs rest (pre ++ [b]) _ (gset g p b) kvs' _ hpre' hR.2.2 (hP.set hkd) (by rw [List.length_append, List.length_singleton]; exact D') (h1.set hpw p3 p2 (hs b hmem)) (by rw [r2, h2, List.length_append, List.length_singleton]) (by rw [r1, h3]) (fun b' hb' i hi k hk => ?_) q
    rw [gset_at] at hi
    by_cases hip : i = p
    · rw [hip] at hk; exact p4 b' hb' k hk
    · rw [if_neg hip] at hi
      exact h4 b' (List.mem_cons_of_mem _ hb') i hi k hk
theorem her_A {G : Addr} {x : Vl} {w L : Nat} {A B : List (List Int)} {μ : Mu} {Q : DK} (e0 : ∀ w, rowsOf w (fun _ => none) = []) (c0 : ∀ w, cntIn (fun _ => none) (List.range w) = 0) (g0 : ∀ w P, GI w P (fun _ => none)) (hx : sview μ x = some ((A ++ B).map rowV)) (gx : asLong ((A ++ B).map rowV) x μ) (hw : w ≤ 100) (hAB : (A ++ B).length ≤ 100) (hF : Fits L A.length) (hr : ∀ r ∈ A ++ B, r.length = w ∧ Small (2 ^ L) r) (hsp : ∀ b ∈ B, Sp w A b)
    (q : ∀ H, Hnf w H → Eqv w H A → Q (.tup (H.map rowV)) μ) : b_hermite G (pureEnds μ Q) (startD ["rows", "width", "found", "row"] [x, .int (w : Int)]) μ := by
  refine ⟨μ.length, w, rfl, by simp, fun μ1 D hm => ⟨rfl, ?_⟩⟩
  obtain ⟨m, m', hm⟩ := hm
  have hP : Pre μ μ1 := by
    rw [hm]
    exact ((Pre.refl μ).add [Mo.ins G []] |>.set (Nat.le_refl _)).add _
  have hl : μ.length ≤ (μ ++ [Mo.ins G []]).length := by rw [List.length_append]; omega
  have hv : sview μ1 x = some ((A ++ B).map rowV) := by
    cases x with
    | ref k =>
      have h1 : μ[k]? = some (.lst ((A ++ B).map rowV)) := gx
      exact vw_ref (hP.get h1)
    | _ => exact hx
  have wA : Wide w A := fun b hb => (hr b (List.mem_append.mpr (.inl hb))).1
  refine ⟨(A ++ B).map rowV, hv, ?_⟩
  refine her_loop gx hw (Nat.le_refl _) hl hAB hF hr hsp (A ++ B) [] μ1 _ _ _ rfl hP D (fun _ => ⟨g0 _ _, by rw [c0]; exact Nat.le_refl _, by rw [e0]; exact ⟨fun b hb => (by cases hb), fun b hb => (by cases hb)⟩⟩) (fun hz => ?_) fun μ2 g kvs N o3 hP2 hN D2 G2 hc hE => ?_
  · have ea : A = [] := List.length_eq_zero_iff.mp (by simpa using hz)
    subst ea
    exact ⟨g0 _ _, by rw [c0]; exact Nat.le_refl _, by rw [e0]; exact ⟨fun b hb => (by cases hb), fun b hb => (by cases hb)⟩⟩
  · refine ⟨⟨μ.length, fsG w _, rfl, D2.o, look_no w _ (by decide +kernel) (by decide +kernel)⟩, ?_⟩
    refine ⟨μ.length, _, N, w, Pq L A.length, A.length, g, kvs, rfl, D2, hw, by omega, G2, hc, hF.2, fun kvs' g' hH hE2 D3 => ?_⟩
    refine ⟨rfb_rows _, hP2.set hl, q _ hH ?_⟩
    exact Eqv.trans hH.wide wA hE2 hE
theorem r_hermite (G : Addr) : ∀ xs μ Q, c_hermite xs μ Q → b_hermite G (pureEnds μ Q) (startD ["rows", "width", "found", "row"] xs) μ := by
  intro xs μ Q h
  have e0 : ∀ w, rowsOf w (fun _ => none) = [] := fun w => by
    unfold rowsOf
    induction List.range w with
    | nil => rfl
    | cons a l ih => rw [List.filterMap_cons_none rfl]; exact ih
  have c0 : ∀ w, cntIn (fun _ => none) (List.range w) = 0 := fun w => by
    unfold cntIn
    simp
  have g0 : ∀ w P, GI w P (fun _ => none) := fun w P => ⟨fun p r e => by cases e⟩
  rcases h with ⟨x, w, L, A, B, e, hx, gx, hw, hAB, hF, hr, hsp, q⟩ | ⟨x, w, L, H, e, hx, gx, hw, hH, hL, hT, hN, hs, q⟩
  · subst e
    exact her_A e0 c0 g0 hx gx hw hAB hF hr hsp q
  subst e
  refine ⟨μ.length, w, rfl, by simp, fun μ1 D hm => ⟨rfl, ?_⟩⟩
  obtain ⟨m, m', hm⟩ := hm
  have hP : Pre μ μ1 := by
    rw [hm]
    exact ((Pre.refl μ).add [Mo.ins G []] |>.set (Nat.le_refl _)).add _
  have hl : μ.length ≤ (μ ++ [Mo.ins G []]).length := by rw [List.length_append]; omega
  have hv : sview μ1 x = some (H.map rowV) := by
    cases x with
    | ref k =>
      have h1 : μ[k]? = some (.lst (H.map rowV)) := gx
      exact vw_ref (hP.get h1)
    | _ => exact hx
  refine ⟨H.map rowV, hv, ?_⟩
  refine her_loopB gx hw (Nat.le_refl _) hl hH hL hs H [] μ1 _ _ _ rfl hN hP D (g0 w L) (c0 w) (e0 w) (fun b hb i hi => by cases hi) fun μ2 g kvs o3 hP2 D2 G2 hc hE => ?_
  refine ⟨⟨μ.length, fsG w _, rfl, D2.o, look_no w _ (by decide +kernel) (by decide +kernel)⟩, ?_⟩
  refine ⟨μ.length, _, H.length, w, L, H.length, g, kvs, rfl, D2, hw, by omega, G2, by omega, hT, fun kvs' g' hH' hE2 D3 => ?_⟩
  have eH : rowsOf w g' = H := hnf_unique hH' hN (by rw [← hE] at hN ⊢; exact hE2)
  rw [eH]
  exact ⟨rfb_rows _, hP2.set hl, q⟩
end K25

set_option exponentiation.threshold 300
namespace K25
open PySem PySem.Spec L2 StX PyProof.Rows DL K26
/-! joined -/
def c_joined : Ct := fun xs μ Q => ∃ (x y : Vl) (X Y : List (List Int)) (w L : Nat) (A B : List (List Int)), xs = [x, y, .int (w : Int)] ∧ sview μ x = some (X.map rowV) ∧ sview μ y = some (Y.map rowV) ∧ X ++ Y = A ++ B ∧ w ≤ 100 ∧ (A ++ B).length ≤ 100 ∧ Fits L A.length ∧ (∀ r ∈ A ++ B, r.length = w ∧ Small (2 ^ L) r) ∧ (∀ b ∈ B, Sp w A b) ∧
  ∀ H, Hnf w H → Eqv w H A → Q (.tup (H.map rowV)) μ
def b_joined : DS :=
    (dRet (dCall c_hermite (dCons (dLst (dStar (dVar 0) (dStar (dVar 1) dNil))) (dCons (dVar 2) dNil))))
theorem l_joined : ∀ xs μ Q, c_joined xs μ Q → xs.length = 3 := by
  intro xs μ Q ⟨_, _, _, _, _, _, _, _, e, _⟩
  subst e; rfl
theorem r_joined : ∀ xs μ Q, c_joined xs μ Q → b_joined (pureEnds μ Q) (startD ["basis", "rows", "width"] xs) μ := by
  intro xs μ Q ⟨x, y, X, Y, w, L, A, B, e, hx, hy, hAB, hw, hA, hF, hr, hsp, q⟩
  subst e
  have hsl := sizeLine_eq
  have e1 : X.map rowV ++ (Y.map rowV ++ []) = (A ++ B).map rowV := by rw [List.append_nil, ← List.map_append, hAB]
  refine ⟨_, hx, _, hy, ?_, .inl ?_⟩
  · rw [e1, List.length_map]; omega
  · rw [e1]
    exact .inl ⟨_, w, L, A, B, rfl, rfl, trivial, hw, hA, hF, hr, hsp, fun H h1 h2 => DL.pure_rt (rfb_rows H) (q H h1 h2)⟩
/-! content; the law's own -/
def gcdR (f : Nat) (ns : List Int) : Nat := ns.foldl (fun f n => Nat.gcd f n.natAbs) f
def c_content : Ct := fun xs μ Q => ∃ (x : Vl) (rows : List (List Int)), xs = [x] ∧ sview μ x = some (rows.map rowV) ∧ asLong (rows.map rowV) x μ ∧ Q (.int ((gcdR 0 rows.flatten : Nat) : Int)) μ
def b_content : DS :=
    (dSeq (dAsg (dC (.int 0)) (dgName 1))
    (dSeq (dFor (dIter (dVar 0)) (dgName 2) (dFor (dIter (dVar 2)) (dgName 3) (dAsg (dCB fGcd (dCons (dVar 1) (dCons (dVar 3) dNil))) (dgName 1))))
    (dRet (dVar 1))))
theorem l_content : ∀ xs μ Q, c_content xs μ Q → xs.length = 1 := by
  intro xs μ Q ⟨_, _, e, _⟩
  subst e; rfl
theorem gcd_inner {d : DEnds} {μ : Mu} {o0 o2 : Option Vl} : ∀ (r : List Int) (f : Nat) (o3 : Option Vl), (∀ o3, d.nx [o0, some (.int ((gcdR f r : Nat) : Int)), o2, o3] μ) →
    forD (fun _ => True) (dgName 3) (dAsg (dCB fGcd (dCons (dVar 1) (dCons (dVar 3) dNil))) (dgName 1)) d (r.map .int) [o0, some (.int (f : Int)), o2, o3] μ
  | [], f, o3, q => ⟨trivial, q o3⟩
  | n :: r, f, o3, q => ⟨trivial, gcd_inner r (Nat.gcd f n.natAbs) _ q⟩
theorem gcd_outer {G : Mu → Prop} {d : DEnds} {μ : Mu} {o0 : Option Vl} (hG : G μ) : ∀ (rows : List (List Int)) (f : Nat) (o2 o3 : Option Vl), (∀ o2 o3, d.nx [o0, some (.int ((gcdR f rows.flatten : Nat) : Int)), o2, o3] μ) →
    forD G (dgName 2) (dFor (dIter (dVar 2)) (dgName 3) (dAsg (dCB fGcd (dCons (dVar 1) (dCons (dVar 3) dNil))) (dgName 1))) d (rows.map rowV) [o0, some (.int (f : Int)), o2, o3] μ
  | [], f, o2, o3, q => ⟨hG, q o2 o3⟩
  | r :: rows, f, o2, o3, q => by
    refine ⟨hG, r.map .int, rfl, ?_⟩
    refine gcd_inner r f _ fun o3 => ?_
    refine gcd_outer hG rows (gcdR f r) _ _ fun o2 o3 => ?_
    have := q o2 o3
    unfold gcdR at this ⊢
    rw [List.flatten_cons, List.foldl_append] at this
    exact this
theorem rfb_int {n : Nat} {i : Int} : rfb n (.int i) = true := by rw [rfb] <;> simp
theorem r_content : ∀ xs μ Q, c_content xs μ Q → b_content (pureEnds μ Q) (startD ["rows", "found", "row", "number"] xs) μ := by
  intro xs μ Q ⟨x, rows, e, hx, gx, q⟩
  subst e
  refine ⟨rows.map rowV, hx, ?_⟩
  exact gcd_outer gx rows 0 none none fun o2 o3 => DL.pure_rt rfb_int q
def c__law_shared_by : Ct := fun xs μ Q => ∃ (x : Vl) (ns : List Int), xs = [x] ∧ sview μ x = some (ns.map .int) ∧ asLong (ns.map .int) x μ ∧ Q (.int ((gcdR 0 ns : Nat) : Int)) μ
def b__law_shared_by : DS :=
    (dSeq (dAsg (dC (.int 0)) (dgName 1))
    (dSeq (dFor (dIter (dVar 0)) (dgName 2) (dSeq (dAsg (dCB fAbs (dCons (dVar 2) dNil)) (dgName 3))
    (dWhile (dTest (dOp dNe (dVar 3) (dC (.int 0)))) (dPar 1 3 (dCons (dVar 3) (dCons (dOp dMod (dVar 1) (dVar 3)) dNil))))))
    (dRet (dVar 1))))
theorem l__law_shared_by : ∀ xs μ Q, c__law_shared_by xs μ Q → xs.length = 1 := by
  intro xs μ Q ⟨_, _, e, _⟩
  subst e; rfl
theorem own_gcd {d : DEnds} {μ : Mu} {o0 o2 : Option Vl} {f z : Nat} (q : ∀ o3, d.nx [o0, some (.int ((Nat.gcd f z : Nat) : Int)), o2, o3] μ) :
    (dWhile (dTest (dOp dNe (dVar 3) (dC (.int 0)))) (dPar 1 3 (dCons (dVar 3) (dCons (dOp dMod (dVar 1) (dVar 3)) dNil)))) d [o0, some (.int (f : Int)), o2, some (.int (z : Int))] μ := by
  refine ⟨fun m ρ μ1 => ∃ a b : Nat, m = b ∧ μ1 = μ ∧ Nat.gcd a b = Nat.gcd f z ∧ ρ = [o0, some (.int (a : Int)), o2, some (.int (b : Int))], ⟨z, f, z, rfl, rfl, rfl, rfl⟩, ?_⟩
  intro m ρ μ1 ⟨a, b, em, eμ, eg, eρ⟩
  subst em; subst eμ; subst eρ
  refine dec_splitN (p := (m : Int) = 0) (fun h => ?_) (fun h => ?_)
  · have hb : 0 < m := by omega
    refine ⟨h, ?_⟩
    have er : ((a : Int).fmod (m : Int)) = ((a % m : Nat) : Int) := by
      rw [Int.fmod_eq_emod_of_nonneg _ (by omega)]; rfl
    refine ⟨a % m, Nat.mod_lt _ hb, m, a % m, rfl, rfl, ?_, ?_⟩
    · rw [← eg, Nat.gcd_comm a m, Nat.gcd_comm m (a % m)]
      exact (Nat.gcd_rec m a).symm
    · show [o0, some (Vl.int (m : Int)), o2, some (Vl.int ((a : Int).fmod (m : Int)))] = _
      rw [er]
  · have hb : m = 0 := by omega
    subst hb
    rw [Nat.gcd_zero_right] at eg
    have := q (some (.int ((0 : Nat) : Int)))
    rw [← eg] at this
    exact this
theorem own_loop {G : Mu → Prop} {d : DEnds} {μ : Mu} {o0 : Option Vl} (hG : G μ) : ∀ (ns : List Int) (f : Nat) (o2 o3 : Option Vl), (∀ o2 o3, d.nx [o0, some (.int ((gcdR f ns : Nat) : Int)), o2, o3] μ) →
    forD G (dgName 2) (dSeq (dAsg (dCB fAbs (dCons (dVar 2) dNil)) (dgName 3))
    (dWhile (dTest (dOp dNe (dVar 3) (dC (.int 0)))) (dPar 1 3 (dCons (dVar 3) (dCons (dOp dMod (dVar 1) (dVar 3)) dNil))))) d (ns.map .int) [o0, some (.int (f : Int)), o2, o3] μ
  | [], f, o2, o3, q => ⟨hG, q o2 o3⟩
  | n :: r, f, o2, o3, q => by
    refine ⟨hG, ?_⟩
    have key : (dWhile (dTest (dOp dNe (dVar 3) (dC (.int 0)))) (dPar 1 3 (dCons (dVar 3) (dCons (dOp dMod (dVar 1) (dVar 3)) dNil)))) { d with nx := forD G (dgName 2) (dSeq (dAsg (dCB fAbs (dCons (dVar 2) dNil)) (dgName 3)) (dWhile (dTest (dOp dNe (dVar 3) (dC (.int 0)))) (dPar 1 3 (dCons (dVar 3) (dCons (dOp dMod (dVar 1) (dVar 3)) dNil))))) d (r.map .int), ct := forD G (dgName 2) (dSeq (dAsg (dCB fAbs (dCons (dVar 2) dNil)) (dgName 3)) (dWhile (dTest (dOp dNe (dVar 3) (dC (.int 0)))) (dPar 1 3 (dCons (dVar 3) (dCons (dOp dMod (dVar 1) (dVar 3)) dNil))))) d (r.map .int), bk := d.nx } [o0, some (.int (f : Int)), some (.int n), some (.int ((n.natAbs : Nat) : Int))] μ :=
      own_gcd fun o3 => own_loop hG r (Nat.gcd f n.natAbs) _ _ q
    have en : (if n < 0 then -n else n) = ((n.natAbs : Nat) : Int) := by split <;> omega
    rw [← en] at key
    exact key
theorem r__law_shared_by : ∀ xs μ Q, c__law_shared_by xs μ Q → b__law_shared_by (pureEnds μ Q) (startD ["numbers", "found", "number", "other"] xs) μ := by
  intro xs μ Q ⟨x, ns, e, hx, gx, q⟩
  subst e
  refine ⟨ns.map .int, hx, ?_⟩
  exact own_loop gx ns 0 none none fun o2 o3 => DL.pure_rt rfb_int q
/-! the pen's helpers are those of k26 -/
def c__law_pen : Ct := c_pen
def c__law_draw : Ct := c_draw
def c__law_pick : Ct := K26.c__law_pick
def c__law_row : Ct := K26.c__law_row
def c__law_sum : Ct := K26.c__law_sum
def c__law_lead : Ct := K26.c__law_lead
/-- rows in another order -/
def c__law_mixed : Ct := fun xs μ Q => ∃ (k : Nat) (ns : List Int) (a l : Int) (x : Vl) (vs : List Vl), xs = [.ref k, x] ∧ sview μ x = some vs ∧ vs.length ≤ 20 ∧ μ[k]? = some (penM ns a l) ∧ (0 ≤ a ∧ a ≤ 900000) ∧ 0 ≤ l ∧
  ∀ (ws : List Vl) (a' l' : Int) (μ' : Mu), ws.Perm vs → a ≤ a' → a' ≤ a + 20 → 0 ≤ l' → (∃ m, μ' = μ.set k (penM ns a' l') ++ [m, .lst ws]) → Q (.ref (μ.length + 1)) μ'
def b__law_mixed : DS :=
    (dSeq (dPar 2 3 (dCons (dCB fList (dCons (dVar 1) dNil)) (dCons (dLst dNil) dNil)))
    (dSeq (dFor (dRange1 (dCons (dCB fLen (dCons (dVar 1) dNil)) dNil)) (dgName 4) (dDrop (dBM mAppend (dVar 3) (dCons (dBM mPopAt (dVar 2) (dCons (dCall c__law_draw (dCons (dVar 0) (dCons (dCB fLen (dCons (dVar 2) dNil)) dNil))) dNil)) dNil))))
    (dRet (dVar 3))))
theorem l__law_mixed : ∀ xs μ Q, c__law_mixed xs μ Q → xs.length = 2 := by
  intro xs μ Q ⟨_, _, _, _, _, _, e, _⟩
  subst e; rfl
end K25

set_option exponentiation.threshold 300
namespace K25
open PySem PySem.Spec L2 StX PyProof.Rows DL K26
theorem lv_ref {μ : Mu} {k : Nat} {xs : List Vl} (h : μ[k]? = some (.lst xs)) : lview μ (.ref k) = some xs := by
  show (match μ[k]? with
    | some (.lst xs) => some xs
    | _ => none) = _
  rw [h]
abbrev mM (μ : Mu) (k : Nat) (p : Mo) (r f : List Vl) : Mu := μ.set k p ++ [.lst r, .lst f]
theorem mM_len {μ : Mu} {k : Nat} {p : Mo} : (μ.set k p).length = μ.length := List.length_set
theorem mM_r {μ : Mu} {k : Nat} {p : Mo} {r f : List Vl} : (mM μ k p r f)[μ.length]? = some (.lst r) := by
  unfold mM
  rw [List.getElem?_append_right (by rw [mM_len]; omega), mM_len, Nat.sub_self]; rfl
theorem mM_f {μ : Mu} {k : Nat} {p : Mo} {r f : List Vl} : (mM μ k p r f)[μ.length + 1]? = some (.lst f) := by
  unfold mM
  rw [List.getElem?_append_right (by rw [mM_len]; omega), mM_len, show μ.length + 1 - μ.length = 1 by omega]; rfl
theorem mM_k {μ : Mu} {k : Nat} {p : Mo} {r f : List Vl} (h : k < μ.length) : (mM μ k p r f)[k]? = some p := by
  unfold mM
  rw [List.getElem?_append_left (by rw [mM_len]; exact h), List.getElem?_set_self h]
theorem mM_setk {μ : Mu} {k : Nat} {p p' : Mo} {r f : List Vl} (h : k < μ.length) : (mM μ k p r f).set k p' = mM μ k p' r f := by
  unfold mM
  rw [List.set_append_left _ _ (by rw [mM_len]; exact h), List.set_set]
theorem mM_setr {μ : Mu} {k : Nat} {p : Mo} {r r' f : List Vl} : (mM μ k p r f).set μ.length (.lst r') = mM μ k p r' f := by
  unfold mM
  rw [List.set_append_right _ _ (by rw [mM_len]; omega), mM_len, Nat.sub_self]; rfl
theorem mM_setf {μ : Mu} {k : Nat} {p : Mo} {r f f' : List Vl} : (mM μ k p r f).set (μ.length + 1) (.lst f') = mM μ k p r f' := by
  unfold mM
  rw [List.set_append_right _ _ (by rw [mM_len]; omega), mM_len, show μ.length + 1 - μ.length = 1 by omega]; rfl
theorem perm_erase : ∀ {r : List Vl} {i : Nat} {y : Vl}, r[i]? = some y → (y :: r.eraseIdx i).Perm r
  | [], i, y, h => by simp at h
  | x :: r, 0, y, h => by
    have : x = y := by simpa using h
    subst this
    exact List.Perm.refl _
  | x :: r, i + 1, y, h => by
    have h1 := perm_erase (r := r) (i := i) (y := y) (by simpa using h)
    exact (List.Perm.swap x y _).trans (h1.cons x)
theorem mix_loop {d : DEnds} {μ : Mu} {k : Nat} {ns : List Int} {o1 : Option Vl} {vs : List Vl} {a0 : Int} (hk : k < μ.length) (ha0 : 0 ≤ a0 ∧ a0 ≤ 900000) : ∀ (turns : List Vl) (r f : List Vl) (a l : Int) (o4 : Option Vl), r.length = turns.length → (f ++ r).Perm vs → r.length + f.length ≤ 20 → a0 ≤ a → a ≤ a0 + (f.length : Int) → 0 ≤ l →
    (∀ (ws : List Vl) (a' l' : Int) (o4 : Option Vl), ws.Perm vs → a0 ≤ a' → a' ≤ a0 + 20 → 0 ≤ l' → d.nx [some (.ref k), o1, some (.ref μ.length), some (.ref (μ.length + 1)), o4] (mM μ k (penM ns a' l') [] ws)) →
    forD (fun _ => True) (dgName 4) (dDrop (dBM mAppend (dVar 3) (dCons (dBM mPopAt (dVar 2) (dCons (dCall c__law_draw (dCons (dVar 0) (dCons (dCB fLen (dCons (dVar 2) dNil)) dNil))) dNil)) dNil))) d turns [some (.ref k), o1, some (.ref μ.length), some (.ref (μ.length + 1)), o4] (mM μ k (penM ns a l) r f)
  | [], r, f, a, l, o4, hr, hp, hz, ha, ha', hl, q => by
    have e : r = [] := List.length_eq_zero_iff.mp hr
    subst e
    rw [List.append_nil] at hp
    exact ⟨trivial, q f a l o4 hp ha (by simp at hz; omega) hl⟩
  | t :: turns, r, f, a, l, o4, hr, hp, hz, ha, ha', hl, q => by
    rw [List.length_cons] at hr
    refine ⟨trivial, by show (lview _ (.ref (μ.length + 1))).isSome = true; rw [lv_ref mM_f]; rfl, by show (lview _ (.ref μ.length)).isSome = true; rw [lv_ref mM_r]; rfl, ?_⟩
    refine ⟨_, r, rfl, vw_ref mM_r, ?_⟩
    refine ⟨k, ns, a, l, (r.length : Int), rfl, mM_k hk, by omega, hl, by omega, fun dd a2 l2 g1 g2 g3 g4 g5 => ?_⟩
    rw [mM_setk hk]
    have hi : dd.toNat < r.length := by omega
    have hy : r[dd.toNat]? = some r[dd.toNat] := List.getElem?_eq_getElem hi
    have ed : dd = ((dd.toNat : Nat) : Int) := by omega
    refine ⟨μ.length, r, dd.toNat, r[dd.toNat], rfl, by rw [← ed], mM_r, by omega, hy, ?_⟩
    rw [mM_setr]
    refine ⟨μ.length + 1, f, r[dd.toNat], rfl, rfl, mM_f, by rw [sizeLine_eq]; omega, ?_⟩
    rw [mM_setf]
    have le : (r.eraseIdx dd.toNat).length = r.length - 1 := by rw [List.length_eraseIdx, if_pos hi]
    refine mix_loop hk ha0 turns (r.eraseIdx dd.toNat) (f ++ [r[dd.toNat]]) a2 l2 _ (by rw [le]; omega) ?_ (by rw [le, List.length_append, List.length_singleton]; omega) (by omega) (by rw [List.length_append, List.length_singleton]; omega) g5 q
    rw [List.append_assoc]
    exact ((perm_erase hy).append_left f).trans hp
theorem r__law_mixed : ∀ xs μ Q, c__law_mixed xs μ Q → b__law_mixed (spEnds Q) (startD ["pen", "some", "rest", "found", "turn"] xs) μ := by
  intro xs μ Q ⟨k, ns, a, l, x, vs, e, hx, hv, hk, ha, hl, q⟩
  subst e
  have hsl := sizeLine_eq
  have hkl := (List.getElem?_eq_some_iff.mp hk).1
  refine ⟨x, vs, rfl, hx, .inr ?_⟩
  refine ⟨by show 0 ≤ _; omega, .inr ?_⟩
  have em : μ ++ [Mo.lst vs] ++ [Mo.lst []] = mM μ k (penM ns a l) vs [] := by
    unfold mM
    rw [DL.set_same hk, List.append_assoc]; rfl
  have hx2 : sview (mM μ k (penM ns a l) vs []) x = some vs := by
    cases x with
    | ref j =>
      have h1 : μ[j]? = some (.lst vs) := mview_ref (by simpa [sview, lview, mview] using hx)
      refine vw_ref ?_
      unfold mM
      rw [DL.set_same hk, List.getElem?_append_left (List.getElem?_eq_some_iff.mp h1).1]; exact h1
    | _ => exact hx
  have el : (μ ++ [Mo.lst vs]).length = μ.length + 1 := by rw [List.length_append, List.length_singleton]
  rw [em, el]
  refine ⟨x, vs, rfl, hx2, (vs.length : Int), rfl, by omega, by omega, ?_⟩
  refine mix_loop (vs := vs) hkl ha _ vs [] a l _ (by rw [rngD_len]; omega) (List.Perm.refl _) (by simpa using hv) (by omega) (by simp) hl fun ws a' l' o4 hp h1 h2 h3 => ?_
  exact q ws a' l' _ hp h1 h2 h3 ⟨.lst [], rfl⟩
end K25

set_option exponentiation.threshold 300
namespace K25
open PySem PySem.Spec L2 StX PyProof.Rows DL K26
theorem q_bits {a b : Int} {F : Nat} (hb : b ≠ 0) (ha : a.natAbs ≤ 2 ^ F) (hb' : b.natAbs ≤ 2 ^ F) : (a.fdiv b).natAbs ≤ 2 ^ (F + 1) := by
  have a1 := fdiv_size (a := a) hb
  have a2 : (a.fdiv b).natAbs * 1 ≤ (a.fdiv b).natAbs * b.natAbs := Nat.mul_le_mul_left _ (by omega)
  rw [Nat.pow_succ]
  omega
def rowL (r : List Int) : Vl := .lst (r.map .int)
theorem Pre.len {μ μ' : Mu} (h : Pre μ μ') : μ.length ≤ μ'.length := by
  obtain ⟨e, h⟩ := h
  rw [h, List.length_append]; omega
theorem get_add {μ : Mu} {k : Nat} {m : Mo} (h : μ[k]? = some m) (ex : Mu) : (μ ++ ex)[k]? = some m := by
  rw [List.getElem?_append_left (List.getElem?_eq_some_iff.mp h).1]; exact h
theorem get_new (μ : Mu) (m : Mo) : (μ ++ [m])[μ.length]? = some m := by simp
theorem get_lt {μ : Mu} {k : Nat} {m : Mo} (h : μ[k]? = some m) : k < μ.length := (List.getElem?_eq_some_iff.mp h).1
theorem get_other {μ : Mu} {k i : Nat} {m m' : Mo} (h : μ[k]? = some m) (hi : i ≠ k) : (μ.set i m')[k]? = some m := by
  rw [List.getElem?_set_ne hi]; exact h
theorem atI_nat {vs : List Vl} {i : Nat} {v : Vl} (h : vs[i]? = some v) : atI vs (i : Int) = some v := by
  have hl := (List.getElem?_eq_some_iff.mp h).1
  unfold atI
  unfold ixN
  rw [if_pos (by omega), if_pos (by omega)]
  simpa using h
theorem mv_ref {μ : Mu} {k : Nat} {xs : List Vl} (h : μ[k]? = some (.lst xs)) : mview μ (.ref k) = some xs := by
  show (match μ[k]? with
    | some (.lst xs) => some xs
    | _ => none) = _
  rw [h]
def hTurn : DS :=
  (dSeq (dAsg (dOp dFdivB (dOp dIx (dVar 11) (dVar 4)) (dOp dIx (dVar 10) (dVar 4))) (dgName 12))
    (dSeq (dAsg (dLc (dZip (dCons (dVar 11) (dCons (dVar 10) dNil))) (dgTup 2 (dgCons (dgName 13) (dgCons (dgName 14) dgNil))) dYes (dOp (dI0 fun i j => .int (i - j)) (dVar 13) (dOp dMul (dVar 12) (dVar 14))) [13, 14]) (dgName 11))
    (dIf (dTest (dOp dNe (dOp dIx (dVar 11) (dVar 4)) (dC (.int 0)))) (dDrop (dBM mAppend (dVar 8) (dCons (dVar 11) dNil))) (dDrop (dBM mAppend (dVar 6) (dCons (dVar 11) dNil))))))
theorem turn_loop {μ : Mu} {d : DEnds} {x0 x1 o2 o3 o5 o7 o9 : Option Vl} {j w kr kl : Nat} {f : List Int} (hne : kl ≠ kr) (hkr : μ.length ≤ kr) (hkl : μ.length ≤ kl) (hj : j < w) (hf : f.length = w) (f0 : at0 f j ≠ 0) :
    ∀ (T L R : List (List Int)) (μ' : Mu) (o11 o12 o13 o14 o15 : Option Vl), (∀ r ∈ T, r.length = w ∧ ∀ y ∈ f, DL.MulOk ((at0 r j).fdiv (at0 f j)) y) → μ'[kl]? = some (.lst (L.map rowL)) → μ'[kr]? = some (.lst (R.map rowL)) → Pre μ μ' → L.length + R.length + T.length < 1000 →
      (∀ (μ2 : Mu) (o11 o12 o13 o14 o15 : Option Vl), μ2[kl]? = some (.lst ((L ++ (T.map (red j f)).filter (isN j)).map rowL)) → μ2[kr]? = some (.lst ((R ++ (T.map (red j f)).filter fun r => !isN j r).map rowL)) → Pre μ μ2 →
        d.nx [x0, x1, o2, o3, some (.int (j : Int)), o5, some (.ref kr), o7, some (.ref kl), o9, some (rowL f), o11, o12, o13, o14, o15] μ2) →
      forD (fun _ => True) (dgName 11) hTurn d (T.map rowL) [x0, x1, o2, o3, some (.int (j : Int)), o5, some (.ref kr), o7, some (.ref kl), o9, some (rowL f), o11, o12, o13, o14, o15] μ'
  | [], L, R, μ', o11, o12, o13, o14, o15, hT, hL, hR, hp, hz, q => ⟨trivial, q μ' o11 o12 o13 o14 o15 (by simpa using hL) (by simpa using hR) hp⟩
  | r :: T, L, R, μ', o11, o12, o13, o14, o15, hT, hL, hR, hp, hz, q => by
    obtain ⟨hr, hm⟩ := hT r List.mem_cons_self
    have hT' := fun r' h' => hT r' (List.mem_cons_of_mem r h')
    have hsl := sizeLine_eq
    rw [List.length_cons] at hz
    refine ⟨trivial, r.map .int, _, rfl, atI_at (by omega), f.map .int, _, rfl, atI_at (by omega), f0, ?_⟩
    refine ⟨_, _, r.map .int, f.map .int, rfl, rfl, rfl, ?_⟩
    rw [K26.zip_rows]
    refine DL.lc_map ⟨trivial, trivial⟩ _ (fun p' => Vl.int (p'.1 - (at0 r j).fdiv (at0 f j) * p'.2)) _ _ (fun p' hp' P hP => ?_) (.inl ?_)
    · exact ⟨rfl, rfl, hm p'.2 (List.of_mem_zip hp').2, hP⟩
    rw [minus_zip]
    have hrl := red_len (j := j) hf hr
    refine ⟨(red j f r).map .int, _, rfl, atI_at (by omega), ?_⟩
    refine dec_splitN (p := at0 (red j f r) j = 0) (fun h0 => ?_) (fun h0 => ?_)
    · refine ⟨(by show (lview μ' (.ref kl)).isSome = true; rw [lv_ref hL]; rfl), kl, L.map rowL, rowL (red j f r), rfl, rfl, hL, by rw [List.length_map]; omega, ?_⟩
      refine turn_loop hne hkr hkl hj hf f0 T (L ++ [red j f r]) R _ _ _ _ _ _ hT' ?_ (get_other hR hne) (hp.set hkl) (by simp; omega) fun μ2 p11 p12 p13 p14 p15 g1 g2 g3 => ?_
      · rw [set_get hL]; simp
      · have e1 : isN j (red j f r) = true := by simpa [isN] using h0
        refine q μ2 p11 p12 p13 p14 p15 ?_ ?_ g3
        · rw [List.map_cons, List.filter_cons_of_pos e1]; simpa using g1
        · rw [List.map_cons, List.filter_cons_of_neg (by rw [e1]; simp)]; exact g2
    · refine ⟨(by show (lview μ' (.ref kr)).isSome = true; rw [lv_ref hR]; rfl), kr, R.map rowL, rowL (red j f r), rfl, rfl, hR, by rw [List.length_map]; omega, ?_⟩
      refine turn_loop hne hkr hkl hj hf f0 T L (R ++ [red j f r]) _ _ _ _ _ _ hT' (get_other hL hne.symm) ?_ (hp.set hkr) (by simp; omega) fun μ2 p11 p12 p13 p14 p15 g1 g2 g3 => ?_
      · rw [set_get hR]; simp
      · have e1 : isN j (red j f r) = false := by simpa [isN] using h0
        refine q μ2 p11 p12 p13 p14 p15 ?_ ?_ g3
        · rw [List.map_cons, List.filter_cons_of_neg (by rw [e1]; simp)]; exact g1
        · rw [List.map_cons, List.filter_cons_of_pos (by rw [e1]; rfl)]; simpa using g2
theorem least_place {m : Int} : ∀ {ns : List Int}, m ∈ ns → ∃ s : Nat, ns[s]? = some m ∧ ∀ i : Nat, i < s → ns[i]? ≠ some m
  | [], h => by cases h
  | x :: ns, h => by
    by_cases hx : x = m
    · exact ⟨0, by simp [hx], fun i hi => by omega⟩
    · rcases List.mem_cons.mp h with z | z
      · exact absurd z.symm hx
      · obtain ⟨s, h1, h2⟩ := least_place z
        refine ⟨s + 1, by simpa using h1, fun i hi => ?_⟩
        cases i with
        | zero => simpa using hx
        | succ i => simpa using h2 i (by omega)
theorem cut_take (xs : List Vl) (s : Nat) : DL.cutD xs none (some (s : Int)) = xs.take s := by
  unfold DL.cutD
  rw [HT.sIx_none, HT.sIx_nat, List.drop_zero, Nat.sub_zero]
  by_cases h : s ≤ xs.length
  · rw [Nat.min_eq_left h]
  · rw [Nat.min_eq_right (by omega), List.take_of_length_le (by omega), List.take_of_length_le (by omega)]
theorem cut_drop (xs : List Vl) (s : Nat) : DL.cutD xs (some (s : Int)) none = xs.drop s := by
  unfold DL.cutD
  rw [HT.sIx_none, HT.sIx_nat]
  by_cases h : s ≤ xs.length
  · rw [Nat.min_eq_left h, List.take_of_length_le (by rw [List.length_drop]; omega)]
  · rw [Nat.min_eq_right (by omega), List.drop_of_length_le (Nat.le_refl _), List.drop_of_length_le (by omega), List.take_nil]
def hWhile : DS :=
  (dWhile (dTest (dOp dGt (dCB fLen (dCons (dVar 5) dNil)) (dC (.int 1)))) (dSeq (dPar 7 8 (dCons (dLc (dIter (dVar 5)) (dgName 11) dYes (dCB fAbs (dCons (dOp dIx (dVar 11) (dVar 4)) dNil)) [11]) (dCons (dLst dNil) dNil)))
    (dSeq (dAsg (dBM mIndex (dVar 7) (dCons (dCB fMin (dCons (dVar 7) dNil)) dNil)) (dgName 9))
    (dSeq (dAsg (dOp dIx (dVar 5) (dVar 9)) (dgName 10))
    (dSeq (dFor (dIter (dOp dAdd (dSl (dVar 5) dNoPart (dPart (dVar 9))) (dSl (dVar 5) (dPart (dOp dAdd (dVar 9) (dC (.int 1)))) dNoPart))) (dgName 11) hTurn)
    (dAsg (dOp dAdd (dLst (dCons (dVar 10) dNil)) (dVar 8)) (dgName 5)))))))
theorem small_log {j w n m : Nat} {S R : List (List Int)} (h : WI j w n (Eb n) m S R) (h2 : 2 ≤ n) (h6 : n ≤ 9) : ∀ r ∈ S, (at0 r j).natAbs ≤ 2 ^ 10930000 ∧ ∀ y ∈ r, y.natAbs ≤ 2 ^ 10930000 := by
  obtain ⟨_, ⟨M, hM, hb⟩, _⟩ := h.sized
  intro r hr
  obtain ⟨h1, h3⟩ := hb r hr
  refine ⟨Nat.le_trans h1 (Nat.le_trans hM (Nat.pow_le_pow_right (by decide) (Eb_le h6))), fun y hy => ?_⟩
  have h0 := (h.hS r hr).2
  have := h3 y hy
  have g : y.natAbs * 1 ≤ y.natAbs * M := Nat.mul_le_mul_left _ (by omega)
  have p : Pp n (Eb n) m ≤ 2 ^ 10930000 := Nat.le_trans Pp_le (Nat.pow_le_pow_right (by decide) (Nat.le_trans (Eb_next h2 h6) (Eb_le (by omega))))
  omega
theorem while_walk {μ : Mu} {d : DEnds} {x0 x1 o2 o3 : Option Vl} {j w n kr : Nat} {L0 : List (List Int)} (hkr : μ.length ≤ kr) (hj : j < w) (h4 : n ≤ 9) (hL0 : Wide w L0) {S R : List (List Int)} {μ1 : Mu} {o7 o8 o9 o10 o11 o12 o13 o14 o15 : Option Vl} {m : Nat}
    (hW : WI j w n (Eb n) m S R) (hE : Eqv w (S ++ R) L0) (hR : μ1[kr]? = some (.lst (R.map rowL))) (hp : Pre μ μ1)
    (q : ∀ (S R : List (List Int)) (m : Nat) (μ1 : Mu) (o7 o8 o9 o10 o11 o12 o13 o14 o15 : Option Vl), WI j w n (Eb n) m S R → Eqv w (S ++ R) L0 → S.length ≤ 1 → μ1[kr]? = some (.lst (R.map rowL)) → Pre μ μ1 →
      d.nx [x0, x1, o2, o3, some (.int (j : Int)), some (.lst (S.map rowL)), some (.ref kr), o7, o8, o9, o10, o11, o12, o13, o14, o15] μ1) :
    hWhile d [x0, x1, o2, o3, some (.int (j : Int)), some (.lst (S.map rowL)), some (.ref kr), o7, o8, o9, o10, o11, o12, o13, o14, o15] μ1 := by
  refine ⟨fun m ρ μ1 => ∃ (S R : List (List Int)) (o7 o8 o9 o10 o11 o12 o13 o14 o15 : Option Vl), WI j w n (Eb n) m S R ∧ Eqv w (S ++ R) L0 ∧ μ1[kr]? = some (.lst (R.map rowL)) ∧ Pre μ μ1 ∧ ρ = [x0, x1, o2, o3, some (.int (j : Int)), some (.lst (S.map rowL)), some (.ref kr), o7, o8, o9, o10, o11, o12, o13, o14, o15],
    ⟨m, S, R, o7, o8, o9, o10, o11, o12, o13, o14, o15, hW, hE, hR, hp, rfl⟩, ?_⟩
  intro m ρ μ1 ⟨S, R, o7, o8, o9, o10, o11, o12, o13, o14, o15, hW, hE, hR, hp, e⟩
  subst e
  have hsl := sizeLine_eq
  refine ⟨_, S.map rowL, rfl, rfl, ?_⟩
  refine dec_split (p := (1 : Int) < ((S.map rowL).length : Int)) (fun h => ?_) (fun h => ?_)
  · rw [List.length_map] at h
    refine ⟨S.map rowL, rfl, ?_⟩
    refine DL.lc_map trivial _ (fun r => Vl.int (if at0 r j < 0 then -(at0 r j) else at0 r j)) _ _ (fun r hr P hP => ?_) (.inl ?_)
    · exact ⟨r.map .int, _, rfl, atI_at (by rw [(hW.hS r hr).1.1]; exact hj), hP⟩
    refine ⟨by show 0 ≤ _; omega, .inr ?_⟩
    refine ⟨rfl, ?_⟩
    have eab : ([] : List Vl) ++ S.map (fun r => Vl.int (if at0 r j < 0 then -(at0 r j) else at0 r j)) = (S.map fun r => if at0 r j < 0 then -(at0 r j) else at0 r j).map .int := by
      rw [List.nil_append, List.map_map]; rfl
    refine ⟨_, S.map (fun r => if at0 r j < 0 then -(at0 r j) else at0 r j), rfl, by show some _ = some _; rw [eab], by rw [List.length_map]; omega, fun v hv hmin => ?_⟩
    obtain ⟨s, hs, hs2⟩ := least_place hv
    refine ⟨_, v, s, by show some _ = some _; rw [eab], rfl, hs, hs2, ?_⟩
    rw [List.getElem?_map] at hs
    cases hf : S[s]? with
    | none => rw [hf] at hs; cases hs
    | some f =>
    rw [hf] at hs
    have hs := Option.some.inj hs
    have hsS : s < S.length := (List.getElem?_eq_some_iff.mp hf).1
    refine ⟨S.map rowL, rowL f, rfl, atI_nat (by rw [List.getElem?_map, hf]; rfl), ?_⟩
    refine ⟨S.map rowL, rfl, .inl ?_⟩
    refine ⟨S.map rowL, rfl, .inl ?_⟩
    have hcnt := hW.cnt
    refine ⟨_, _, rfl, rfl, ?_, .inl ?_⟩
    · have l1 := DL.cutD_length (S.map rowL) none (some (s : Int))
      have l2 := DL.cutD_length (S.map rowL) (some ((s : Int) + 1)) none
      rw [List.length_map] at l1 l2
      omega
    have eS : S = S.take s ++ f :: S.drop (s + 1) := by
      have e1 : S.drop s = f :: S.drop (s + 1) := by
        rw [List.drop_eq_getElem_cons hsS]
        congr 1
        exact (List.getElem?_eq_some_iff.mp hf).2
      rw [← e1, List.take_append_drop]
    have eT : DL.cutD (S.map rowL) none (some (s : Int)) ++ DL.cutD (S.map rowL) (some ((s : Int) + 1)) none = (S.take s ++ S.drop (s + 1)).map rowL := by
      rw [show (s : Int) + 1 = ((s + 1 : Nat) : Int) by omega, cut_take, cut_drop, List.map_append, List.map_take, List.map_drop]
    refine ⟨(S.take s ++ S.drop (s + 1)).map rowL, by show some _ = some _; rw [eT], ?_⟩
    have hmin' : ∀ r ∈ S, (at0 f j).natAbs ≤ (at0 r j).natAbs := fun r hr => by
      have h1 := hmin _ (List.mem_map_of_mem hr)
      rw [← hs] at h1
      have this : (if at0 f j < 0 then -(at0 f j) else at0 f j) ≤ (if at0 r j < 0 then -(at0 r j) else at0 r j) := h1
      split at this <;> split at this <;> omega
    have hfS : f ∈ S := List.mem_of_getElem? hf
    have hfj := hW.hS f hfS
    have hTm : ∀ r ∈ S.take s ++ S.drop (s + 1), r ∈ S := fun r hr => by
      rcases List.mem_append.mp hr with z | z
      · exact List.mem_of_mem_take z
      · exact List.mem_of_mem_drop z
    have hlen : (S.take s ++ S.drop (s + 1)).length + 1 = S.length := by
      rw [List.length_append, List.length_take, List.length_drop]; omega
    have hsm := small_log hW (by omega) h4
    have hwide : Wide w (S ++ R) := fun b hb => (List.mem_append.mp hb).elim (fun z => (hW.hS b z).1.1) fun z => (hW.hR b z).1
    have hkr1 := get_lt hR
    have hcn2 := hW.cnt
    rw [eS] at hW hwide hE
    obtain ⟨m', hm', hW'⟩ := hW.turn (by rw [← eS]; exact hmin') (by omega)
    have hE' := (turn_eqv (j := j) hwide)
    have hE2 := hE'.trans (fun b hb => (List.mem_append.mp hb).elim (fun z => (hW'.hS b z).1.1) fun z => (hW'.hR b z).1) hL0 hE
    refine turn_loop (kl := μ1.length) (kr := kr) (μ := μ) (by omega) hkr hp.len hj hfj.1.1 hfj.2 _ [] R _ _ _ _ _ _ (fun r hr => ?_) (get_new _ _) (get_add hR _) (hp.add _) (by simp at hlen ⊢; omega) fun μ2 o11 o12 o13 o14 o15 g1 g2 g3 => ?_
    · refine ⟨(hW.hS r (by rw [← eS]; exact hTm r hr)).1.1, fun y hy => ?_⟩
      have a3 := (hsm r (hTm r hr)).1
      have a4 := (hsm f hfS).1
      exact mulok_small (a := 10930000 + 1) (b := 10930000) (q_bits hfj.2 a3 a4) ((hsm f hfS).2 y hy) (by decide)
    · rw [List.nil_append] at g1
      refine ⟨by show 1 ≤ _; omega, .inl ?_⟩
      refine ⟨[rowL f], _, rfl, mv_ref g1, ?_, .inl ?_⟩
      · have := List.length_filter_le (isN j) ((S.take s ++ S.drop (s + 1)).map (red j f))
        rw [List.length_map] at this
        rw [List.length_map, List.length_singleton]
        omega
      · exact ⟨m', hm', _, _, _, _, _, _, _, _, _, _, _, hW', hE2, g2, g3, rfl⟩
  · rw [List.length_map] at h
    exact q S R m μ1 o7 o8 o9 o10 o11 o12 o13 o14 o15 hW hE (by omega) hR hp
/-! the whole of it -/
def hCol : DS := (dSeq (dAsg (dLc (dIter (dVar 2)) (dgName 11) (dTest (dOp dNe (dOp dIx (dVar 11) (dVar 4)) (dC (.int 0)))) (dVar 11) [11]) (dgName 5))
    (dSeq (dAsg (dLc (dIter (dVar 2)) (dgName 11) (dTest (dOp dEq (dOp dIx (dVar 11) (dVar 4)) (dC (.int 0)))) (dVar 11) [11]) (dgName 6))
    (dSeq hWhile
    (dSeq (dIf (dTest (dOp dNe (dVar 5) (dLst dNil))) (dSeq (dAsg (dIfE (dTest (dOp dGt (dOp dIx (dOp dIx (dVar 5) (dC (.int 0))) (dVar 4)) (dC (.int 0)))) (dOp dIx (dVar 5) (dC (.int 0))) (dLc (dIter (dOp dIx (dVar 5) (dC (.int 0)))) (dgName 13) dYes (dNeg (dVar 13)) [13])) (dgName 11))
    (dAsg (dOp dAdd (dLc (dIter (dVar 3)) (dgName 15) dYes (dLc (dZip (dCons (dVar 15) (dCons (dVar 11) dNil))) (dgTup 2 (dgCons (dgName 13) (dgCons (dgName 14) dgNil))) dYes (dOp (dI0 fun i j => .int (i - j)) (dVar 13) (dOp dMul (dOp dFdivB (dOp dIx (dVar 15) (dVar 4)) (dOp dIx (dVar 11) (dVar 4))) (dVar 14))) [13, 14]) [15]) (dLst (dCons (dVar 11) dNil))) (dgName 3))) dNext)
    (dAsg (dLc (dIter (dVar 6)) (dgName 11) (dTest (dOp dNe (dLc (dIter (dVar 11)) (dgName 13) (dTest (dOp dNe (dVar 13) (dC (.int 0)))) (dVar 13) [13]) (dLst dNil))) (dVar 11) [11]) (dgName 2))))))
def b__law_hermite : DS :=
    (dSeq (dPar 2 3 (dCons (dLc (dIter (dVar 0)) (dgName 11) dYes (dCB fList (dCons (dVar 11) dNil)) [11]) (dCons (dLst dNil) dNil)))
    (dSeq (dFor (dRange1 (dCons (dVar 1) dNil)) (dgName 4) hCol)
    (dRet (dCB fTuple (dCons (dLc (dIter (dVar 3)) (dgName 11) dYes (dCB fTuple (dCons (dVar 11) dNil)) [11]) dNil)))))
def c__law_hermite : Ct := fun xs μ Q => ∃ (x : Vl) (rows : List (List Int)) (w : Nat), xs = [x, .int (w : Int)] ∧ sview μ x = some (rows.map rowV) ∧ asLong (rows.map rowV) x μ ∧ w ≤ 100 ∧ rows.length ≤ 9 ∧ (∀ r ∈ rows, r.length = w ∧ Small (2 ^ Eb rows.length) r) ∧
  ∀ bs, Hnf w bs → Eqv w bs rows → bs.length ≤ rows.length → Q (.tup (bs.map rowV)) μ
theorem l__law_hermite : ∀ xs μ Q, c__law_hermite xs μ Q → xs.length = 2 := by
  intro xs μ Q ⟨_, _, _, e, _⟩
  subst e; rfl
theorem plainVs_rows : ∀ S : List (List Int), plainVs (S.map rowL) = true
  | [] => rfl
  | r :: S => by rw [List.map_cons, plainVs, plainVs_rows S, rowL, plainV, plainVs_ints]; rfl
theorem depVs_rows : ∀ S : List (List Int), depVs (S.map rowL) ≤ 1
  | [] => by rw [List.map_nil, depVs]; omega
  | r :: S => by
    rw [List.map_cons, depVs, rowL, depV, depVs_ints]
    have := depVs_rows S
    omega
/-- rows against none -/
theorem eq_rows {neg : Bool} {μ : Mu} {S : List (List Int)} {Q : DK} (q : Q (.bl (decide (S = []) != neg)) μ) : dEqN neg (.lst (S.map rowL)) (.lst []) μ Q := by
  refine datEq_plain (by rw [plainV]; exact plainVs_rows S) rfl (by rw [depV]; have := depVs_rows S; omega) (by decide) ?_
  have e : PyData.eqv (dataV (.lst (S.map rowL))) (dataV (.lst [])) = decide (S = []) := by
    cases S with
    | nil => rfl
    | cons r S => rfl
  rw [e]; exact q
theorem get_snoc (μ : Mu) (m : Mo) : (μ ++ [m])[μ.length]? = some m := by simp
theorem col_walk {μ μ1 : Mu} {d : DEnds} {x0 x1 : Option Vl} {o4 o5 o6 o7 o8 o9 o10 o11 o12 o13 o14 o15 : Option Vl} {j w n : Nat} {rows left found : List (List Int)} (hj : j < w) (hC : CJ j w n rows left found) (hp : Pre μ μ1)
    (q : ∀ (n : Nat) (left found : List (List Int)) (μ1 : Mu) (o4 o5 o6 o7 o8 o9 o10 o11 o12 o13 o14 o15 : Option Vl), CJ (j + 1) w n rows left found → Pre μ μ1 →
      d.nx [x0, x1, some (.lst (left.map rowL)), some (.lst (found.map rowL)), o4, o5, o6, o7, o8, o9, o10, o11, o12, o13, o14, o15] μ1) :
    hCol d [x0, x1, some (.lst (left.map rowL)), some (.lst (found.map rowL)), some (.int (j : Int)), o5, o6, o7, o8, o9, o10, o11, o12, o13, o14, o15] μ1 := by
  have hsl := sizeLine_eq
  have hleft := hC.lft
  refine ⟨left.map rowL, rfl, ?_⟩
  refine DL.lc_filter trivial _ (isN j) rowL _ _ (fun r hr P K h1 h2 => ?_) (.inl ?_)
  · refine ⟨r.map .int, _, rfl, atI_at (by rw [(hleft r hr).1.1]; exact hj), ?_⟩
    exact dec_splitN (p := at0 r j = 0) (fun e => h1 (by simpa [isN] using e)) (fun e => h2 (by simpa [isN] using e))
  refine ⟨left.map rowL, rfl, ?_⟩
  refine DL.lc_filter trivial _ (fun r => !isN j r) rowL _ _ (fun r hr P K h1 h2 => ?_) (.inr ?_)
  · refine ⟨r.map .int, _, rfl, atI_at (by rw [(hleft r hr).1.1]; exact hj), ?_⟩
    exact dec_splitE (p := at0 r j = 0) (fun e => h1 (by simpa [isN] using e)) (fun e => h2 (by simpa [isN] using e))
  rw [List.nil_append, List.nil_append]
  refine while_walk (μ := μ) (kr := μ1.length) hp.len hj hC.n6 (fun b hb => (hleft b hb).1.1) hC.start hC.start_eqv (get_snoc _ _) (hp.add _) fun S R m μ2 p7 p8 p9 p10 p11 p12 p13 p14 p15 hW hE h1 hR hp2 => ?_
  have last : ∀ (n : Nat) (found : List (List Int)) (o11 o15 : Option Vl), CJ (j + 1) w n rows (R.filter isZ) found → (dAsg (dLc (dIter (dVar 6)) (dgName 11) (dTest (dOp dNe (dLc (dIter (dVar 11)) (dgName 13) (dTest (dOp dNe (dVar 13) (dC (.int 0)))) (dVar 13) [13]) (dLst dNil))) (dVar 11) [11]) (dgName 2)) d
      [x0, x1, some (.lst (left.map rowL)), some (.lst (found.map rowL)), some (.int (j : Int)), some (.lst (S.map rowL)), some (.ref μ1.length), p7, p8, p9, p10, o11, p12, p13, p14, o15] μ2 := by
    intro n found o11 o15 hC'
    refine ⟨R.map rowL, vw_ref hR, ?_⟩
    have hG : asLong (R.map rowL) (.ref μ1.length) μ2 := mview_ref (mv_ref hR)
    refine DL.lc_filter hG _ isZ rowL _ _ (fun r hr P K h1 h2 => ?_) (.inl ?_)
    · refine ⟨r.map .int, rfl, ?_⟩
      refine DL.lc_filter trivial _ (fun x => decide (¬ x = 0)) Vl.int _ _ (fun x hx P2 K2 g1 g2 => ?_) (.inl ?_)
      · exact dec_splitN (p := x = 0) (fun e => g1 (by simpa using e)) (fun e => g2 (by simpa using e))
      refine ⟨by show 0 ≤ _; omega, .inl ?_⟩
      refine eq_lstI (s := []) ?_
      exact dec_splitN (p := (r.filter fun x => decide (¬ x = 0)) = []) (fun e => h1 (decide_eq_true e)) (fun e => h2 (decide_eq_false (fun k => k e)))
    · exact q n _ found μ2 _ _ _ _ _ _ _ _ _ _ _ _ hC' hp2
  refine ⟨by show 0 ≤ _; omega, .inl ?_⟩
  refine eq_rows ?_
  refine dec_splitN (p := S = []) (fun hne => ?_) (fun hnil => ?_)
  · obtain ⟨r, eS⟩ : ∃ r, S = [r] := by
      match S, hne, h1 with
      | [r], _, _ => exact ⟨r, rfl⟩
    subst eS
    have hr := hW.hS r (by simp)
    have hone := hC.one hj hW hE
    obtain ⟨n1, s1, _, _⟩ := WI_done hW hC.n6 (by simp) (by simp)
    obtain ⟨u1, u2, u3⟩ := upR_ok hr.1 hr.2 (s1 r (by simp))
    have he1 : Eb (n - 1) ≤ 10930000 := Eb_le (by have := hC.n6; omega)
    have he2 : 2 ^ Eb (n - 1) ≤ 2 ^ 10930000 := Nat.pow_le_pow_right (by decide) he1
    have go : (dAsg (dOp dAdd (dLc (dIter (dVar 3)) (dgName 15) dYes (dLc (dZip (dCons (dVar 15) (dCons (dVar 11) dNil))) (dgTup 2 (dgCons (dgName 13) (dgCons (dgName 14) dgNil))) dYes (dOp (dI0 fun i j => .int (i - j)) (dVar 13) (dOp dMul (dOp dFdivB (dOp dIx (dVar 15) (dVar 4)) (dOp dIx (dVar 11) (dVar 4))) (dVar 14))) [13, 14]) [15]) (dLst (dCons (dVar 11) dNil))) (dgName 3))
        { d with nx := fun ρ μ => (dAsg (dLc (dIter (dVar 6)) (dgName 11) (dTest (dOp dNe (dLc (dIter (dVar 11)) (dgName 13) (dTest (dOp dNe (dVar 13) (dC (.int 0)))) (dVar 13) [13]) (dLst dNil))) (dVar 11) [11]) (dgName 2)) d ρ μ }
        [x0, x1, some (.lst (left.map rowL)), some (.lst (found.map rowL)), some (.int (j : Int)), some (.lst ([r].map rowL)), some (.ref μ1.length), p7, p8, p9, p10, some (rowL (upR j r)), p12, p13, p14, p15] μ2 := by
      refine ⟨found.map rowL, rfl, ?_⟩
      refine DL.lc_map trivial _ (fun b => rowL (red j (upR j r) b)) _ _ (fun b hb P hP => ?_) (.inl ?_)
      · have hbl := hC.hnf.wide b hb
        refine ⟨_, _, b.map .int, (upR j r).map .int, rfl, rfl, rfl, ?_⟩
        rw [K26.zip_rows]
        refine DL.lc_map ⟨trivial, trivial⟩ _ (fun p' => Vl.int (p'.1 - (at0 b j).fdiv (at0 (upR j r) j) * p'.2)) _ _ (fun p' hp' P hP => ?_) (.inl ?_)
        · refine ⟨rfl, rfl, b.map .int, _, rfl, atI_at (by omega), (upR j r).map .int, _, rfl, atI_at (by rw [u1.1]; exact hj), by omega, ?_, hP⟩
          have a3 := at_small (hC.fs b hb) j
          have a4 := at_small u3 j
          have a5 : 2 ^ Fb n ≤ 2 ^ 24100000 := Nat.pow_le_pow_right (by decide) (Fb_le n)
          have a6 : 2 ^ 10930000 ≤ 2 ^ 24100000 := Nat.pow_le_pow_right (by decide) (by decide)
          exact mulok_small (a := 24100000 + 1) (b := 10930000) (q_bits (show at0 (upR j r) j ≠ 0 by omega) (Nat.le_trans a3 a5) (Nat.le_trans a4 (Nat.le_trans he2 a6))) (Nat.le_trans (u3 _ (List.of_mem_zip hp').2) he2) (by decide)
        · rw [minus_zip]
          exact hP
      · refine ⟨by show 1 ≤ _; omega, .inl ?_⟩
        refine ⟨_, [rowL (upR j r)], rfl, rfl, ?_, .inl ?_⟩
        · have := hC.all
          have := hC.r6
          simp; omega
        · have e : ([] : List Vl) ++ found.map (fun b => rowL (red j (upR j r) b)) ++ [rowL (upR j r)] = (found.map (red j (upR j r)) ++ [upR j r]).map rowL := by
            rw [List.nil_append, List.map_append, List.map_map]; rfl
          rw [e]
          exact last (n - 1) _ _ _ hone
    refine ⟨[rowL r], rowL r, rfl, rfl, r.map .int, .int (at0 r j), rfl, atI_at (by rw [hr.1.1]; exact hj), ?_⟩
    unfold upR at go
    refine dec_split (p := 0 < at0 r j) (fun hpos => ?_) (fun hpos => ?_)
    · rw [if_pos hpos] at go
      exact ⟨[rowL r], rowL r, rfl, rfl, go⟩
    · rw [if_neg hpos] at go
      refine ⟨[rowL r], rowL r, rfl, rfl, r.map .int, rfl, ?_⟩
      refine DL.lc_map trivial _ (fun x => Vl.int (-x)) _ _ (fun x hx P hP => hP) (.inl ?_)
      have e : ([] : List Vl) ++ r.map (fun x => Vl.int (-x)) = (neg r).map .int := by
        unfold neg
        rw [List.nil_append, List.map_map]; rfl
      rw [e]
      exact go
  · subst hnil
    exact last n found _ _ (hC.none hW hE)
theorem r__law_hermite : ∀ xs μ Q, c__law_hermite xs μ Q → b__law_hermite (pureEnds μ Q) (startD ["rows", "width", "left", "found", "at", "some", "rest", "sizes", "later", "spot", "first", "row", "by", "number", "its", "one"] xs) μ := by
  intro xs μ Q ⟨x, rows, w, e, hx, gx, hw, h4, hr, q⟩
  subst e
  have hsl := sizeLine_eq
  refine ⟨rows.map rowV, hx, ?_⟩
  refine DL.lc_map gx _ rowL _ _ (fun r hr P hP => ?_) (.inl ?_)
  · exact ⟨rowV r, r.map .int, rfl, rfl, .inl hP⟩
  rw [List.nil_append]
  refine ⟨by show 0 ≤ _; omega, .inl ?_⟩
  refine ⟨(w : Int), rfl, by omega, by omega, ?_⟩
  refine DL.forD_inv (fun rest ρ μ1 => ∃ (j n : Nat) (left found : List (List Int)) (o4 o5 o6 o7 o8 o9 o10 o11 o12 o13 o14 o15 : Option Vl), j ≤ w ∧ rest = (List.range' j (w - j)).map (fun (i : Nat) => Vl.int (i : Int)) ∧ CJ j w n rows left found ∧ Pre μ μ1 ∧
    ρ = [some x, some (.int (w : Int)), some (.lst (left.map rowL)), some (.lst (found.map rowL)), o4, o5, o6, o7, o8, o9, o10, o11, o12, o13, o14, o15]) (fun _ _ _ _ => trivial) (fun ρ μ1 h => ?_) (fun y rest ρ μ1 h D hD hrt _ => ?_) _ _ _ ?_
  · obtain ⟨j, n, left, found, o4, o5, o6, o7, o8, o9, o10, o11, o12, o13, o14, o15, hj, hrest, hC, hp, eρ⟩ := h
    subst eρ
    refine ⟨found.map rowL, rfl, ?_⟩
    refine DL.lc_map trivial _ rowV _ _ (fun r hr P hP => ?_) (.inl ?_)
    · exact ⟨rowL r, r.map .int, rfl, rfl, hP⟩
    rw [List.nil_append]
    have hjw : j = w := by
      apply Nat.le_antisymm hj
      apply Nat.le_of_not_lt
      intro hlt
      have := congrArg List.length hrest
      simp at this
      omega
    subst hjw
    refine ⟨_, found.map rowV, rfl, rfl, ?_, hp, q found hC.fin.1 hC.fin.2 (by have := hC.all; omega)⟩
    rw [rfb]
    have : ∀ S : List (List Int), rfbs μ.length (S.map rowV) = true := by
      intro S
      induction S with
      | nil => rw [List.map_nil, rfbs]
      | cons r S ih => rw [List.map_cons, rfbs, ih, rfb_row]; rfl
    exact this found
  · obtain ⟨j, n, left, found, o4, o5, o6, o7, o8, o9, o10, o11, o12, o13, o14, o15, hj, hrest, hC, hp, eρ⟩ := h
    subst eρ
    have hjw : j < w := by
      apply Nat.lt_of_le_of_ne hj
      intro e
      rw [e, Nat.sub_self] at hrest
      cases hrest
    rw [show w - j = (w - (j + 1)) + 1 by omega, List.range'_succ, List.map_cons] at hrest
    injection hrest with e1 e2
    subst e1
    refine col_walk (o4 := none) hjw hC hp fun n left found μ1 p4 p5 p6 p7 p8 p9 p10 p11 p12 p13 p14 p15 hC' hp' => ?_
    exact hD _ _ ⟨j + 1, n, left, found, p4, p5, p6, p7, p8, p9, p10, p11, p12, p13, p14, p15, by omega, e2, hC', hp', rfl⟩
  · refine ⟨0, rows.length, rows, [], none, none, none, none, none, none, none, none, none, none, none, none, by omega, ?_, CJ.first hr h4, Pre.refl μ, rfl⟩
    rw [Int.toNat_natCast, rngD_map, List.range_eq_range', Nat.sub_zero]
end K25

/-! S9a: plain lemmas for the reading of law. -/
namespace K25
/-- a mixing of images is the image of a mixing -/
theorem perm_lift {α β : Type} (f : α → β) {ws zs : List β} (h : ws.Perm zs) : ∀ l : List α, zs = l.map f → ∃ l' : List α, l'.Perm l ∧ ws = l'.map f := by
  induction h with
  | nil =>
    intro l e
    have := List.map_eq_nil_iff.mp e.symm
    subst this
    exact ⟨[], .refl _, rfl⟩
  | cons x h ih =>
    intro l e
    cases l with
    | nil => cases e
    | cons a l =>
      rw [List.map_cons, List.cons.injEq] at e
      obtain ⟨l', p, q⟩ := ih l e.2
      exact ⟨a :: l', .cons a p, by rw [List.map_cons, ← q, e.1]⟩
  | swap x y l0 =>
    intro l e
    cases l with
    | nil => cases e
    | cons a l =>
      cases l with
      | nil => cases e
      | cons b l =>
        rw [List.map_cons, List.map_cons, List.cons.injEq, List.cons.injEq] at e
        exact ⟨b :: a :: l, .swap _ _ _, by rw [List.map_cons, List.map_cons, e.1, e.2.1, e.2.2]⟩
  | trans h1 h2 ih1 ih2 =>
    intro l e
    obtain ⟨l2, p2, q2⟩ := ih2 l e
    obtain ⟨l1, p1, q1⟩ := ih1 l2 q2
    exact ⟨l1, p1.trans p2, q1⟩
/-- the common divisors of numbers -/
theorem dvd_gcdR (e : Nat) : ∀ (ns : List Int) (f : Nat), e ∣ gcdR f ns ↔ e ∣ f ∧ ∀ n ∈ ns, e ∣ n.natAbs
  | [], f => by
    constructor
    · exact fun h => ⟨h, fun n hn => by cases hn⟩
    · exact fun h => h.1
  | n :: ns, f => by
    have ih := dvd_gcdR e ns (Nat.gcd f n.natAbs)
    show e ∣ gcdR (Nat.gcd f n.natAbs) ns ↔ _
    rw [ih, Nat.dvd_gcd_iff]
    constructor
    · rintro ⟨⟨h1, h2⟩, h3⟩
      refine ⟨h1, fun m hm => ?_⟩
      rcases List.mem_cons.mp hm with z | z
      · rw [z]; exact h2
      · exact h3 m z
    · rintro ⟨h1, h2⟩
      exact ⟨⟨h1, h2 n List.mem_cons_self⟩, fun m hm => h2 m (List.mem_cons_of_mem _ hm)⟩
/-- numbers with the same common divisors have one content -/
theorem gcdR_eq {ns ms : List Int} (h : ∀ e : Nat, (∀ n ∈ ns, e ∣ n.natAbs) ↔ ∀ n ∈ ms, e ∣ n.natAbs) : gcdR 0 ns = gcdR 0 ms := by
  refine Nat.dvd_antisymm ?_ ?_
  · refine (dvd_gcdR _ ms 0).mpr ⟨Nat.dvd_zero _, (h _).mp fun n hn => ?_⟩
    exact ((dvd_gcdR _ ns 0).mp (Nat.dvd_refl _)).2 n hn
  · refine (dvd_gcdR _ ns 0).mpr ⟨Nat.dvd_zero _, (h _).mpr fun n hn => ?_⟩
    exact ((dvd_gcdR _ ms 0).mp (Nat.dvd_refl _)).2 n hn
/-- the content is none, or at most any number's size that isn't none -/
theorem gcdR_le {ns : List Int} {b : Nat} (h : ∀ n ∈ ns, n.natAbs ≤ b) : gcdR 0 ns ≤ b := by
  by_cases hz : ∀ n ∈ ns, n.natAbs = 0
  · have : 0 ∣ gcdR 0 ns := (dvd_gcdR 0 ns 0).mpr ⟨Nat.dvd_refl _, fun n hn => by rw [hz n hn]; exact Nat.dvd_refl _⟩
    rw [Nat.eq_zero_of_zero_dvd this]
    exact Nat.zero_le _
  · have ⟨n, hn⟩ := Classical.not_forall.mp hz
    have ⟨h1, h2⟩ := Classical.not_imp.mp hn
    exact Nat.le_trans (Nat.le_of_dvd (Nat.pos_of_ne_zero h2) (((dvd_gcdR _ ns 0).mp (Nat.dvd_refl _)).2 n h1)) (h n h1)
open K26 in
theorem sp_dvd {w : Nat} {B : List (List Int)} (hB : Wide w B) {e : Nat} (h : ∀ b ∈ B, ∀ n ∈ b, e ∣ n.natAbs) {v : List Int} (hv : Sp w B v) : ∀ j : Nat, (e : Int) ∣ at0 v j := by
  induction hv with
  | zero =>
    intro j
    rw [zeros_at]
    exact Int.dvd_zero _
  | add t hv hb ih =>
    rename_i v' b
    intro j
    rw [plus_at (by rw [hv.len hB, hB _ hb])]
    have hbj : ∀ b ∈ B, (e : Int) ∣ at0 b j := by
      intro b hb
      unfold at0
      rw [List.getD_eq_getElem?_getD]
      cases eb : b[j]? with
      | none => exact Int.dvd_zero _
      | some n => exact Int.ofNat_dvd_left.mpr (h b hb n (List.mem_of_getElem? eb))
    first
      | exact Int.dvd_add (ih j) (Int.dvd_mul_of_dvd_right (hbj _ hb))
      | exact Int.dvd_add (ih j) (Int.dvd_mul_of_dvd_left (hbj _ hb) _)
      | exact Int.dvd_add (ih j) (Int.dvd_trans (hbj _ hb) (Int.dvd_mul_left _ _))
      | exact Int.dvd_add (ih j) (Int.dvd_trans (hbj _ hb) (Int.dvd_mul_right _ _))
open K26 in
theorem content_eqv {w : Nat} {A B : List (List Int)} (hA : Wide w A) (hB : Wide w B) (h : Eqv w A B) : gcdR 0 A.flatten = gcdR 0 B.flatten := by
  have one : ∀ {A B : List (List Int)}, Wide w B → Sub w A B → ∀ e : Nat, (∀ n ∈ B.flatten, e ∣ n.natAbs) → ∀ n ∈ A.flatten, e ∣ n.natAbs := fun {A B} hB h e k n hn => by
    obtain ⟨a, ha, hna⟩ := List.mem_flatten.mp hn
    obtain ⟨j, hj, ej⟩ := List.mem_iff_getElem.mp hna
    have := sp_dvd hB (e := e) (fun b hb m hm => k m (List.mem_flatten.mpr ⟨b, hb, hm⟩)) (h a ha) j
    unfold at0 at this
    rw [List.getD_eq_getElem?_getD, List.getElem?_eq_getElem hj, ej] at this
    exact Int.ofNat_dvd_left.mp this
  exact gcdR_eq fun e => ⟨one hA h.2 e, one hB h.1 e⟩
end K25

set_option exponentiation.threshold 300
/-! S9b: more plain lemmas for the reading of law. -/
namespace K25
open PySem PySem.Spec L2 StX PyProof.Rows DL K26
theorem small20 {r : List Int} (h : ∀ y ∈ r, -20 ≤ y ∧ y ≤ 20) : Small (2 ^ 5) r := fun x hx => by
  have := h x hx
  show x.natAbs ≤ 32
  omega
theorem addM_sp {w : Nat} {B : List (List Int)} : ∀ {bs : List (List Int)} {ms v : List Int}, (∀ b ∈ bs, b ∈ B) → Sp w B v → Sp w B (addM bs ms v)
  | [], ms, v, _, hv => by unfold addM; exact hv
  | b :: t, [], v, _, hv => by unfold addM; exact hv
  | b :: t, m :: ms, v, hb, hv => addM_sp (bs := t) (ms := ms) (v := plus v b m) (fun c hc => hb c (List.mem_cons_of_mem _ hc)) (.add m hv (hb b List.mem_cons_self))
theorem sumR_sp {w : Nat} {R : List (List Int)} (hR : Wide w R) (ms : List Int) : Sp w R (sumR R ms w) := by
  have hs : Sp w R (addM R ms (zeros w)) := addM_sp (fun b hb => hb) .zero
  have e : sumR R ms w = addM R ms (zeros w) := row_ext' (w := w) sumR_len (hs.len hR) fun j hj => by
    rw [sumR_at hj, addM_sum hR (zeros_len w), zeros_at]; omega
  rw [e]; exact hs
theorem sum_small5 {a b w : Nat} {rows : List (List Int)} {ms : List Int} (h4 : rows.length ≤ 8) (hr : ∀ r ∈ rows, Small (2 ^ b) r) (hm : ∀ m ∈ ms, m.natAbs ≤ 2 ^ a) : Small (2 ^ (a + b + 3)) (sumR rows ms w) := by
  intro x hx
  obtain ⟨j, hj, e⟩ := mem_at hx
  rw [sumR_len] at hj
  rw [sumR_at hj] at e
  rw [← e]
  have h := sum_abs (c := 2 ^ a * 2 ^ b) (l := (ms.zip rows).map fun p => p.1 * at0 p.2 j) fun x hx => by
    obtain ⟨p, hp, e⟩ := List.mem_map.mp hx
    rw [← e, Int.natAbs_mul]
    exact Nat.mul_le_mul (hm _ (List.of_mem_zip hp).1) (at_small (hr _ (List.of_mem_zip hp).2) j)
  rw [List.length_map, List.length_zip] at h
  have e2 : 2 ^ (a + b + 3) = 8 * (2 ^ a * 2 ^ b) := by rw [Nat.pow_add, Nat.pow_add, Nat.mul_comm]
  rw [e2]
  exact Nat.le_trans h (Nat.mul_le_mul_right _ (by omega))
theorem scaled_sp {w : Nat} {S R : List (List Int)} {g : Int} (hS : Wide w S) (hR : Wide w R) (h : ∀ b ∈ S, Sp w R (plus (zeros w) b g)) {f : List Int} (hf : Sp w S f) : Sp w R (plus (zeros w) f g) := by
  induction hf with
  | zero =>
    rw [plus_zeros (zeros_len w)]; exact .zero
  | add t hv hb ih =>
    rename_i v b
    have lv := hv.len hS
    have lb := hS b hb
    have e : plus (zeros w) (plus v b t) g = plus (plus (zeros w) v g) (plus (zeros w) b g) t := by
      have z := zeros_len w
      have l1 : (plus (zeros w) v g).length = w := by rw [plus_len (by omega)]; exact z
      have l2 : (plus (zeros w) b g).length = w := by rw [plus_len (by omega)]; exact z
      have l3 : (plus v b t).length = w := by rw [plus_len (by omega)]; exact lv
      refine row_ext' (w := w) (by rw [plus_len (by omega)]; exact z) (by rw [plus_len (by omega)]; exact l1) fun j hj => ?_
      rw [plus_at (by omega), plus_at (by omega), plus_at (by omega), plus_at (by omega), plus_at (by omega), zeros_at]
      rw [Int.mul_add, Int.zero_add, Int.zero_add, Int.zero_add, ← Int.mul_assoc, ← Int.mul_assoc, Int.mul_comm g t]
    rw [e]
    exact ih.plus hR (h b hb) t
/-- where the first number stands -/
def leadN (b : List Int) : Nat := (leadFrom 0 b).getD 0
theorem hnf_leadN {w : Nat} : ∀ {H : List (List Int)}, Hnf w H → ∀ b ∈ H, leadFrom 0 b = some (leadN b) ∧ leadN b < w ∧ 0 < at0 b (leadN b)
  | b :: t, ⟨h1, ⟨p, h2, h3, h4⟩, h5⟩, c, hc => by
    rcases List.mem_cons.mp hc with z | z
    · subst z
      have e : leadN c = p := by unfold leadN; rw [h2]; rfl
      obtain ⟨s1, s2, s3, s4⟩ := lead_spec c 0 p h2
      rw [e]
      exact ⟨h2, by omega, h3⟩
    · exact hnf_leadN h5 c z
theorem hnf_asc {w : Nat} : ∀ {H : List (List Int)}, Hnf w H → (H.map fun b => ((leadN b : Nat) : Int)).Pairwise (· < ·)
  | [], _ => List.Pairwise.nil
  | b :: t, ⟨h1, ⟨p, h2, h3, h4⟩, h5⟩ => by
    rw [List.map_cons]
    refine List.Pairwise.cons (fun x hx => ?_) (hnf_asc h5)
    obtain ⟨c, hc, e⟩ := List.mem_map.mp hx
    obtain ⟨k1, k2, k3⟩ := hnf_leadN h5 c hc
    have e2 : leadN b = p := by unfold leadN; rw [h2]; rfl
    have := (h4 c hc).1
    rw [← e, e2]
    apply Int.ofNat_lt.mpr
    apply Nat.lt_of_not_le
    intro hle
    rw [this _ hle] at k3
    omega
theorem hnf_pre {w : Nat} {b : List Int} {suf : List (List Int)} : ∀ {pre : List (List Int)}, Hnf w (pre ++ b :: suf) → ∀ c ∈ pre, 0 ≤ at0 c (leadN b) ∧ at0 c (leadN b) < at0 b (leadN b)
  | a :: pre, h, c, hc => by
    obtain ⟨h1, ⟨p, h2, h3, h4⟩, h5⟩ := h
    rcases List.mem_cons.mp hc with z | z
    · rw [z]
      have hb : b ∈ pre ++ b :: suf := by simp
      exact (h4 b hb).2 _ (hnf_leadN h5 b hb).1
    · exact hnf_pre h5 c z
theorem asc_ext : ∀ {xs ys : List Int}, xs.Pairwise (· < ·) → ys.Pairwise (· < ·) → (∀ k, k ∈ xs ↔ k ∈ ys) → xs = ys
  | [], [], _, _, _ => rfl
  | [], y :: ys, _, _, h => by have := (h y).mpr List.mem_cons_self; cases this
  | x :: xs, [], _, _, h => by have := (h x).mp List.mem_cons_self; cases this
  | x :: xs, y :: ys, hx, hy, h => by
    obtain ⟨x1, x2⟩ := List.pairwise_cons.mp hx
    obtain ⟨y1, y2⟩ := List.pairwise_cons.mp hy
    have e : x = y := by
      rcases List.mem_cons.mp ((h x).mp List.mem_cons_self) with z | z
      · exact z
      · rcases List.mem_cons.mp ((h y).mpr List.mem_cons_self) with u | u
        · exact u.symm
        · have := y1 x z
          have := x1 y u
          omega
    subst e
    have : xs = ys := asc_ext x2 y2 fun k => by
      have hk := h k
      rw [List.mem_cons, List.mem_cons] at hk
      constructor
      · intro m
        rcases hk.mp (.inr m) with z | z
        · have := x1 k m; omega
        · exact z
      · intro m
        rcases hk.mpr (.inr m) with z | z
        · have := y1 k m; omega
        · exact z
    rw [this]
/-! rows as tuples -/
theorem plainVs_rowV : ∀ S : List (List Int), plainVs (S.map rowV) = true
  | [] => rfl
  | r :: S => by rw [List.map_cons, plainVs, plainVs_rowV S, rowV, plainV, plainVs_ints]; rfl
theorem depVs_rowV : ∀ S : List (List Int), depVs (S.map rowV) ≤ 1
  | [] => by rw [List.map_nil, depVs]; omega
  | r :: S => by
    rw [List.map_cons, depVs, rowV, depV, depVs_ints]
    have := depVs_rowV S
    omega
theorem nodVs_rowV {w : Nat} : ∀ {S : List (List Int)}, (∀ r ∈ S, r.length = w) → nodVs (S.map rowV) = S.length * (w + 1)
  | [], _ => by rw [List.map_nil, nodVs, List.length_nil, Nat.zero_mul]
  | r :: S, h => by
    rw [List.map_cons, nodVs, nodVs_rowV fun c hc => h c (List.mem_cons_of_mem _ hc), rowV, nodV, nodVs_ints, h r List.mem_cons_self, List.length_cons, Nat.add_mul]
    omega
theorem short_int {i : Int} (h : i.natAbs ≤ 2 ^ 440) : i.natAbs.log2 < 1920 := by
  by_cases hz : i.natAbs = 0
  · rw [hz]; decide
  · have := (Nat.log2_lt hz).mpr (show i.natAbs < 2 ^ 441 from Nat.lt_of_le_of_lt h (Nat.pow_lt_pow_right (by decide) (by decide)))
    omega
theorem shortVs_rowV : ∀ {S : List (List Int)}, (∀ r ∈ S, Small (2 ^ 440) r) → shortVs (S.map rowV) = true
  | [], _ => rfl
  | r :: S, h => by
    rw [List.map_cons, shortVs, shortVs_rowV fun c hc => h c (List.mem_cons_of_mem _ hc), rowV, shortV, shortVs_ints, Bool.and_true, List.all_eq_true]
    intro i hi
    exact decide_eq_true (short_int (h r List.mem_cons_self i hi))
theorem eqvAll_rowV : ∀ A B : List (List Int), PyData.eqvAll (dataVs (A.map rowV)) (dataVs (B.map rowV)) = decide (A = B)
  | [], [] => rfl
  | [], y :: s => by rw [List.map_nil, List.map_cons, dataVs, dataVs, PyData.eqvAll]; simp
  | x :: r, [] => by rw [List.map_nil, List.map_cons, dataVs, dataVs, PyData.eqvAll]; simp
  | x :: r, y :: s => by
    rw [List.map_cons, List.map_cons, dataVs, dataVs, PyData.eqvAll, eqvAll_rowV r s, rowV, rowV, dataV, dataV, dataVs_ints, dataVs_ints, PyData.eqv, eqvAll_ints]
    by_cases h1 : x = y <;> by_cases h2 : r = s <;> simp [h1, h2]
theorem eq_rowsV {neg : Bool} {μ : Mu} {A B : List (List Int)} {Q : DK} (q : Q (.bl (decide (A = B) != neg)) μ) : dEqN neg (.tup (A.map rowV)) (.tup (B.map rowV)) μ Q := by
  refine datEq_plain (by rw [plainV]; exact plainVs_rowV A) (by rw [plainV]; exact plainVs_rowV B) (by rw [depV]; have := depVs_rowV A; omega) (by rw [depV]; have := depVs_rowV B; omega) ?_
  rw [dataV, dataV, PyData.eqv, eqvAll_rowV]
  exact q
theorem mem_perm_eqv {w : Nat} {A B : List (List Int)} (hB : Wide w B) (h : A.Perm B) : Eqv w A B :=
  ⟨Sub.of_mem hB fun a ha => h.mem_iff.mp ha, Sub.of_mem (fun b hb => hB b (h.mem_iff.mp hb)) fun a ha => h.mem_iff.mpr ha⟩
theorem flat_len {w : Nat} : ∀ {R : List (List Int)}, (∀ r ∈ R, r.length = w) → R.flatten.length = R.length * w
  | [], _ => by simp
  | r :: R, h => by
    rw [List.flatten_cons, List.length_append, h r List.mem_cons_self, flat_len fun c hc => h c (List.mem_cons_of_mem _ hc), List.length_cons, Nat.add_mul]
    omega
/-- what is known of the rows drawn and their form -/
structure RF (w : Nat) (R bs : List (List Int)) : Prop where
  w30 : w ≤ 30
  w1 : 1 ≤ w
  len : R.length ≤ 5
  row : ∀ r ∈ R, r.length = w ∧ Small (2 ^ 133) r
  hnf : Hnf w bs
  eqv : Eqv w bs R
  bl : bs.length ≤ 5
  small : ∀ c ∈ bs, Small (2 ^ 440) c
theorem RF.wide {w : Nat} {R bs : List (List Int)} (h : RF w R bs) : Wide w R := fun r hr => (h.row r hr).1
theorem RF.repr {w : Nat} {R bs : List (List Int)} (h : RF w R bs) : plainV (.tup (bs.map rowV)) = true ∧ shortV (.tup (bs.map rowV)) = true ∧ depV (.tup (bs.map rowV)) ≤ 64 ∧ 1932 * nodV (.tup (bs.map rowV)) ≤ sizeLine := by
  have hsl := sizeLine_eq
  refine ⟨by rw [plainV]; exact plainVs_rowV bs, by rw [shortV]; exact shortVs_rowV h.small, by rw [depV]; have := depVs_rowV bs; omega, ?_⟩
  rw [nodV, nodVs_rowV h.hnf.wide, hsl]
  have h1 := h.bl
  have h2 := h.w30
  have : bs.length * (w + 1) ≤ 5 * 31 := Nat.mul_le_mul h1 (by omega)
  omega
theorem RF.uniq {w : Nat} {R bs H : List (List Int)} (h : RF w R bs) {A : List (List Int)} (hA : Wide w A) (hH : Hnf w H) (e : Eqv w H A) (e2 : Eqv w A R) : H = bs :=
  hnf_unique hH h.hnf ((e.trans hH.wide h.wide e2).trans hH.wide h.hnf.wide h.eqv.symm)
/-- rows drawn, of which some are told gr times over -/
theorem RF.of {w : Nat} {S0 R bs : List (List Int)} {gr : Int} (w30 : w ≤ 30) (w1 : 1 ≤ w) (h5 : S0.length ≤ 5) (hS : ∀ r ∈ S0, r.length = w ∧ Small (2 ^ 5) r) (hg0 : gr ≠ 0) (hg : gr.natAbs ≤ 2 ^ 127) (hl : R.length = S0.length) (hR : ∀ r ∈ R, r ∈ S0 ∨ ∃ b ∈ S0, r = plus (zeros w) b gr) (hb : ∀ b ∈ S0, Sp w R (plus (zeros w) b gr))
    (hH : Hnf w bs) (hE : Eqv w bs R) (hbl : bs.length ≤ R.length) : RF w R bs := by
  have hSw : Wide w S0 := fun r hr => (hS r hr).1
  have row : ∀ r ∈ R, r.length = w ∧ Small (2 ^ 133) r := fun r hr => by
    rcases hR r hr with z | ⟨b, hb, e⟩
    · exact ⟨(hS r z).1, (hS r z).2.mono (Nat.pow_le_pow_right (by decide) (by decide))⟩
    · have lb := (hS b hb).1
      have lz := zeros_len w
      refine ⟨by rw [e, plus_len (by omega)]; exact lz, fun x hx => ?_⟩
      obtain ⟨j, _, ej⟩ := mem_at hx
      rw [e, plus_at (by omega), zeros_at, Int.zero_add] at ej
      rw [← ej, Int.natAbs_mul]
      have := Nat.mul_le_mul hg (at_small (hS b hb).2 j)
      rw [← Nat.pow_add] at this
      exact Nat.le_trans this (Nat.pow_le_pow_right (by decide) (by decide))
  have hRw : Wide w R := fun r hr => (row r hr).1
  have hRS : Sub w R S0 := fun r hr => by
    rcases hR r hr with z | ⟨b, hb, e⟩
    · exact Sp.self hSw z
    · rw [e]; exact .add gr .zero hb
  refine ⟨w30, w1, by omega, row, hH, hE, by omega, ?_⟩
  exact hnf_small5 hS h5 hH hg0 hg (hE.1.trans hSw hRS) fun f hf => (scaled_sp hSw hRw hb hf).trans hH.wide hE.2
end K25

set_option exponentiation.threshold 300
/-! Y1: rows whose products with given rows are 0: where they begin, how many, how great. -/
namespace K27
open K26 K25
def dot (v r : List Int) : Int := ((v.zip r).map fun p => p.1 * p.2).sum
theorem dot_cons (x y : Int) (v r : List Int) : dot (x :: v) (y :: r) = x * y + dot v r := by
  unfold dot
  rw [List.zip_cons_cons, List.map_cons, List.sum_cons]
theorem dot_mix (a b : Int) : ∀ {u v r : List Int}, u.length = v.length → dot (mixR a b u v) r = a * dot u r + b * dot v r
  | [], [], r, _ => by simp [dot, mixR]
  | x :: u, y :: v, [], h => by simp [dot]
  | x :: u, y :: v, z :: r, h => by
    have ih := dot_mix a b (u := u) (v := v) (r := r) (by simpa using h)
    show dot ((a * x + b * y) :: mixR a b u v) (z :: r) = _
    rw [dot_cons, dot_cons, dot_cons, ih, Int.add_mul, Int.mul_add, Int.mul_add, Int.mul_assoc, Int.mul_assoc]
    omega
theorem dot_plus {t : Int} : ∀ {v x b : List Int}, x.length = b.length → dot v (plus x b t) = dot v x + t * dot v b
  | [], x, b, _ => by simp [dot]
  | a :: v, [], [], _ => by simp [dot, plus]
  | a :: v, x :: xs, y :: ys, h => by
    have ih := dot_plus (t := t) (v := v) (x := xs) (b := ys) (by simpa using h)
    show dot (a :: v) ((x + t * y) :: plus xs ys t) = _
    rw [dot_cons, dot_cons, dot_cons, ih, Int.mul_add, Int.mul_add, ← Int.mul_assoc, ← Int.mul_assoc, Int.mul_comm a t]
    omega
theorem dot_zeros : ∀ (v : List Int) (w : Nat), dot v (zeros w) = 0
  | [], w => by simp [dot]
  | a :: v, 0 => by simp [dot, zeros]
  | a :: v, w + 1 => by
    show dot (a :: v) (0 :: zeros w) = 0
    rw [dot_cons, dot_zeros v w]; omega
theorem dot_zeros' : ∀ (r : List Int) (w : Nat), dot (zeros w) r = 0
  | [], w => by simp [dot]
  | a :: v, 0 => by simp [dot, zeros]
  | a :: v, w + 1 => by
    show dot (0 :: zeros w) (a :: v) = 0
    rw [dot_cons, dot_zeros' v w]; omega
theorem dot_small {a b : Nat} {v r : List Int} (hl : v.length ≤ 16) (hv : Small (2 ^ a) v) (hr : Small (2 ^ b) r) : (dot v r).natAbs ≤ 2 ^ (a + b + 4) := by
  have h := sum_abs (c := 2 ^ a * 2 ^ b) (l := (v.zip r).map fun p => p.1 * p.2) fun x hx => by
    obtain ⟨p, hp, e⟩ := List.mem_map.mp hx
    rw [← e, Int.natAbs_mul]
    exact Nat.mul_le_mul (hv _ (List.of_mem_zip hp).1) (hr _ (List.of_mem_zip hp).2)
  rw [List.length_map, List.length_zip] at h
  have e2 : 2 ^ (a + b + 4) = 16 * (2 ^ a * 2 ^ b) := by rw [Nat.pow_add, Nat.pow_add, Nat.mul_comm]
  rw [e2]
  exact Nat.le_trans h (Nat.mul_le_mul_right _ (by omega))
/-- lots of rows that may be put together -/
structure Lat (w : Nat) (P : List Int → Prop) : Prop where
  len : ∀ v, P v → v.length = w
  mix : ∀ u v (a b : Int), P u → P v → P (mixR a b u v)
/-- p is where some of them begins -/
def Ld (w : Nat) (P : List Int → Prop) (p : Nat) : Prop := p < w ∧ ∃ v, P v ∧ Flat p w v ∧ at0 v p ≠ 0
def SmallLd (w B : Nat) (P : List Int → Prop) : Prop := ∀ p, Ld w P p → ∃ v, P v ∧ Flat p w v ∧ at0 v p ≠ 0 ∧ Small (2 ^ B) v
theorem mix_flat {p w : Nat} {a b : Int} {u v : List Int} (hu : Flat p w u) (hv : Flat p w v) : Flat p w (mixR a b u v) := ⟨mixR_len hu.1 hv.1, fun i hi => by
  rw [mixR_at hu.1 hv.1, hu.2 i hi, hv.2 i hi]; omega⟩
theorem mix_next {p w : Nat} {u v : List Int} (hu : Flat p w u) (hv : Flat p w v) : Flat (p + 1) w (mixR (at0 v p) (-(at0 u p)) u v) := ⟨mixR_len hu.1 hv.1, fun i hi => by
  rw [mixR_at hu.1 hv.1]
  by_cases hip : i = p
  · rw [hip, Int.neg_mul, Int.mul_comm]; omega
  · rw [hu.2 i (by omega), hv.2 i (by omega)]; omega⟩
theorem flat_end {w : Nat} {v : List Int} (h : Flat w w v) : v = zeros w := row_ext' h.1 (zeros_len w) fun j hj => by rw [zeros_at]; exact h.2 j hj
/-- the greatest place from which on some row has a product that is not 0 -/
theorem last_place {w : Nat} {P : List Int → Prop} {b : List Int} (L : Lat w P) : ∀ (n q : Nat), q + n = w → (∃ v, P v ∧ Flat q w v ∧ dot v b ≠ 0) → ∃ q', q' < w ∧ (∃ v, P v ∧ Flat q' w v ∧ dot v b ≠ 0) ∧ ∀ v, P v → Flat (q' + 1) w v → dot v b = 0
  | 0, q, h, ⟨v, h1, h2, h3⟩ => by
    have hq : q = w := by omega
    rw [hq] at h2
    rw [flat_end h2, dot_zeros'] at h3
    exact absurd rfl h3
  | n + 1, q, h, hv => by
    by_cases hc : ∃ v, P v ∧ Flat (q + 1) w v ∧ dot v b ≠ 0
    · exact last_place L n (q + 1) (by omega) hc
    · refine ⟨q, by omega, hv, fun v h1 h2 => ?_⟩
      apply Classical.byContradiction
      intro h3
      exact hc ⟨v, h1, h2, h3⟩
/-- one more row to have the product 0 with: one beginning less -/
theorem step_less {w : Nat} {P : List Int → Prop} {b : List Int} (L : Lat w P) (h : ∃ v, P v ∧ dot v b ≠ 0) :
    ∃ q, Ld w P q ∧ (∀ p, Ld w (fun v => P v ∧ dot v b = 0) p ↔ Ld w P p ∧ p ≠ q) ∧
      ∀ B, SmallLd w B P → w ≤ 16 → Small (2 ^ 5) b → SmallLd w (2 * B + 10) fun v => P v ∧ dot v b = 0 := by
  obtain ⟨v0, hv0, hd0⟩ := h
  obtain ⟨q, hqw, ⟨t, ht, ft, dt⟩, hmax⟩ := last_place (b := b) L w 0 (by omega) ⟨v0, hv0, ⟨L.len v0 hv0, fun i hi => absurd hi (Nat.not_lt_zero _)⟩, hd0⟩
  have tl := L.len t ht
  have tq : at0 t q ≠ 0 := fun e => dt (hmax t ht ⟨ft.1, fun i hi => by
    by_cases hiq : i = q
    · rw [hiq]; exact e
    · exact ft.2 i (by omega)⟩)
  have notq : ∀ v, P v → Flat q w v → at0 v q ≠ 0 → dot v b ≠ 0 := fun v hv fv vq hd => by
    have h1 := hmax _ (L.mix v t (at0 t q) (-(at0 v q)) hv ht) (mix_next fv ft)
    rw [dot_mix _ _ (by rw [fv.1, ft.1]), hd, Int.mul_zero, Int.zero_add] at h1
    rcases Int.mul_eq_zero.mp h1 with z | z
    · omega
    · exact dt z
  have before : ∀ p v, P v → Flat p w v → at0 v p ≠ 0 → p ≠ q → dot v b ≠ 0 → p < q := fun p v hv fv vp hpq hd => by
    apply Nat.lt_of_not_le
    intro hle
    exact hd (hmax v hv ⟨fv.1, fun i hi => fv.2 i (by omega)⟩)
  have made : ∀ p v s, P v → Flat p w v → at0 v p ≠ 0 → p < q → P s → Flat q w s → dot s b ≠ 0 → (P (mixR (dot s b) (-(dot v b)) v s) ∧ dot (mixR (dot s b) (-(dot v b)) v s) b = 0) ∧ Flat p w (mixR (dot s b) (-(dot v b)) v s) ∧ at0 (mixR (dot s b) (-(dot v b)) v s) p ≠ 0 := fun p v s hv fv vp hpq hs fs ds => by
    refine ⟨⟨L.mix _ _ _ _ hv hs, ?_⟩, mix_flat fv ⟨fs.1, fun i hi => fs.2 i (by omega)⟩, ?_⟩
    · rw [dot_mix _ _ (by rw [fv.1, fs.1]), Int.neg_mul, Int.mul_comm]; omega
    · rw [mixR_at fv.1 fs.1, fs.2 p hpq, Int.mul_zero, Int.add_zero]
      intro z
      rcases Int.mul_eq_zero.mp z with z | z
      · exact ds z
      · exact vp z
  refine ⟨q, ⟨hqw, t, ht, ft, tq⟩, fun p => ⟨fun hp => ?_, fun hp => ?_⟩, fun B hB hw hb p hp => ?_⟩
  · obtain ⟨hpw, v, ⟨hv, hd⟩, fv, vp⟩ := hp
    refine ⟨⟨hpw, v, hv, fv, vp⟩, fun e => ?_⟩
    subst e
    exact notq v hv fv vp hd
  · obtain ⟨⟨hpw, v, hv, fv, vp⟩, hpq⟩ := hp
    by_cases hd : dot v b = 0
    · exact ⟨hpw, v, ⟨hv, hd⟩, fv, vp⟩
    · obtain ⟨m1, m2, m3⟩ := made p v t hv fv vp (before p v hv fv vp hpq hd) ht ft dt
      exact ⟨hpw, _, m1, m2, m3⟩
  · obtain ⟨hpw, v, ⟨hv, hd⟩, fv, vp⟩ := hp
    have hpq : p ≠ q := fun e => by
      subst e
      exact notq v hv fv vp hd
    obtain ⟨s, hs, fs, sq, ss⟩ := hB q ⟨hqw, t, ht, ft, tq⟩
    obtain ⟨v', hv', fv', vp', sv'⟩ := hB p ⟨hpw, v, hv, fv, vp⟩
    by_cases hd' : dot v' b = 0
    · exact ⟨v', ⟨hv', hd'⟩, fv', vp', sv'.mono (Nat.pow_le_pow_right (by decide) (by omega))⟩
    · obtain ⟨m1, m2, m3⟩ := made p v' s hv' fv' vp' (before p v' hv' fv' vp' hpq hd') hs fs (notq s hs fs sq)
      refine ⟨_, m1, m2, m3, ?_⟩
      have d1 := dot_small (by rw [fs.1]; exact hw) ss hb
      have d2 := dot_small (by rw [fv'.1]; exact hw) sv' hb
      exact (mixR_small fv'.1 fs.1 d1 (by rw [Int.natAbs_neg]; exact d2) sv' ss rfl).mono (Nat.pow_le_pow_right (by decide) (by omega))
/-- how many beginnings -/
noncomputable def cntL (w : Nat) (P : List Int → Prop) : Nat := ((List.range w).filter fun p => @decide (Ld w P p) (Classical.propDecidable _)).length
theorem filter_one {α : Type} {f g : α → Bool} {q : α} : ∀ {l : List α}, l.Nodup → q ∈ l → f q = true → (∀ p ∈ l, g p = true ↔ f p = true ∧ p ≠ q) → (l.filter g).length + 1 = (l.filter f).length
  | [], _, h, _, _ => by cases h
  | a :: l, hn, hq, hf, h => by
    obtain ⟨n1, n2⟩ := List.nodup_cons.mp hn
    by_cases e : a = q
    · have ga : g a = false := by
        cases hg : g a with
        | false => rfl
        | true => exact absurd e ((h a List.mem_cons_self).mp hg).2
      have fa : f a = true := by rw [e]; exact hf
      have same : l.filter g = l.filter f := List.filter_congr fun p hp => by
        have hpq : p ≠ q := fun k => n1 (by rw [e, ← k]; exact hp)
        have := h p (List.mem_cons_of_mem _ hp)
        cases hg : g p with
        | true => exact ((this.mp hg).1).symm
        | false =>
          cases hf' : f p with
          | false => rfl
          | true => rw [this.mpr ⟨hf', hpq⟩] at hg; cases hg
      rw [List.filter_cons_of_neg (by rw [ga]; exact Bool.false_ne_true), List.filter_cons_of_pos fa, same, List.length_cons]
    · have hq' : q ∈ l := by
        rcases List.mem_cons.mp hq with z | z
        · exact absurd z.symm e
        · exact z
      have ih := filter_one n2 hq' hf fun p hp => h p (List.mem_cons_of_mem _ hp)
      have := h a List.mem_cons_self
      cases hfa : f a with
      | true =>
        rw [List.filter_cons_of_pos (this.mpr ⟨hfa, e⟩), List.filter_cons_of_pos hfa, List.length_cons, List.length_cons, ih]
      | false =>
        have ga : g a = false := by
          cases hg : g a with
          | false => rfl
          | true => rw [(this.mp hg).1] at hfa; cases hfa
        rw [List.filter_cons_of_neg (by rw [ga]; exact Bool.false_ne_true), List.filter_cons_of_neg (by rw [hfa]; exact Bool.false_ne_true), ih]
theorem cnt_step {w : Nat} {P : List Int → Prop} {b : List Int} (L : Lat w P) (h : ∃ v, P v ∧ dot v b ≠ 0) : cntL w (fun v => P v ∧ dot v b = 0) + 1 = cntL w P := by
  obtain ⟨q, hq, hp, _⟩ := step_less L h
  unfold cntL
  refine filter_one (q := q) List.nodup_range (List.mem_range.mpr hq.1) (by simpa using hq) fun p _ => ?_
  simpa using hp p
theorem cnt_same {w : Nat} {P P' : List Int → Prop} (h : ∀ v, P v ↔ P' v) : cntL w P = cntL w P' := by
  have e : P = P' := funext fun v => propext (h v)
  rw [e]
/-! the rows whose products with given ones are all 0 -/
def Ker (w : Nat) (rows : List (List Int)) (v : List Int) : Prop := v.length = w ∧ ∀ r ∈ rows, dot v r = 0
theorem ker_lat (w : Nat) (rows : List (List Int)) : Lat w (Ker w rows) := ⟨fun v h => h.1, fun u v a b hu hv => ⟨mixR_len hu.1 hv.1, fun r hr => by
  rw [dot_mix _ _ (by rw [hu.1, hv.1]), hu.2 r hr, hv.2 r hr]; omega⟩⟩
theorem ker_cons (w : Nat) (b : List Int) (t : List (List Int)) (v : List Int) : Ker w (b :: t) v ↔ (Ker w t v ∧ dot v b = 0) :=
  ⟨fun h => ⟨⟨h.1, fun r hr => h.2 r (List.mem_cons_of_mem _ hr)⟩, h.2 b List.mem_cons_self⟩, fun h => ⟨h.1.1, fun r hr => by
    rcases List.mem_cons.mp hr with z | z
    · rw [z]; exact h.2
    · exact h.1.2 r z⟩⟩
/-- a one at p -/
def unit (w p : Nat) : List Int := (List.range w).map fun j => if p = j then 1 else 0
theorem unit_len (w p : Nat) : (unit w p).length = w := by simp [unit]
theorem unit_at {w p : Nat} (j : Nat) (hj : j < w) : at0 (unit w p) j = if p = j then 1 else 0 := by
  unfold unit at0
  rw [List.getD_eq_getElem?_getD, List.getElem?_map, List.getElem?_eq_getElem (by simpa using hj)]
  simp
theorem unit_flat {w p : Nat} (hp : p < w) : Flat p w (unit w p) ∧ at0 (unit w p) p = 1 ∧ Small (2 ^ 0) (unit w p) := by
  refine ⟨⟨unit_len w p, fun i hi => by rw [unit_at i (by omega), if_neg (by omega)]⟩, by rw [unit_at p hp, if_pos rfl], fun x hx => ?_⟩
  obtain ⟨j, _, e⟩ := List.mem_map.mp hx
  rw [← e]
  split <;> decide
theorem dot_unit : ∀ {w p : Nat} {r : List Int}, p < w → r.length = w → dot (unit w p) r = at0 r p := by
  have key : ∀ (n s p : Nat) (r : List Int), r.length = n → s ≤ p → p < s + n → dot ((List.range' s n).map fun j => if p = j then (1 : Int) else 0) r = at0 r (p - s) := by
    have zero : ∀ (n s p : Nat) (r : List Int), p < s → dot ((List.range' s n).map fun j => if p = j then (1 : Int) else 0) r = 0 := by
      intro n
      induction n with
      | zero => intro s p r _; simp [dot]
      | succ n ih =>
        intro s p r hp
        rw [List.range'_succ, List.map_cons]
        cases r with
        | nil => simp [dot]
        | cons y r => rw [dot_cons, ih (s + 1) p r (by omega), if_neg (by omega)]; omega
    intro n
    induction n with
    | zero => intro s p r _ h1 h2; omega
    | succ n ih =>
      intro s p r hr h1 h2
      rw [List.range'_succ, List.map_cons]
      cases r with
      | nil => cases hr
      | cons y r =>
        rw [dot_cons]
        by_cases hps : p = s
        · rw [zero n (s + 1) p r (by omega), if_pos hps, hps, Nat.sub_self]
          show 1 * y + 0 = y
          omega
        · rw [ih (s + 1) p r (by simpa using hr) (by omega) (by omega), if_neg hps, show p - s = (p - (s + 1)) + 1 by omega]
          show 0 * y + _ = at0 (y :: r) ((p - (s + 1)) + 1)
          rw [Int.zero_mul, Int.zero_add]; rfl
  intro w p r hp hr
  have := key w 0 p r hr (Nat.zero_le _) (by omega)
  rw [← List.range_eq_range', Nat.sub_zero] at this
  exact this
theorem ld_all {w : Nat} (p : Nat) : Ld w (Ker w []) p ↔ p < w := ⟨fun h => h.1, fun h => ⟨h, unit w p, ⟨unit_len w p, fun r hr => by cases hr⟩, (unit_flat h).1, by rw [(unit_flat h).2.1]; decide⟩⟩
theorem cnt_all (w : Nat) : cntL w (Ker w []) = w := by
  unfold cntL
  have : (List.range w).filter (fun p => @decide (Ld w (Ker w []) p) (Classical.propDecidable _)) = List.range w := List.filter_eq_self.mpr fun p hp => by
    have := (ld_all (w := w) p).mpr (List.mem_range.mp hp)
    simpa using this
  rw [this, List.length_range]
def Bb : Nat → Nat
  | 0 => 0
  | n + 1 => 2 * Bb n + 10
theorem ker_small {w : Nat} (hw : w ≤ 16) : ∀ {rows : List (List Int)}, (∀ r ∈ rows, Small (2 ^ 5) r) → SmallLd w (Bb rows.length) (Ker w rows)
  | [], _ => fun p hp => ⟨unit w p, ⟨unit_len w p, fun r hr => by cases hr⟩, (unit_flat hp.1).1, by rw [(unit_flat hp.1).2.1]; decide, (unit_flat hp.1).2.2⟩
  | b :: t, h => by
    have ih := ker_small hw (rows := t) fun r hr => h r (List.mem_cons_of_mem _ hr)
    have e : Ker w (b :: t) = fun v => Ker w t v ∧ dot v b = 0 := funext fun v => propext (ker_cons w b t v)
    rw [e]
    by_cases hc : ∃ v, Ker w t v ∧ dot v b ≠ 0
    · obtain ⟨q, _, _, hs⟩ := step_less (ker_lat w t) hc
      exact hs _ ih hw (h b List.mem_cons_self)
    · intro p hp
      have all : ∀ v, Ker w t v → dot v b = 0 := fun v hv => by
        apply Classical.byContradiction
        intro k
        exact hc ⟨v, hv, k⟩
      obtain ⟨hpw, v, ⟨hv, _⟩, fv, vp⟩ := hp
      obtain ⟨v', hv', fv', vp', sv'⟩ := ih p ⟨hpw, v, hv, fv, vp⟩
      exact ⟨v', ⟨hv', all v' hv'⟩, fv', vp', sv'.mono (Nat.pow_le_pow_right (by decide) (by show Bb t.length ≤ 2 * Bb t.length + 10; omega))⟩
/-- each row in reduced form takes one beginning -/
theorem cnt_hnf {w : Nat} : ∀ {R : List (List Int)}, Hnf w R → cntL w (Ker w R) + R.length = w
  | [], _ => by rw [cnt_all]; rfl
  | b :: t, h => by
    obtain ⟨h1, ⟨p, h2, h3, h4⟩, h5⟩ := h
    obtain ⟨s1, s2, s3, s4⟩ := lead_spec b 0 p h2
    have ih := cnt_hnf h5
    have e : Ker w (b :: t) = fun v => Ker w t v ∧ dot v b = 0 := funext fun v => propext (ker_cons w b t v)
    rw [e]
    have := cnt_step (b := b) (ker_lat w t) ⟨unit w p, ⟨unit_len w p, fun r hr => by
      rw [dot_unit (by omega) (h5.wide r hr)]; exact (h4 r hr).1 p (Nat.le_refl p)⟩, by
      rw [dot_unit (by omega) h1]; omega⟩
    rw [List.length_cons]
    omega
theorem ker_eqv {w : Nat} {A B : List (List Int)} (hA : Wide w A) (hB : Wide w B) (h : Eqv w A B) (v : List Int) : Ker w A v ↔ Ker w B v := by
  have one : ∀ {A B : List (List Int)}, Wide w A → Sub w B A → Ker w A v → Ker w B v := fun {A B} hA hs hk => ⟨hk.1, fun r hr => by
    have hsp := hs r hr
    clear hr
    induction hsp with
    | zero => exact dot_zeros v w
    | add t hu hb ih =>
      rw [dot_plus (by rw [hu.len hA, hA _ hb]), ih, hk.2 _ hb]; omega⟩
  exact ⟨one hA h.2, one hB h.1⟩
/-- the beginnings are those of the reduced form -/
theorem cnt_form {w : Nat} {K : List (List Int)} {P : List Int → Prop} (hK : Hnf w K) (hP : ∀ v, P v ↔ Sp w K v) : cntL w P = K.length := by
  have hl := hnf_leadN hK
  have asc := hnf_asc hK
  have e : ((List.range w).filter fun p => @decide (Ld w P p) (Classical.propDecidable _)).map (fun p => ((p : Nat) : Int)) = K.map fun b => ((leadN b : Nat) : Int) := by
    refine asc_ext ?_ asc fun k => ?_
    · rw [List.pairwise_map]
      refine List.Pairwise.imp (fun h => Int.ofNat_lt.mpr h) (List.Pairwise.filter _ List.pairwise_lt_range)
    · rw [List.mem_map, List.mem_map]
      constructor
      · rintro ⟨p, hp, e⟩
        obtain ⟨_, hp⟩ := List.mem_filter.mp hp
        have hp : Ld w P p := by simpa using hp
        obtain ⟨hpw, v, hv, fv, vp⟩ := hp
        obtain ⟨b, hb, lb, _⟩ := hnf_lead hK ((hP v).mp hv) fv.2 vp
        refine ⟨b, hb, ?_⟩
        have := (hl b hb).1
        rw [lb] at this
        rw [← e, ← Option.some.inj this]
      · rintro ⟨b, hb, e⟩
        obtain ⟨l1, l2, l3⟩ := hl b hb
        obtain ⟨s1, s2, s3, s4⟩ := lead_spec b 0 (leadN b) l1
        refine ⟨leadN b, List.mem_filter.mpr ⟨List.mem_range.mpr l2, ?_⟩, e⟩
        have : Ld w P (leadN b) := ⟨l2, b, (hP b).mpr (Sp.self hK.wide hb), ⟨hK.wide b hb, fun i hi => s4 i (by omega)⟩, by omega⟩
        simpa using this
  have := congrArg List.length e
  rw [List.length_map, List.length_map] at this
  exact this
/-- rows that are bounded where others begin are bounded -/
theorem bounded {w B : Nat} {P : List Int → Prop} (L : Lat w P) (hs : SmallLd w B P) : ∀ (n q X : Nat) (u : List Int), q + n = w → P u → Flat q w u → (∀ p, Ld w P p → (at0 u p).natAbs ≤ 2 ^ X) → B ≤ X → Small (2 ^ (X + n * (B + 2))) u
  | 0, q, X, u, h, hu, fu, hb, hX => by
    have hq : q = w := by omega
    rw [hq] at fu
    rw [flat_end fu]
    intro x hx
    have : x = 0 := by
      unfold zeros at hx
      exact List.eq_of_mem_replicate hx
    rw [this]; exact Nat.zero_le _
  | n + 1, q, X, u, h, hu, fu, hb, hX => by
    by_cases hz : at0 u q = 0
    · refine (bounded L hs n (q + 1) X u (by omega) hu ⟨fu.1, fun i hi => ?_⟩ hb hX).mono (Nat.pow_le_pow_right (by decide) (by rw [Nat.add_mul]; omega))
      by_cases hiq : i = q
      · rw [hiq]; exact hz
      · exact fu.2 i (by omega)
    · have hl : Ld w P q := ⟨by omega, u, hu, fu, hz⟩
      obtain ⟨s, ps, fs, sq, ss⟩ := hs q hl
      have uq := hb q hl
      have ih := bounded L hs n (q + 1) (X + B + 1) (mixR (at0 s q) (-(at0 u q)) u s) (by omega) (L.mix _ _ _ _ hu ps) (mix_next fu fs) (fun p hp => ?_) (by omega)
      · intro x hx
        obtain ⟨i, _, ei⟩ := mem_at hx
        have k1 := at_small ih i
        rw [mixR_at fu.1 fs.1] at k1
        have k2 := at_small ss i
        have k3 : (at0 s q * at0 u i).natAbs = (at0 s q).natAbs * (at0 u i).natAbs := Int.natAbs_mul _ _
        have k4 : (-(at0 u q) * at0 s i).natAbs = (at0 u q).natAbs * (at0 s i).natAbs := by rw [Int.natAbs_mul, Int.natAbs_neg]
        have k5 := Nat.mul_le_mul uq k2
        rw [← Nat.pow_add] at k5
        have k6 : 1 * (at0 u i).natAbs ≤ (at0 s q).natAbs * (at0 u i).natAbs := Nat.mul_le_mul_right _ (by omega)
        have k7 : 2 ^ (X + B) ≤ 2 ^ (X + B + 1 + n * (B + 2)) := Nat.pow_le_pow_right (by decide) (by omega)
        rw [← ei, show X + (n + 1) * (B + 2) = X + B + 1 + n * (B + 2) + 1 by rw [Nat.add_mul]; omega, Nat.pow_succ]
        omega
      · rw [mixR_at fu.1 fs.1]
        have k1 := hb p hp
        have k2 := at_small ss p
        have k3 : (at0 s q * at0 u p).natAbs = (at0 s q).natAbs * (at0 u p).natAbs := Int.natAbs_mul _ _
        have k4 : (-(at0 u q) * at0 s p).natAbs = (at0 u q).natAbs * (at0 s p).natAbs := by rw [Int.natAbs_mul, Int.natAbs_neg]
        have k5 := Nat.mul_le_mul uq k2
        have k6 := Nat.mul_le_mul (at_small ss q) k1
        rw [← Nat.pow_add] at k5 k6
        rw [Nat.add_comm B X] at k6
        rw [Nat.pow_succ]
        omega
/-- the numbers of the reduced form of all rows with products 0 -/
theorem form_small {w : Nat} {rows K : List (List Int)} (hw : w ≤ 9) (h4 : rows.length ≤ 4) (hr : ∀ r ∈ rows, Small (2 ^ 5) r) (hK : Hnf w K) (hP : ∀ v, Ker w rows v ↔ Sp w K v) : ∀ c ∈ K, Small (2 ^ 1518) c := by
  intro c hc
  have hb : Bb rows.length ≤ 150 := by
    generalize rows.length = n at h4
    match n, h4 with
    | 0, _ => decide
    | 1, _ => decide
    | 2, _ => decide
    | 3, _ => decide
    | 4, _ => decide
  have hs : SmallLd w 150 (Ker w rows) := fun p hp => by
    obtain ⟨v, h1, h2, h3, h5⟩ := ker_small (show w ≤ 16 by omega) hr p hp
    exact ⟨v, h1, h2, h3, h5.mono (Nat.pow_le_pow_right (by decide) hb)⟩
  have hck := (hP c).mpr (Sp.self hK.wide hc)
  have := bounded (ker_lat w rows) hs w 0 150 c (by omega) hck ⟨hck.1, fun i hi => absurd hi (Nat.not_lt_zero _)⟩ (fun p hp => ?_) (Nat.le_refl _)
  · exact this.mono (Nat.pow_le_pow_right (by decide) (by omega))
  · obtain ⟨v, hv, fv, vp, sv⟩ := hs p hp
    obtain ⟨b, hb, lb, m, em⟩ := hnf_lead hK ((hP v).mp hv) fv.2 vp
    refine Nat.le_trans (hnf_col hK hb hc lb) ?_
    have hm : m ≠ 0 := fun k => vp (by rw [em, k]; omega)
    have t : (at0 b p).natAbs ≤ (m * at0 b p).natAbs := by
      rw [Int.natAbs_mul]; exact Nat.le_mul_of_pos_left _ (by omega)
    rw [← em] at t
    exact Nat.le_trans t (at_small sv p)
end K27

set_option exponentiation.threshold 300
/-! Y2: the sides; what of their reduced form begins behind the first columns is the reduced form of the kernel. -/
namespace K27
open K26 K25
/-- column i of the rows, with a one at i behind -/
def sideR (rows : List (List Int)) (w i : Nat) : List Int := rows.map (fun r => at0 r i) ++ unit w i
def sides (rows : List (List Int)) (w : Nat) : List (List Int) := (List.range w).map (sideR rows w)
/-- the products, and the row itself -/
def img (rows : List (List Int)) (c : List Int) : List Int := rows.map (fun r => dot c r) ++ c
theorem img_len {rows : List (List Int)} {c : List Int} : (img rows c).length = rows.length + c.length := by simp [img]
theorem side_img {rows : List (List Int)} {w i : Nat} (hi : i < w) (hr : Wide w rows) : sideR rows w i = img rows (unit w i) := by
  unfold sideR img
  congr 1
  exact List.map_congr_left fun r h => (dot_unit hi (hr r h)).symm
theorem at_left {a b : List Int} {i : Nat} (h : i < a.length) : at0 (a ++ b) i = at0 a i := by
  unfold at0
  rw [List.getD_eq_getElem?_getD, List.getD_eq_getElem?_getD, List.getElem?_append_left h]
theorem at_right {a b : List Int} {i : Nat} : at0 (a ++ b) (a.length + i) = at0 b i := by
  unfold at0
  rw [List.getD_eq_getElem?_getD, List.getD_eq_getElem?_getD, List.getElem?_append_right (by omega), Nat.add_sub_cancel_left]
theorem img_plus {rows : List (List Int)} {c b : List Int} {t : Int} (h : c.length = b.length) : plus (img rows c) (img rows b) t = img rows (plus c b t) := by
  have hl : (img rows c).length = (img rows b).length := by rw [img_len, img_len, h]
  have e : plus c b t = mixR 1 t c b := by
    unfold plus mixR
    congr 1
    funext x y
    rw [Int.one_mul]
  refine row_ext' (w := rows.length + c.length) (by rw [plus_len hl, img_len]) (by rw [img_len, plus_len h]) fun j hj => ?_
  rw [plus_at hl]
  by_cases hjm : j < rows.length
  · unfold img
    rw [at_left (by simpa using hjm), at_left (by simpa using hjm), at_left (by simpa using hjm)]
    unfold at0
    rw [List.getD_eq_getElem?_getD, List.getD_eq_getElem?_getD, List.getD_eq_getElem?_getD, List.getElem?_map, List.getElem?_map, List.getElem?_map, List.getElem?_eq_getElem hjm]
    show dot c rows[j] + t * dot b rows[j] = dot (plus c b t) rows[j]
    rw [e, dot_mix _ _ h]; omega
  · have ej : j = rows.length + (j - rows.length) := by omega
    unfold img
    have l1 : (rows.map fun r => dot c r).length = rows.length := List.length_map _
    have l2 : (rows.map fun r => dot b r).length = rows.length := List.length_map _
    have l3 : (rows.map fun r => dot (plus c b t) r).length = rows.length := List.length_map _
    have r1 := at_right (a := rows.map fun r => dot c r) (b := c) (i := j - rows.length)
    have r2 := at_right (a := rows.map fun r => dot b r) (b := b) (i := j - rows.length)
    have r3 := at_right (a := rows.map fun r => dot (plus c b t) r) (b := plus c b t) (i := j - rows.length)
    rw [l1, ← ej] at r1
    rw [l2, ← ej] at r2
    rw [l3, ← ej] at r3
    rw [r1, r2, r3, plus_at h]
theorem img_zeros {rows : List (List Int)} {w : Nat} : img rows (zeros w) = zeros (rows.length + w) := by
  unfold img
  have e : (rows.map fun r => dot (zeros w) r) = List.replicate rows.length 0 := by
    rw [List.eq_replicate_iff]
    refine ⟨List.length_map _, fun x hx => ?_⟩
    obtain ⟨r, _, e⟩ := List.mem_map.mp hx
    rw [← e, dot_zeros']
  rw [e]
  unfold zeros
  rw [List.replicate_append_replicate]
theorem sides_wide {rows : List (List Int)} {w : Nat} : Wide (rows.length + w) (sides rows w) := fun r hr => by
  obtain ⟨i, _, e⟩ := List.mem_map.mp hr
  rw [← e]
  unfold sideR
  rw [List.length_append, List.length_map, unit_len]
theorem sides_len {rows : List (List Int)} {w : Nat} : (sides rows w).length = w := by simp [sides]
/-- each row of the span is the image of one -/
theorem sides_img {rows : List (List Int)} {w : Nat} (hr : Wide w rows) {v : List Int} (h : Sp (rows.length + w) (sides rows w) v) : ∃ c, c.length = w ∧ v = img rows c := by
  induction h with
  | zero => exact ⟨zeros w, zeros_len w, img_zeros.symm⟩
  | add t hv hb ih =>
    obtain ⟨c, hc, e⟩ := ih
    obtain ⟨i, hi, eb⟩ := List.mem_map.mp hb
    rw [side_img (List.mem_range.mp hi) hr] at eb
    refine ⟨plus c (unit w i) t, by rw [plus_len (by rw [hc, unit_len])]; exact hc, ?_⟩
    rw [← img_plus (by rw [hc, unit_len]), ← e, eb]
/-- each image is in the span -/
theorem img_sides {rows : List (List Int)} {w : Nat} (hr : Wide w rows) {c : List Int} (hc : c.length = w) : Sp (rows.length + w) (sides rows w) (img rows c) := by
  have key : ∀ n, n ≤ w → Sp (rows.length + w) (sides rows w) (img rows ((List.range w).map fun j => if j < n then at0 c j else 0)) := by
    intro n
    induction n with
    | zero =>
      intro _
      have e : ((List.range w).map fun j => if j < 0 then at0 c j else 0) = zeros w := by
        unfold zeros
        rw [List.eq_replicate_iff]
        refine ⟨by simp, fun x hx => ?_⟩
        obtain ⟨j, _, e⟩ := List.mem_map.mp hx
        rw [← e, if_neg (by omega)]
      rw [e, img_zeros]; exact .zero
    | succ n ih =>
      intro hn
      have hl : ∀ n : Nat, ((List.range w).map fun j => if j < n then at0 c j else 0).length = w := fun n => by simp
      have hat : ∀ (n j : Nat), j < w → at0 ((List.range w).map fun j => if j < n then at0 c j else 0) j = if j < n then at0 c j else 0 := fun n j hj => by
        show List.getD _ _ _ = _
        rw [List.getD_eq_getElem?_getD, List.getElem?_map, List.getElem?_eq_getElem (by simpa using hj)]
        simp
      have e : ((List.range w).map fun j => if j < n + 1 then at0 c j else 0) = plus ((List.range w).map fun j => if j < n then at0 c j else 0) (unit w n) (at0 c n) := by
        refine row_ext' (w := w) (hl _) (by rw [plus_len (by rw [hl, unit_len])]; exact hl _) fun j hj => ?_
        rw [plus_at (by rw [hl, unit_len]), hat _ j hj, hat _ j hj, unit_at j hj]
        by_cases h1 : j < n
        · rw [if_pos (by omega), if_pos h1, if_neg (by omega)]; omega
        · by_cases h2 : n = j
          · rw [if_pos (by omega), if_neg h1, if_pos h2, h2]; omega
          · rw [if_neg (by omega), if_neg h1, if_neg h2]; omega
      rw [e, ← img_plus (by rw [hl, unit_len]), ← side_img (by omega) hr]
      exact .add _ (ih (by omega)) (List.mem_map_of_mem (List.mem_range.mpr (by omega)))
  have := key w (Nat.le_refl w)
  have e : ((List.range w).map fun j => if j < w then at0 c j else 0) = c := row_ext' (w := w) (by simp) hc fun j hj => by
    show List.getD _ _ _ = _
    rw [List.getD_eq_getElem?_getD, List.getElem?_map, List.getElem?_eq_getElem (by simpa using hj)]
    simp [hj]
  rw [e] at this
  exact this
/-- what begins behind m columns -/
def behind (m : Nat) (b : List Int) : Bool := decide (m ≤ leadN b)
def kerR (m : Nat) (H : List (List Int)) : List (List Int) := (H.filter (behind m)).map (List.drop m)
theorem at_drop (b : List Int) (m i : Nat) : at0 (b.drop m) i = at0 b (m + i) := by
  unfold at0
  rw [List.getD_eq_getElem?_getD, List.getD_eq_getElem?_getD, List.getElem?_drop]
theorem drop_lead {w m : Nat} {b : List Int} {p : Nat} (hb : b.length = m + w) (hp : leadFrom 0 b = some p) (hm : m ≤ p) : leadFrom 0 (b.drop m) = some (p - m) := by
  obtain ⟨s1, s2, s3, s4⟩ := lead_spec b 0 p hp
  refine lead_some (by rw [List.length_drop]; omega) ?_ fun j hj => ?_
  · rw [at_drop, show m + (p - m) = p by omega]
    exact s3
  · rw [at_drop]; exact s4 _ (by omega)
theorem kerR_hnf {m w : Nat} : ∀ {H : List (List Int)}, Hnf (m + w) H → Hnf w (kerR m H)
  | [], _ => trivial
  | b :: t, h => by
    have hl := hnf_leadN h b List.mem_cons_self
    obtain ⟨h1, ⟨p, h2, h3, h4⟩, h5⟩ := h
    have ih := kerR_hnf h5
    have ep : leadN b = p := by unfold leadN; rw [h2]; rfl
    unfold kerR at ih ⊢
    by_cases hp : m ≤ p
    · rw [List.filter_cons_of_pos (by unfold behind; rw [ep]; exact decide_eq_true hp), List.map_cons]
      refine ⟨by rw [List.length_drop]; omega, ⟨p - m, drop_lead h1 h2 hp, by rw [at_drop, show m + (p - m) = p by omega]; exact h3, fun b' hb' => ?_⟩, ih⟩
      obtain ⟨c, hc, e⟩ := List.mem_map.mp hb'
      obtain ⟨hc1, hc2⟩ := List.mem_filter.mp hc
      have hc2 : m ≤ leadN c := of_decide_eq_true hc2
      obtain ⟨k1, k2, k3⟩ := hnf_leadN h5 c hc1
      obtain ⟨z1, z2⟩ := h4 c hc1
      subst e
      refine ⟨fun i hi => by rw [at_drop]; exact z1 _ (by omega), fun q hq => ?_⟩
      rw [drop_lead (h5.wide c hc1) k1 hc2] at hq
      have hq := Option.some.inj hq
      rw [at_drop, at_drop, show m + q = leadN c by omega]
      exact z2 _ k1
    · rw [List.filter_cons_of_neg (by unfold behind; rw [ep, decide_eq_false hp]; exact Bool.false_ne_true)]
      exact ih
/-- a row of the span that begins behind is of the span of those -/
theorem behind_sp {m w : Nat} : ∀ {H : List (List Int)}, Hnf w H → ∀ {v : List Int}, Sp w H v → (∀ i, i < m → at0 v i = 0) → Sp w (H.filter (behind m)) v
  | [], _, v, h, _ => h
  | b :: t, hH, v, h, hz => by
    have hH' := hH
    obtain ⟨h1, ⟨p, h2, h3, h4⟩, h5⟩ := hH
    have ep : leadN b = p := by unfold leadN; rw [h2]; rfl
    by_cases hp : m ≤ p
    · have all : (b :: t).filter (behind m) = b :: t := List.filter_eq_self.mpr fun c hc => by
        unfold behind
        apply decide_eq_true
        rcases List.mem_cons.mp hc with z | z
        · rw [z, ep]; exact hp
        · obtain ⟨k1, k2, k3⟩ := hnf_leadN h5 c z
          apply Nat.le_of_not_lt
          intro k
          rw [(h4 c z).1 _ (by omega)] at k3
          omega
      rw [all]; exact h
    · rw [List.filter_cons_of_neg (by unfold behind; rw [ep, decide_eq_false hp]; exact Bool.false_ne_true)]
      obtain ⟨mm, u, hu, e⟩ := Sp.split hH'.wide h
      have ul := hu.len h5.wide
      have u0 : at0 u p = 0 := Sp.zero_at h5.wide (fun c hc => (h4 c hc).1 p (Nat.le_refl p)) hu
      have vp : at0 v p = 0 := hz p (by omega)
      rw [e, plus_at (by omega), u0, Int.zero_add] at vp
      have hm : mm = 0 := by
        rcases Int.mul_eq_zero.mp vp with z | z
        · exact z
        · omega
      have ev : v = u := by
        rw [e, hm]
        refine row_ext' (w := w) (by rw [plus_len (by omega)]; exact ul) ul fun j hj => ?_
        rw [plus_at (by omega)]; omega
      rw [ev] at hz ⊢
      exact behind_sp h5 hu hz
theorem drop_plus {m : Nat} {u b : List Int} {t : Int} (h : u.length = b.length) : (plus u b t).drop m = plus (u.drop m) (b.drop m) t := by
  refine row_ext (by rw [List.length_drop, plus_len h, plus_len (by rw [List.length_drop, List.length_drop, h]), List.length_drop]) fun j => ?_
  rw [at_drop, plus_at h, plus_at (by rw [List.length_drop, List.length_drop, h]), at_drop, at_drop]
theorem drop_sp {m w : Nat} {B : List (List Int)} (hB : Wide (m + w) B) {v : List Int} (h : Sp (m + w) B v) : Sp w (B.map (List.drop m)) (v.drop m) := by
  induction h with
  | zero =>
    have e : (zeros (m + w)).drop m = zeros w := by unfold zeros; rw [List.drop_replicate]; congr 1; omega
    rw [e]; exact .zero
  | add t hv hb ih =>
    rw [drop_plus (by rw [hv.len hB, hB _ hb])]
    exact .add t ih (List.mem_map_of_mem hb)
/-- the kernel -/
theorem kerR_sp {rows : List (List Int)} {w : Nat} {H : List (List Int)} (hr : Wide w rows) (hH : Hnf (rows.length + w) H) (hE : Eqv (rows.length + w) H (sides rows w)) (v : List Int) : Ker w rows v ↔ Sp w (kerR rows.length H) v := by
  have hF : Wide (rows.length + w) (H.filter (behind rows.length)) := fun b hb => hH.wide b (List.mem_filter.mp hb).1
  constructor
  · intro hk
    have h1 := (img_sides hr hk.1).trans hH.wide hE.2
    have h2 := behind_sp (m := rows.length) hH h1 fun i hi => by
      unfold img
      rw [at_left (by simpa using hi)]
      unfold at0
      rw [List.getD_eq_getElem?_getD, List.getElem?_map, List.getElem?_eq_getElem hi]
      exact hk.2 _ (List.getElem_mem hi)
    have h3 := drop_sp hF h2
    have e : (img rows v).drop rows.length = v := by
      unfold img
      rw [List.drop_append_of_le_length (by simp), List.drop_of_length_le (by simp)]; rfl
    rw [e] at h3
    exact h3
  · intro hs
    have L := ker_lat w rows
    have hone : ∀ k ∈ kerR rows.length H, Ker w rows k := fun k hk => by
      obtain ⟨h, hh, e⟩ := List.mem_map.mp hk
      obtain ⟨h1, h2⟩ := List.mem_filter.mp hh
      have h2 : rows.length ≤ leadN h := of_decide_eq_true h2
      obtain ⟨k1, k2, k3⟩ := hnf_leadN hH h h1
      obtain ⟨s1, s2, s3, s4⟩ := lead_spec h 0 _ k1
      obtain ⟨c, hc, ec⟩ := sides_img hr (hE.1 h h1)
      have ek : k = c := by
        rw [← e, ec]
        unfold img
        rw [List.drop_append_of_le_length (by simp), List.drop_of_length_le (by simp)]; rfl
      rw [ek]
      refine ⟨hc, fun r hr' => ?_⟩
      obtain ⟨i, hi, ei⟩ := List.mem_iff_getElem.mp hr'
      have z : at0 h i = 0 := s4 i (by omega)
      rw [ec] at z
      unfold img at z
      rw [at_left (by simpa using hi)] at z
      unfold at0 at z
      rw [List.getD_eq_getElem?_getD, List.getElem?_map, List.getElem?_eq_getElem hi] at z
      rw [← ei]; exact z
    induction hs with
    | zero => exact ⟨zeros_len w, fun r _ => dot_zeros' r w⟩
    | add t hu hb ih =>
      have hk := hone _ hb
      have e : ∀ {u b : List Int}, plus u b t = mixR 1 t u b := fun {u b} => by
        unfold plus mixR
        congr 1
        funext x y
        rw [Int.one_mul]
      rw [e]
      exact L.mix _ _ _ _ ih hk
/-- as many as columns, less the rank -/
theorem kerR_len {rows : List (List Int)} {w : Nat} {H R : List (List Int)} (hr : Wide w rows) (hH : Hnf (rows.length + w) H) (hE : Eqv (rows.length + w) H (sides rows w)) (hR : Hnf w R) (hE2 : Eqv w R rows) : (kerR rows.length H).length + R.length = w := by
  have h1 := cnt_form (kerR_hnf (m := rows.length) (w := w) hH) (kerR_sp hr hH hE)
  have h2 := cnt_hnf hR
  rw [cnt_same (fun v => ker_eqv hR.wide hr hE2 v), h1] at h2
  exact h2
/-- in the span just if nothing is left -/
theorem left_none {w : Nat} {K : List (List Int)} {v : List Int} (hK : Hnf w K) (hv : v.length = w) : leadFrom 0 (leftOf K v) = none ↔ Sp w K v := by
  constructor
  · intro h
    have e := lead_zeros (leftOf_len hK.ech hv) h
    have b := left_back hK.ech hv
    rw [e] at b
    rw [← b]
    exact addM_sp (fun b hb => hb) .zero
  · intro h
    have e := left_sp hK.ech (zeros_len w) h
    have e1 : plus (zeros w) v 1 = v := by
      refine row_ext' (w := w) (by rw [plus_len (by rw [zeros_len, hv])]; exact zeros_len w) hv fun j hj => ?_
      rw [plus_at (by rw [zeros_len, hv]), zeros_at]; omega
    rw [e1, (left_zero hK.ech).1] at e
    rw [e]; exact zeros_lead w
end K27

set_option exponentiation.threshold 300
/-! Y3: kernel, the law's own kernel -/
namespace K27
open PySem PySem.Spec L2 StX PyProof.Rows DL K26 K25
def c_hermite : Ct := K25.c_hermite
def c_lead : Ct := K26.c_lead
def c__law_hermite : Ct := K25.c__law_hermite
/-- what the kernel is -/
structure IsK (w : Nat) (rows K : List (List Int)) : Prop where
  hnf : Hnf w K
  sp : ∀ v, Ker w rows v ↔ Sp w K v
  len : ∀ R, Hnf w R → Eqv w R rows → K.length + R.length = w
theorem IsK.uniq {w : Nat} {rows K K' : List (List Int)} (h : IsK w rows K) (h' : IsK w rows K') : K = K' :=
  hnf_unique h.hnf h'.hnf ⟨fun a ha => (h'.sp a).mp ((h.sp a).mpr (Sp.self h.hnf.wide ha)), fun a ha => (h.sp a).mp ((h'.sp a).mpr (Sp.self h'.hnf.wide ha))⟩
theorem isK_of {rows : List (List Int)} {w : Nat} {H : List (List Int)} (hr : Wide w rows) (hH : Hnf (rows.length + w) H) (hE : Eqv (rows.length + w) H (sides rows w)) : IsK w rows (kerR rows.length H) :=
  ⟨kerR_hnf hH, kerR_sp hr hH hE, fun R hR hE2 => kerR_len hr hH hE hR hE2⟩
theorem fits5 {a : Nat} (h : a ≤ 9) : Fits 5 a := by
  match a, h with
  | 0, _ => exact ⟨by decide, by decide⟩
  | 1, _ => exact ⟨by decide, by decide⟩
  | 2, _ => exact ⟨by decide, by decide⟩
  | 3, _ => exact ⟨by decide, by decide⟩
  | 4, _ => exact ⟨by decide, by decide⟩
  | 5, _ => exact ⟨by decide, by decide⟩
  | 6, _ => exact ⟨by decide, by decide⟩
  | 7, _ => exact ⟨by decide, by decide⟩
  | 8, _ => exact ⟨by decide, by decide⟩
  | 9, _ => exact ⟨by decide, by decide⟩
theorem side_small {rows : List (List Int)} {w : Nat} (h : ∀ r ∈ rows, Small (2 ^ 5) r) : ∀ r ∈ sides rows w, Small (2 ^ 5) r := fun r hr => by
  obtain ⟨i, _, e⟩ := List.mem_map.mp hr
  intro x hx
  rw [← e] at hx
  unfold sideR at hx
  rcases List.mem_append.mp hx with z | z
  · obtain ⟨r', hr', e'⟩ := List.mem_map.mp z
    rw [← e']; exact at_small (h r' hr') i
  · obtain ⟨j, _, e'⟩ := List.mem_map.mp z
    rw [← e']
    split <;> decide
theorem int_eq {i j : Nat} : (if (decide ((i : Int) = (j : Int)) != false) = true then (1 : Int) else 0) = if i = j then 1 else 0 := by
  by_cases h : i = j
  · subst h; simp
  · have : ¬ ((i : Int) = (j : Int)) := fun k => h (by omega)
    simp [h, this]
theorem side_vl {rows : List (List Int)} {w i : Nat} : (rows.map (fun r => Vl.int (at0 r i))) ++ ((List.range w).map fun j => Vl.int (if i = j then 1 else 0)) = (sideR rows w i).map .int := by
  unfold sideR unit
  rw [List.map_append, List.map_map, List.map_map]; rfl
theorem sides_vl {rows : List (List Int)} {w : Nat} : (List.range w).map (fun i => rowV (sideR rows w i)) = (sides rows w).map rowV := by
  unfold sides
  rw [List.map_map]; rfl
theorem kerR_vl {m : Nat} {H : List (List Int)} : (H.filter (behind m)).map (fun h => rowV (h.drop m)) = (kerR m H).map rowV := by
  unfold kerR
  rw [List.map_map]; rfl
def c_kernel : Ct := fun xs μ Q => ∃ (x : Vl) (rows : List (List Int)) (w : Nat), xs = [x, .int (w : Int)] ∧ sview μ x = some (rows.map rowV) ∧ asLong (rows.map rowV) x μ ∧ w ≤ 9 ∧ rows.length ≤ 4 ∧ (∀ r ∈ rows, r.length = w ∧ Small (2 ^ 5) r) ∧
  ∀ K, IsK w rows K → Q (.tup (K.map rowV)) μ
def b_kernel : DS :=
    (dSeq (dAsg (dCB fLen (dCons (dVar 0) dNil)) (dgName 2))
    (dSeq (dAsg (dLc (dRange1 (dCons (dVar 1) dNil)) (dgName 4) dYes (dTup (dStar (dLc (dIter (dVar 0)) (dgName 5) dYes (dOp dIx (dVar 5) (dVar 4)) [5]) (dStar (dLc (dRange1 (dCons (dVar 1) dNil)) (dgName 6) dYes (dCB fInt (dCons (dOp dEq (dVar 4) (dVar 6)) dNil)) [6]) dNil))) [4]) (dgName 3))
    (dRet (dCB fTuple (dCons (dLc (dIter (dCall c_hermite (dCons (dVar 3) (dCons (dOp dAdd (dVar 2) (dVar 1)) dNil)))) (dgName 5) (dTest (dOp dGe (dCall c_lead (dCons (dVar 5) dNil)) (dVar 2))) (dSlA (dVar 5) (dPart (dVar 2)) dNoPart) [5]) dNil)))))
theorem l_kernel : ∀ xs μ Q, c_kernel xs μ Q → xs.length = 2 := by
  intro xs μ Q ⟨_, _, _, e, _⟩
  subst e; rfl
theorem r_kernel : ∀ xs μ Q, c_kernel xs μ Q → b_kernel (pureEnds μ Q) (startD ["rows", "width", "many", "sides", "place", "row", "at"] xs) μ := by
  intro xs μ Q ⟨x, rows, w, e, hx, gx, hw, h4, hr, q⟩
  subst e
  have hsl := sizeLine_eq
  have hW : Wide w rows := fun r h => (hr r h).1
  refine ⟨x, rows.map rowV, rfl, hx, ?_⟩
  rw [List.length_map]
  refine ⟨(w : Int), rfl, by omega, by omega, ?_⟩
  rw [Int.toNat_natCast, rngD_map]
  refine DL.lc_map trivial _ (fun i => rowV (sideR rows w i)) _ _ (fun i hi P hP => ?_) (.inl ?_)
  · have hi : i < w := List.mem_range.mp hi
    refine ⟨rows.map rowV, hx, ?_⟩
    refine DL.lc_map gx _ (fun r => Vl.int (at0 r i)) _ _ (fun r h P hP => ⟨r.map .int, _, rfl, atI_at (by rw [hW r h]; exact hi), hP⟩) (.inl ?_)
    refine ⟨_, rfl, ?_⟩
    refine ⟨(w : Int), rfl, by omega, by omega, ?_⟩
    rw [Int.toNat_natCast, rngD_map]
    refine DL.lc_map trivial _ (fun j => Vl.int (if i = j then 1 else 0)) _ _ (fun j hj P hP => ?_) (.inl ?_)
    · have e := int_eq (i := i) (j := j)
      rw [← e] at hP
      exact hP
    refine ⟨_, rfl, ?_⟩
    have e1 : (([] : List Vl) ++ rows.map (fun r => Vl.int (at0 r i))) ++ ((([] : List Vl) ++ (List.range w).map fun j => Vl.int (if i = j then 1 else 0)) ++ []) = (sideR rows w i).map .int := by
      rw [List.nil_append, List.nil_append, List.append_nil, side_vl]
    have hl : ((sideR rows w i).map Vl.int).length ≤ sizeLine := by
      rw [List.length_map]
      unfold sideR
      rw [List.length_append, List.length_map, unit_len]; omega
    have hP : P (.tup ((sideR rows w i).map .int)) μ := hP
    rw [← e1] at hl hP
    exact ⟨hl, hP⟩
  rw [List.nil_append, sides_vl]
  refine .inl ⟨_, rows.length + w, 5, sides rows w, [], rfl, by rw [List.append_nil]; rfl, trivial, by omega, by rw [List.append_nil, sides_len]; omega, by rw [sides_len]; exact fits5 hw, fun r h => ?_, fun b hb => (by cases hb), fun H hH hE => ?_⟩
  · rw [List.append_nil] at h
    exact ⟨sides_wide r h, side_small (fun r h => (hr r h).2) r h⟩
  refine ⟨H.map rowV, rfl, ?_⟩
  refine DL.lc_filter trivial _ (behind rows.length) (fun h => rowV (h.drop rows.length)) _ _ (fun h hh P R h1 h2 => ?_) (.inl ?_)
  · obtain ⟨k1, k2, k3⟩ := hnf_leadN hH h hh
    refine ⟨rowV h, h, rfl, rfl, ?_⟩
    rw [k1]
    refine dec_split (p := (rows.length : Int) ≤ ((leadN h : Nat) : Int)) (fun hle => ?_) (fun hn => ?_)
    · show R (.tup (cutD (h.map .int) (some (rows.length : Int)) none)) μ
      rw [cut_drop, ← List.map_drop]
      exact h1 (decide_eq_true (by omega))
    · exact h2 (decide_eq_false (by omega))
  rw [List.nil_append, kerR_vl]
  exact ⟨_, (kerR rows.length H).map rowV, rfl, rfl, DL.pure_rt (rfb_rows _) (q _ (isK_of hW hH hE))⟩
/-! the law's own -/
def c__law_kernel : Ct := c_kernel
def b__law_kernel : DS :=
    (dSeq (dAsg (dCB fLen (dCons (dVar 0) dNil)) (dgName 2))
    (dSeq (dAsg (dLc (dRange1 (dCons (dVar 1) dNil)) (dgName 4) dYes (dCB fTuple (dCons (dOp dAdd (dLc (dIter (dVar 0)) (dgName 5) dYes (dOp dIx (dVar 5) (dVar 4)) [5]) (dLc (dRange1 (dCons (dVar 1) dNil)) (dgName 6) dYes (dCB fInt (dCons (dOp dEq (dVar 4) (dVar 6)) dNil)) [6])) dNil)) [4]) (dgName 3))
    (dRet (dCB fTuple (dCons (dLc (dIter (dCall c__law_hermite (dCons (dVar 3) (dCons (dOp dAdd (dVar 2) (dVar 1)) dNil)))) (dgName 5) (dTest (dOp dEq (dLc (dIter (dSlA (dVar 5) dNoPart (dPart (dVar 2)))) (dgName 7) (dTest (dOp dNe (dVar 7) (dC (.int 0)))) (dVar 7) [7]) (dLst dNil))) (dSlA (dVar 5) (dPart (dVar 2)) dNoPart) [5]) dNil)))))
theorem l__law_kernel : ∀ xs μ Q, c__law_kernel xs μ Q → xs.length = 2 := l_kernel
theorem take_zero {m : Nat} {h : List Int} {p : Nat} (hp : leadFrom 0 h = some p) : ((h.take m).filter fun x => decide (¬ x = 0)) = [] ↔ m ≤ p := by
  obtain ⟨s1, s2, s3, s4⟩ := lead_spec h 0 p hp
  rw [List.filter_eq_nil_iff]
  constructor
  · intro k
    apply Nat.le_of_not_lt
    intro hlt
    have hm : at0 h p ∈ h.take m := by
      unfold at0
      rw [List.getD_eq_getElem?_getD, List.getElem?_eq_getElem (by omega)]
      show h[p] ∈ h.take m
      rw [List.mem_take_iff_getElem]
      exact ⟨p, by omega, rfl⟩
    have := k _ hm
    simp at this
    exact s3 (by rw [Nat.sub_zero]; exact this)
  · intro hle x hx
    obtain ⟨j, hj, e⟩ := List.mem_take_iff_getElem.mp hx
    have := s4 j (by omega)
    unfold at0 at this
    rw [List.getD_eq_getElem?_getD, List.getElem?_eq_getElem (by omega)] at this
    have e2 : x = 0 := by rw [← e]; exact this
    simp [e2]
theorem r__law_kernel : ∀ xs μ Q, c__law_kernel xs μ Q → b__law_kernel (pureEnds μ Q) (startD ["rows", "width", "many", "sides", "at", "row", "spot", "one"] xs) μ := by
  intro xs μ Q ⟨x, rows, w, e, hx, gx, hw, h4, hr, q⟩
  subst e
  have hsl := sizeLine_eq
  have hW : Wide w rows := fun r h => (hr r h).1
  refine ⟨x, rows.map rowV, rfl, hx, ?_⟩
  rw [List.length_map]
  refine ⟨(w : Int), rfl, by omega, by omega, ?_⟩
  rw [Int.toNat_natCast, rngD_map]
  refine DL.lc_map trivial _ (fun i => rowV (sideR rows w i)) _ _ (fun i hi P hP => ?_) (.inl ?_)
  · have hi : i < w := List.mem_range.mp hi
    refine ⟨rows.map rowV, hx, ?_⟩
    refine DL.lc_map gx _ (fun r => Vl.int (at0 r i)) _ _ (fun r h P hP => ⟨r.map .int, _, rfl, atI_at (by rw [hW r h]; exact hi), hP⟩) (.inl ?_)
    refine ⟨(w : Int), rfl, by omega, by omega, ?_⟩
    rw [Int.toNat_natCast, rngD_map]
    refine DL.lc_map trivial _ (fun j => Vl.int (if i = j then 1 else 0)) _ _ (fun j hj P hP => ?_) (.inl ?_)
    · have e := int_eq (i := i) (j := j)
      rw [← e] at hP
      exact hP
    rw [List.nil_append, List.nil_append]
    refine ⟨_, _, rfl, rfl, by rw [List.length_map, List.length_map, List.length_range]; omega, .inl ?_⟩
    rw [side_vl]
    exact ⟨_, (sideR rows w i).map .int, rfl, rfl, hP⟩
  rw [List.nil_append, sides_vl]
  refine ⟨_, sides rows w, rows.length + w, rfl, rfl, trivial, by omega, by rw [sides_len]; exact hw, fun r h => ?_, fun H hH hE _ => ?_⟩
  · refine ⟨sides_wide r h, (side_small (fun r h => (hr r h).2) r h).mono (Nat.pow_le_pow_right (by decide) ?_)⟩
    rw [sides_len]
    match w, hw with
    | 0, _ => decide
    | 1, _ => decide
    | 2, _ => decide
    | 3, _ => decide
    | 4, _ => decide
    | 5, _ => decide
    | 6, _ => decide
    | 7, _ => decide
    | 8, _ => decide
    | 9, _ => decide
  refine ⟨H.map rowV, rfl, ?_⟩
  refine DL.lc_filter trivial _ (behind rows.length) (fun h => rowV (h.drop rows.length)) _ _ (fun h hh P R h1 h2 => ?_) (.inl ?_)
  · obtain ⟨k1, k2, k3⟩ := hnf_leadN hH h hh
    have kz := take_zero (m := rows.length) k1
    show ∃ xs, sview μ (.tup (cutD (h.map .int) none (some (rows.length : Int)))) = some xs ∧ _
    rw [cut_take, ← List.map_take]
    refine ⟨_, rfl, ?_⟩
    refine DL.lc_filter trivial _ (fun x => decide (¬ x = 0)) Vl.int _ _ (fun x hx P2 K2 g1 g2 => ?_) (.inl ?_)
    · exact dec_splitN (p := x = 0) (fun e => g1 (by simpa using e)) (fun e => g2 (by simpa using e))
    refine ⟨by show 0 ≤ _; omega, .inl ?_⟩
    refine eq_lstI (s := []) ?_
    refine dec_splitE (p := ((h.take rows.length).filter fun x => decide (¬ x = 0)) = []) (fun hle => ?_) (fun hn => ?_)
    · show R (.tup (cutD (h.map .int) (some (rows.length : Int)) none)) μ
      rw [cut_drop, ← List.map_drop]
      exact h1 (decide_eq_true (kz.mp hle))
    · exact h2 (decide_eq_false fun k => hn (kz.mpr k))
  rw [List.nil_append, kerR_vl]
  exact ⟨_, (kerR rows.length H).map rowV, rfl, rfl, DL.pure_rt (rfb_rows _) (q _ (isK_of hW hH hE))⟩
end K27

set_option exponentiation.threshold 300
/-! Y4: the law's box; facts for law -/
namespace K27
open PySem PySem.Spec L2 StX PyProof.Rows DL K26 K25
/-! the box -/
def c__law_box : Ct := fun xs μ Q => ∃ n : Nat, xs = [.int (n : Int), .int (-2), .int 2] ∧ n ≤ 3 ∧ ∀ vs : List (List Int), (∀ v ∈ vs, v.length = n ∧ ∀ y ∈ v, -2 ≤ y ∧ y ≤ 2) → Q (.lst (vs.map rowV)) μ
def b__law_box : DS :=
    (dSeq (dAsg (dLst (dCons (dTup dNil) dNil)) (dgName 3))
    (dSeq (dFor (dRange1 (dCons (dVar 0) dNil)) (dgName 4) (dSeq (dAsg (dLst dNil) (dgName 5))
    (dSeq (dFor (dIter (dVar 3)) (dgName 6) (dAsg (dOp dAddA (dVar 5) (dLc (dRange2 (dCons (dVar 1) (dCons (dOp dAddA (dVar 2) (dC (.int 1))) dNil))) (dgName 7) dYes (dOp dAddA (dVar 6) (dTup (dCons (dVar 7) dNil))) [7])) (dgName 5)))
    (dAsg (dVar 5) (dgName 3)))))
    (dRet (dVar 3))))
theorem l__law_box : ∀ xs μ Q, c__law_box xs μ Q → xs.length = 3 := by
  intro xs μ Q ⟨_, e, _⟩
  subst e; rfl
theorem rfb_lrows {n : Nat} (S : List (List Int)) : rfb n (.lst (S.map rowV)) = true := by
  rw [rfb]
  induction S with
  | nil => rw [List.map_nil, rfbs]
  | cons r S ih => rw [List.map_cons, rfbs, ih, rfb_row]; rfl
theorem app_one {v : List Int} : ∀ {n : Nat}, (List.range n).map (fun (i : Nat) => Vl.tup (v.map Vl.int ++ [Vl.int (-2 + (i : Int))])) = ((List.range n).map fun (i : Nat) => v ++ [-2 + (i : Int)]).map rowV := fun {n} => by
  rw [List.map_map]
  refine List.map_congr_left fun i _ => ?_
  show Vl.tup (v.map Vl.int ++ [Vl.int (-2 + (i : Int))]) = Vl.tup ((v ++ [-2 + (i : Int)]).map Vl.int)
  rw [List.map_append]; rfl
theorem r__law_box : ∀ xs μ Q, c__law_box xs μ Q → b__law_box (pureEnds μ Q) (startD ["width", "least", "most", "found", "turn", "longer", "row", "one"] xs) μ := by
  intro xs μ Q ⟨n, e, hn, q⟩
  subst e
  have hsl := sizeLine_eq
  refine ⟨by show 0 ≤ _; omega, by show 1 ≤ _; omega, .inl ?_⟩
  refine ⟨(n : Int), rfl, by omega, by omega, ?_⟩
  refine DL.forD_inv (fun rest ρ μ1 => μ1 = μ ∧ ∃ (found : List (List Int)) (o4 o5 o6 o7 : Option Vl), (∀ v ∈ found, v.length + rest.length = n ∧ ∀ y ∈ v, -2 ≤ y ∧ y ≤ 2) ∧ found.length ≤ 5 ^ (n - rest.length) ∧ rest.length ≤ n ∧ ρ = [some (.int (n : Int)), some (.int (-2)), some (.int 2), some (.lst (found.map rowV)), o4, o5, o6, o7]) (fun _ _ _ _ => trivial) (fun ρ μ1 h => ?_) (fun y rest ρ μ1 h D hD hrt _ => ?_) _ _ _ ?_
  · obtain ⟨e1, found, o4, o5, o6, o7, hv, _, _, e2⟩ := h
    subst e1; subst e2
    exact DL.pure_rt (rfb_lrows found) (q found fun v h => ⟨by have := (hv v h).1; simpa using this, (hv v h).2⟩)
  · obtain ⟨e1, found, o4, o5, o6, o7, hv, hl, hrl, e2⟩ := h
    subst e1; subst e2
    rw [List.length_cons] at hl hrl
    have hfl : found.length ≤ 125 := Nat.le_trans hl (Nat.le_trans (Nat.pow_le_pow_right (by decide) (show n - (rest.length + 1) ≤ 3 by omega)) (by decide))
    refine ⟨by show 0 ≤ _; omega, .inl ?_⟩
    refine ⟨found.map rowV, rfl, ?_⟩
    refine DL.forD_inv (fun rest2 ρ μ2 => μ2 = μ1 ∧ ∃ (suf longer : List (List Int)) (o6 o7 : Option Vl), rest2 = suf.map rowV ∧ (∀ v ∈ suf, v ∈ found) ∧ (∀ v ∈ longer, v.length + rest.length = n ∧ ∀ y ∈ v, -2 ≤ y ∧ y ≤ 2) ∧ longer.length + 5 * suf.length = 5 * found.length ∧ ρ = [some (.int (n : Int)), some (.int (-2)), some (.int 2), some (.lst (found.map rowV)), some y, some (.lst (longer.map rowV)), o6, o7]) (fun _ _ _ _ => trivial) (fun ρ μ2 h => ?_) (fun y2 rest2 ρ μ2 h D2 hD2 hrt2 _ => ?_) _ _ _ ?_
    · obtain ⟨e1, suf, longer, o6, o7, es, _, hlv, hll, e2⟩ := h
      subst e1; subst e2
      have hs : suf = [] := List.map_eq_nil_iff.mp es.symm
      subst hs
      refine hD _ _ ⟨rfl, longer, _, _, _, _, hlv, ?_, by omega, rfl⟩
      rw [List.length_nil, Nat.mul_zero, Nat.add_zero] at hll
      rw [hll, show n - rest.length = (n - (rest.length + 1)) + 1 by omega, Nat.pow_succ]
      omega
    · obtain ⟨e1, suf, longer, o6, o7, es, hsf, hlv, hll, e2⟩ := h
      subst e1; subst e2
      cases suf with
      | nil => cases es
      | cons v suf =>
      rw [List.map_cons] at es
      injection es with ev es
      subst ev
      rw [List.length_cons] at hll
      refine ⟨-2, 2 + 1, rfl, by omega, by decide, ?_⟩
      refine DL.lc_map (it := fun (i : Nat) => Vl.int (-2 + (i : Int))) trivial (fun (i : Nat) => Vl.tup (v.map Vl.int ++ [Vl.int (-2 + (i : Int))])) _ _ (fun i hi P hP => ?_) (.inl ?_)
      · exact ⟨by show 1 ≤ _; omega, by show (v.map Vl.int).length + 1 ≤ _; rw [List.length_map]; have := (hv v (hsf v List.mem_cons_self)).1; omega, hP⟩
      rw [List.nil_append, app_one]
      refine ⟨_, _, rfl, rfl, by rw [List.length_map, List.length_map, List.length_map, List.length_range]; show longer.length + 5 ≤ _; omega, .inl ?_⟩
      rw [← List.map_append]
      refine hD2 _ _ ⟨rfl, suf, longer ++ ((List.range 5).map fun (i : Nat) => v ++ [-2 + (i : Int)]), _, _, es, fun u hu => hsf u (List.mem_cons_of_mem _ hu), fun u hu => ?_, by rw [List.length_append, List.length_map, List.length_range]; omega, rfl⟩
      rcases List.mem_append.mp hu with z | z
      · exact hlv u z
      · obtain ⟨i, hi, e⟩ := List.mem_map.mp z
        have hi := List.mem_range.mp hi
        obtain ⟨v1, v2⟩ := hv v (hsf v List.mem_cons_self)
        rw [List.length_cons] at v1
        rw [← e]
        refine ⟨by rw [List.length_append, List.length_singleton]; omega, fun y hy => ?_⟩
        rcases List.mem_append.mp hy with k | k
        · exact v2 y k
        · rw [List.mem_singleton.mp k]; omega
    · exact ⟨rfl, found, [], _, _, rfl, fun v h => h, fun v h => (by cases h), by simp, rfl⟩
  · refine ⟨rfl, [[]], none, none, none, none, fun v h => ?_, by simp [rngD_len], by rw [rngD_len]; omega, rfl⟩
    rw [List.mem_singleton.mp h, rngD_len]
    exact ⟨by simp, fun y hy => by cases hy⟩
/-! facts for law -/
structure KF (w : Nat) (rows K : List (List Int)) : Prop where
  w1 : 1 ≤ w
  w9 : w ≤ 9
  len : rows.length ≤ 4
  row : ∀ r ∈ rows, r.length = w ∧ ∀ y ∈ r, -20 ≤ y ∧ y ≤ 20
  k : IsK w rows K
theorem KF.row5 {w : Nat} {rows K : List (List Int)} (h : KF w rows K) : ∀ r ∈ rows, r.length = w ∧ Small (2 ^ 5) r := fun r hr => ⟨(h.row r hr).1, K25.small20 (h.row r hr).2⟩
theorem KF.small {w : Nat} {rows K : List (List Int)} (h : KF w rows K) : ∀ c ∈ K, Small (2 ^ 1518) c := form_small h.w9 h.len (fun r hr => (h.row5 r hr).2) h.k.hnf h.k.sp
theorem KF.kl {w : Nat} {rows K : List (List Int)} (h : KF w rows K) : K.length ≤ w := by
  rw [← cnt_form h.k.hnf h.k.sp]
  unfold cntL
  refine Nat.le_trans (List.length_filter_le _ _) ?_
  rw [List.length_range]; exact Nat.le_refl _
theorem log_1518 {i : Nat} (h : i ≤ 2 ^ 1518) : i.log2 < 1920 := by
  by_cases hz : i = 0
  · rw [hz]; decide
  · have := (Nat.log2_lt hz).mpr (show i < 2 ^ 1519 from Nat.lt_of_le_of_lt h (Nat.pow_lt_pow_right (by decide) (by decide)))
    omega
theorem KF.repr {w : Nat} {rows K : List (List Int)} (h : KF w rows K) : plainV (.tup (K.map rowV)) = true ∧ shortV (.tup (K.map rowV)) = true ∧ depV (.tup (K.map rowV)) ≤ 64 ∧ 1932 * nodV (.tup (K.map rowV)) ≤ sizeLine := by
  have hsl := sizeLine_eq
  have sh : ∀ {S : List (List Int)}, (∀ r ∈ S, Small (2 ^ 1518) r) → shortVs (S.map rowV) = true := by
    intro S
    induction S with
    | nil => intro _; rfl
    | cons r S ih =>
      intro hS
      rw [List.map_cons, shortVs, ih fun c hc => hS c (List.mem_cons_of_mem _ hc), rowV, shortV, shortVs_ints, Bool.and_true, List.all_eq_true]
      intro i hi
      exact decide_eq_true (log_1518 (hS r List.mem_cons_self i hi))
  refine ⟨by rw [plainV]; exact plainVs_rowV K, by rw [shortV]; exact sh h.small, by rw [depV]; have := depVs_rowV K; omega, ?_⟩
  rw [nodV, nodVs_rowV h.k.hnf.wide, hsl]
  have h1 := h.kl
  have h2 := h.w9
  have : K.length * (w + 1) ≤ 9 * 10 := Nat.mul_le_mul (by omega) (by omega)
  omega
theorem plus_big {w k L : Nat} {b v : List Int} {q : Int} (hb : b.length = w) (hv : v.length = w) (hbs : Small (2 ^ L) b) (hvs : Small (2 ^ k) v) (hq : q.natAbs ≤ 2 ^ (k + 1)) : Small (2 ^ (k + L + 2)) (plus v b (-q)) := by
  intro x hx
  obtain ⟨j, _, e⟩ := mem_at hx
  rw [plus_at (by omega)] at e
  rw [← e]
  have k1 := at_small hvs j
  have k2 := Nat.mul_le_mul hq (at_small hbs j)
  rw [← Nat.pow_add] at k2
  have k3 : (-q * at0 b j).natAbs = q.natAbs * (at0 b j).natAbs := by rw [Int.natAbs_mul, Int.natAbs_neg]
  have k4 : 2 ^ k ≤ 2 ^ (k + 1 + L) := Nat.pow_le_pow_right (by decide) (by omega)
  rw [show k + L + 2 = k + 1 + L + 1 by omega, Nat.pow_succ]
  omega
theorem leftOk_k {w : Nat} : ∀ {bs : List (List Int)} {v : List Int} {k : Nat}, Hnf w bs → (∀ b ∈ bs, Small (2 ^ 1518) b) → v.length = w → Small (2 ^ k) v → k + 1520 * bs.length < 100000 → LeftOk bs v
  | [], v, k, _, _, _, _, _ => trivial
  | b :: t, v, k, hH, hs, hv, hk, hlt => by
    rw [List.length_cons] at hlt
    obtain ⟨k1, k2, k3⟩ := hnf_leadN hH b List.mem_cons_self
    have hbl := hH.wide b List.mem_cons_self
    have hbs := hs b List.mem_cons_self
    have q := quo_small (w := w) k1 (by omega) hk
    refine ⟨⟨leadN b, k1, by omega, Nat.lt_trans (log_1518 (at_small hbs _)) (by decide), fun y hy => K25.mulok_small (a := k + 1) (b := 1518) (by rw [Int.natAbs_neg]; exact q) (hbs y hy) (by omega)⟩, ?_⟩
    exact leftOk_k (k := k + 1518 + 2) hH.2.2 (fun c hc => hs c (List.mem_cons_of_mem _ hc)) (by rw [plus_len (by omega)]; exact hv) (plus_big hbl hv hbs hk q) (by omega)
end K27

set_option exponentiation.threshold 300
/-! Y5: law -/
namespace K27
open PySem PySem.Spec L2 StX PyProof.Rows DL K26 K25
def c_is_in : Ct := K26.c_is_in
def c__law_pen : Ct := c_pen
def c__law_draw : Ct := c_draw
def c__law_row : Ct := K26.c__law_row
/- pieces of law -/
def s1 : DS := (dAsg (dOp dAddA (dC (.int 1)) (dCall c__law_draw (dCons (dVar 1) (dCons (dC (.int 9)) dNil)))) (dgName 3))
def s2 : DS := (dAsg (dLc (dRange1 (dCons (dCall c__law_draw (dCons (dVar 1) (dCons (dC (.int 5)) dNil))) dNil)) (dgName 8) dYes (dCall c__law_row (dCons (dVar 1) (dCons (dVar 3) dNil))) [8]) (dgName 4))
def s3 : DS := (dAsg (dCall c_kernel (dCons (dVar 4) (dCons (dVar 3) dNil))) (dgName 5))
def s4 : DS := (dIf (dOrT (dTest (dOp dNe (dCB fRepr (dCons (dVar 5) dNil)) (dCB fRepr (dCons (dCall c__law_kernel (dCons (dVar 4) (dCons (dVar 3) dNil))) dNil)))) (dOrT (dTest (dOp dNe (dCallK c_kernel 0 2 [1, 0] dNil (dCons (dVar 3) (dCons (dCB fTuple (dCons (dVar 4) dNil)) dNil))) (dVar 5))) (dTest (dOp dNe (dCall c_hermite (dCons (dVar 5) (dCons (dVar 3) dNil))) (dVar 5))))) (dRet (dC (.bl false))) dNext)
def s5b : DS := (dIf (dTest (dOp dNe (dLc (dIter (dVar 4)) (dgName 9) (dTest (dOp dNe (dCB fSum (dCons (dLc (dZip (dCons (dVar 6) (dCons (dVar 9) dNil))) (dgTup 2 (dgCons (dgName 10) (dgCons (dgName 11) dgNil))) dYes (dOp dMulA (dVar 10) (dVar 11)) [10, 11]) dNil)) (dC (.int 0)))) (dC (.int 1)) [9]) (dLst dNil))) (dRet (dC (.bl false))) dNext)
def s5 : DS := (dFor (dIter (dVar 5)) (dgName 6) s5b)
def s6b : DS := (dSeq (dAsg (dOp dAddA (dVar 6) (dOp dMulA (dTup (dCons (dC (.int 0)) dNil)) (dOp (dI0 fun i j => .int (i - j)) (dVar 3) (dCB fLen (dCons (dVar 6) dNil))))) (dgName 7)) (dIf (dTest (dOp dNe (dCall c_is_in (dCons (dVar 5) (dCons (dVar 7) dNil))) (dOp dEq (dLc (dIter (dVar 4)) (dgName 9) (dTest (dOp dNe (dCB fSum (dCons (dLc (dZip (dCons (dVar 7) (dCons (dVar 9) dNil))) (dgTup 2 (dgCons (dgName 10) (dgCons (dgName 11) dgNil))) dYes (dOp dMulA (dVar 10) (dVar 11)) [10, 11]) dNil)) (dC (.int 0)))) (dC (.int 1)) [9]) (dLst dNil)))) (dRet (dC (.bl false))) dNext))
def s6 : DS := (dFor (dIter (dCall c__law_box (dCons (dCB fMin2 (dCons (dVar 3) (dCons (dC (.int 3)) dNil))) (dCons (dNeg (dC (.int 2))) (dCons (dC (.int 2)) dNil))))) (dgName 6) s6b)
def s7 : DS := (dIf (dTest (dOp dNe (dCB fLen (dCons (dVar 5) dNil)) (dOp (dI0 fun i j => .int (i - j)) (dVar 3) (dCB fLen (dCons (dCall c__law_hermite (dCons (dVar 4) (dCons (dVar 3) dNil))) dNil))))) (dRet (dC (.bl false))) dNext)
def t7 : DS := s7
def t6 : DS := dSeq s6 t7
def t5 : DS := dSeq s5 t6
def t4 : DS := dSeq s4 t5
def t3 : DS := dSeq s3 t4
def t2 : DS := dSeq s2 t3
def t1 : DS := dSeq s1 t2

theorem t7_walk {μ : Mu} {d : DEnds} {w : Nat} {rows K : List (List Int)} {o0 o1 o2 o6 o7 o8 o9 o10 o11 : Option Vl} (F : KF w rows K)
    (q : d.nx [o0, o1, o2, some (.int (w : Int)), some (.lst (rows.map rowV)), some (.tup (K.map rowV)), o6, o7, o8, o9, o10, o11] μ) :
    t7 d [o0, o1, o2, some (.int (w : Int)), some (.lst (rows.map rowV)), some (.tup (K.map rowV)), o6, o7, o8, o9, o10, o11] μ := by
  have h9 := F.w9
  have h4 := F.len
  refine ⟨.tup (K.map rowV), K.map rowV, rfl, rfl, ?_⟩
  refine ⟨.lst (rows.map rowV), rows, w, rfl, rfl, trivial, by omega, by omega, fun r hr => ⟨(F.row5 r hr).1, (F.row5 r hr).2.mono (Nat.pow_le_pow_right (by decide) ?_)⟩, fun R hR hE _ => ?_⟩
  · generalize rows.length = n at h4
    match n, h4 with
    | 0, _ => decide
    | 1, _ => decide
    | 2, _ => decide
    | 3, _ => decide
    | 4, _ => decide
  refine ⟨.tup (R.map rowV), R.map rowV, rfl, rfl, ?_⟩
  have e := F.k.len R hR hE
  refine dec_splitN (p := (((K.map rowV).length : Nat) : Int) = (w : Int) - (((R.map rowV).length : Nat) : Int)) (fun h => absurd ?_ h) (fun _ => q)
  rw [List.length_map, List.length_map]; omega
theorem dot_walk6 {G : Mu → Prop} {μ : Mu} {s : List Int} {rows : List (List Int)} {Q : List Vl → Mu → Prop} {o0 o1 o2 o3 o4 o5 o7 o8 o9 o10 o11 : Option Vl} (hG : G μ) (hr : ∀ r ∈ rows, ∀ y ∈ r, -20 ≤ y ∧ y ≤ 20)
    (q : Q ((rows.filter fun r => decide (¬ dot s r = 0)).map fun _ => Vl.int 1) μ) :
    lcD G (dgName 9) (dTest (dOp dNe (dCB fSum (dCons (dLc (dZip (dCons (dVar 6) (dCons (dVar 9) dNil))) (dgTup 2 (dgCons (dgName 10) (dgCons (dgName 11) dgNil))) dYes (dOp dMulA (dVar 10) (dVar 11)) [10, 11]) dNil)) (dC (.int 0)))) (dC (.int 1)) [o0, o1, o2, o3, o4, o5, some (rowV s), o7, o8, o9, o10, o11] Q (rows.map rowV) [] μ := by
  refine DL.lc_filter hG _ (fun r => decide (¬ dot s r = 0)) (fun _ => Vl.int 1) _ _ (fun r h P R h1 h2 => ?_) (by rw [List.nil_append]; exact q)
  refine ⟨rowV s, rowV r, _, _, rfl, rfl, rfl, ?_⟩
  rw [K26.zip_rows]
  refine DL.lc_map ⟨trivial, trivial⟩ _ (fun p => Vl.int (p.1 * p.2)) _ _ (fun x hx P hP => ?_) (.inl ?_)
  · exact ⟨rfl, rfl, .inr (.inl (by have := hr r h x.2 (List.of_mem_zip hx).2; omega)), hP⟩
  refine ⟨_, (s.zip r).map fun p => p.1 * p.2, rfl, by rw [List.nil_append, List.map_map]; rfl, ?_⟩
  exact dec_splitN (p := dot s r = 0) (fun e => h1 (decide_eq_true e)) (fun e => h2 (decide_eq_false fun k => k e))
theorem dot_walk7 {G : Mu → Prop} {μ : Mu} {s : List Int} {rows : List (List Int)} {Q : List Vl → Mu → Prop} {o0 o1 o2 o3 o4 o5 o6 o8 o9 o10 o11 : Option Vl} (hG : G μ) (hr : ∀ r ∈ rows, ∀ y ∈ r, -20 ≤ y ∧ y ≤ 20)
    (q : Q ((rows.filter fun r => decide (¬ dot s r = 0)).map fun _ => Vl.int 1) μ) :
    lcD G (dgName 9) (dTest (dOp dNe (dCB fSum (dCons (dLc (dZip (dCons (dVar 7) (dCons (dVar 9) dNil))) (dgTup 2 (dgCons (dgName 10) (dgCons (dgName 11) dgNil))) dYes (dOp dMulA (dVar 10) (dVar 11)) [10, 11]) dNil)) (dC (.int 0)))) (dC (.int 1)) [o0, o1, o2, o3, o4, o5, o6, some (rowV s), o8, o9, o10, o11] Q (rows.map rowV) [] μ := by
  refine DL.lc_filter hG _ (fun r => decide (¬ dot s r = 0)) (fun _ => Vl.int 1) _ _ (fun r h P R h1 h2 => ?_) (by rw [List.nil_append]; exact q)
  refine ⟨rowV s, rowV r, _, _, rfl, rfl, rfl, ?_⟩
  rw [K26.zip_rows]
  refine DL.lc_map ⟨trivial, trivial⟩ _ (fun p => Vl.int (p.1 * p.2)) _ _ (fun x hx P hP => ?_) (.inl ?_)
  · exact ⟨rfl, rfl, .inr (.inl (by have := hr r h x.2 (List.of_mem_zip hx).2; omega)), hP⟩
  refine ⟨_, (s.zip r).map fun p => p.1 * p.2, rfl, by rw [List.nil_append, List.map_map]; rfl, ?_⟩
  exact dec_splitN (p := dot s r = 0) (fun e => h1 (decide_eq_true e)) (fun e => h2 (decide_eq_false fun k => k e))
theorem zeros_rep (w : Nat) : (List.replicate (w : Int).toNat [Vl.int 0]).flatten = (zeros w).map .int := by
  unfold zeros
  rw [Int.toNat_natCast, List.map_replicate]
  induction w with
  | zero => rfl
  | succ w ih => rw [List.replicate_succ, List.flatten_cons, ih, List.replicate_succ]; rfl
theorem box_step {μ : Mu} {D : DEnds} {w n : Nat} {rows K : List (List Int)} {v : List Int} {o0 o1 o2 o7 o8 o9 o10 o11 : Option Vl} (F : KF w rows K) (hn : n ≤ w) (hv : v.length = n ∧ ∀ y ∈ v, -2 ≤ y ∧ y ≤ 2)
    (q : ∀ o7, D.nx [o0, o1, o2, some (.int (w : Int)), some (.lst (rows.map rowV)), some (.tup (K.map rowV)), some (rowV v), o7, o8, o9, o10, o11] μ) :
    s6b D [o0, o1, o2, some (.int (w : Int)), some (.lst (rows.map rowV)), some (.tup (K.map rowV)), some (rowV v), o7, o8, o9, o10, o11] μ := by
  have hsl := sizeLine_eq
  have h9 := F.w9
  have h4 := F.len
  have es : v.map Vl.int ++ (List.replicate ((w : Int) - (((v.map Vl.int).length : Nat) : Int)).toNat [Vl.int 0]).flatten = (v ++ zeros (w - n)).map Vl.int := by
    rw [List.length_map, hv.1, show ((w : Int) - (n : Int)).toNat = w - n by omega, List.map_append]
    congr 1
    have := zeros_rep (w - n)
    rw [Int.toNat_natCast] at this
    exact this
  have sl : (v ++ zeros (w - n)).length = w := by rw [List.length_append, zeros_len, hv.1]; omega
  have ss : Small (2 ^ 1) (v ++ zeros (w - n)) := fun x hx => by
    rcases List.mem_append.mp hx with z | z
    · have := hv.2 x z
      show x.natAbs ≤ 2
      omega
    · rw [List.eq_of_mem_replicate z]; exact Nat.zero_le _
  have hll : (v.map Vl.int ++ (List.replicate ((w : Int) - (((v.map Vl.int).length : Nat) : Int)).toNat [Vl.int 0]).flatten).length ≤ sizeLine := by
    rw [es, List.length_map, sl]; omega
  rw [List.length_append] at hll
  refine ⟨by show 1 ≤ _; omega, rowV v, v.map .int, rfl, rfl, ?_⟩
  refine ⟨by simp, by rw [List.length_map, hv.1]; omega, by omega, by show 1 ≤ 1000; omega, ?_⟩
  refine ⟨hll, ?_⟩
  rw [es]
  generalize v ++ zeros (w - n) = s at sl ss
  refine ⟨K, s, rfl, leftOk_k F.k.hnf F.small sl ss (by have := F.kl; omega), ?_⟩
  refine ⟨rows.map rowV, rfl, ?_⟩
  refine dot_walk7 (s := s) trivial (fun r hr => (F.row r hr).2) (.inl ?_)
  refine ⟨by show 0 ≤ _; omega, .inl ?_⟩
  have e1 : ((rows.filter fun r => decide (¬ dot s r = 0)).map fun _ => Vl.int 1) = ((rows.filter fun r => decide (¬ dot s r = 0)).map fun _ => (1 : Int)).map Vl.int := by rw [List.map_map]; rfl
  rw [e1]
  refine eq_lstI (s := []) ?_
  have e2 : (leadFrom 0 (leftOf K s)).isNone = (decide (((rows.filter fun r => decide (¬ dot s r = 0)).map fun _ => (1 : Int)) = []) != false) := by
    have a1 := left_none F.k.hnf sl
    rw [← F.k.sp] at a1
    have a2 : ((rows.filter fun r => decide (¬ dot s r = 0)).map fun _ => (1 : Int)) = [] ↔ Ker w rows s := by
      rw [List.map_eq_nil_iff, List.filter_eq_nil_iff]
      constructor
      · intro h
        exact ⟨sl, fun r hr => by have := h r hr; simpa using this⟩
      · intro h r hr
        have := h.2 r hr
        simp [this]
    by_cases hk : Ker w rows s
    · rw [decide_eq_true (a2.mpr hk), a1.mpr hk]; rfl
    · rw [decide_eq_false (fun k => hk (a2.mp k))]
      cases hl : leadFrom 0 (leftOf K s) with
      | none => exact absurd (a1.mp hl) hk
      | some p => rfl
  exact dec_splitN (p := (leadFrom 0 (leftOf K s)).isNone = (decide (((rows.filter fun r => decide (¬ dot s r = 0)).map fun _ => (1 : Int)) = []) != false)) (fun h => absurd e2 h) (fun _ => q _)
theorem t6_walk {μ : Mu} {d : DEnds} {w : Nat} {rows K : List (List Int)} {o0 o1 o2 o6 o7 o8 o9 o10 o11 : Option Vl} (F : KF w rows K)
    (q : ∀ o6 o7, d.nx [o0, o1, o2, some (.int (w : Int)), some (.lst (rows.map rowV)), some (.tup (K.map rowV)), o6, o7, o8, o9, o10, o11] μ) :
    t6 d [o0, o1, o2, some (.int (w : Int)), some (.lst (rows.map rowV)), some (.tup (K.map rowV)), o6, o7, o8, o9, o10, o11] μ := by
  obtain ⟨n, hn, hn3, hnw⟩ : ∃ n : Nat, (if (3 : Int) < (w : Int) then (3 : Int) else (w : Int)) = (n : Int) ∧ n ≤ 3 ∧ n ≤ w := by
    by_cases h : (3 : Int) < (w : Int)
    · exact ⟨3, by rw [if_pos h]; rfl, by omega, by omega⟩
    · exact ⟨w, by rw [if_neg h], by omega, by omega⟩
  refine ⟨n, by rw [← hn], hn3, fun vs hv => ?_⟩
  refine ⟨vs.map rowV, rfl, ?_⟩
  refine DL.forD_inv (fun rest ρ μ1 => μ1 = μ ∧ ∃ (suf : List (List Int)) (o6 o7 : Option Vl), rest = suf.map rowV ∧ (∀ v ∈ suf, v.length = n ∧ ∀ y ∈ v, -2 ≤ y ∧ y ≤ 2) ∧ ρ = [o0, o1, o2, some (.int (w : Int)), some (.lst (rows.map rowV)), some (.tup (K.map rowV)), o6, o7, o8, o9, o10, o11]) (fun _ _ _ _ => trivial) (fun ρ μ1 h => ?_) (fun y rest ρ μ1 h D hD hrt _ => ?_) _ _ _ ?_
  · obtain ⟨e1, suf, o6, o7, _, _, e2⟩ := h
    subst e1; subst e2
    exact t7_walk F (q _ _)
  · obtain ⟨e1, suf, o6, o7, es, hs, e2⟩ := h
    subst e1; subst e2
    cases suf with
    | nil => cases es
    | cons v suf =>
    rw [List.map_cons] at es
    injection es with ev es
    subst ev
    exact box_step F hnw (hs v List.mem_cons_self) fun o7 => hD _ _ ⟨rfl, suf, _, _, es, fun u hu => hs u (List.mem_cons_of_mem _ hu), rfl⟩
  · exact ⟨rfl, vs, _, _, rfl, hv, rfl⟩
theorem t5_walk {μ : Mu} {d : DEnds} {w : Nat} {rows K : List (List Int)} {o0 o1 o2 o6 o7 o8 o9 o10 o11 : Option Vl} (F : KF w rows K)
    (q : ∀ o6 o7, d.nx [o0, o1, o2, some (.int (w : Int)), some (.lst (rows.map rowV)), some (.tup (K.map rowV)), o6, o7, o8, o9, o10, o11] μ) :
    t5 d [o0, o1, o2, some (.int (w : Int)), some (.lst (rows.map rowV)), some (.tup (K.map rowV)), o6, o7, o8, o9, o10, o11] μ := by
  have hsl := sizeLine_eq
  refine ⟨K.map rowV, rfl, ?_⟩
  refine DL.forD_inv (fun rest ρ μ1 => μ1 = μ ∧ ∃ (suf : List (List Int)) (o6 : Option Vl), rest = suf.map rowV ∧ (∀ v ∈ suf, v ∈ K) ∧ ρ = [o0, o1, o2, some (.int (w : Int)), some (.lst (rows.map rowV)), some (.tup (K.map rowV)), o6, o7, o8, o9, o10, o11]) (fun _ _ _ _ => trivial) (fun ρ μ1 h => ?_) (fun y rest ρ μ1 h D hD hrt _ => ?_) _ _ _ ?_
  · obtain ⟨e1, suf, o6, _, _, e2⟩ := h
    subst e1; subst e2
    exact t6_walk F q
  · obtain ⟨e1, suf, o6, es, hs, e2⟩ := h
    subst e1; subst e2
    cases suf with
    | nil => cases es
    | cons v suf =>
    rw [List.map_cons] at es
    injection es with ev es
    subst ev
    have hk := (F.k.sp v).mpr (Sp.self F.k.hnf.wide (hs v List.mem_cons_self))
    refine ⟨rows.map rowV, rfl, ?_⟩
    refine dot_walk6 (s := v) trivial (fun r hr => (F.row r hr).2) (.inl ?_)
    have e0 : (rows.filter fun r => decide (¬ dot v r = 0)) = [] := List.filter_eq_nil_iff.mpr fun r hr => by simp [hk.2 r hr]
    rw [e0]
    refine ⟨by show 0 ≤ _; omega, .inl ?_⟩
    refine eq_lstI (r := []) (s := []) ?_
    exact hD _ _ ⟨rfl, suf, _, es, fun u hu => hs u (List.mem_cons_of_mem _ hu), rfl⟩
  · exact ⟨rfl, K, _, rfl, fun v h => h, rfl⟩
theorem t4_walk {μ : Mu} {d : DEnds} {w : Nat} {rows K : List (List Int)} {o0 o1 o2 o6 o7 o8 o9 o10 o11 : Option Vl} (F : KF w rows K)
    (q : ∀ o6 o7, d.nx [o0, o1, o2, some (.int (w : Int)), some (.lst (rows.map rowV)), some (.tup (K.map rowV)), o6, o7, o8, o9, o10, o11] μ) :
    t4 d [o0, o1, o2, some (.int (w : Int)), some (.lst (rows.map rowV)), some (.tup (K.map rowV)), o6, o7, o8, o9, o10, o11] μ := by
  have h9 := F.w9
  have h4 := F.len
  have hkl := F.kl
  obtain ⟨p1, p2, p3, p4⟩ := F.repr
  refine ⟨_, dataV _, rfl, datM_plain p1, shaped_plain p1 p3, (short_show _ p1 p2).1, shown_le p1 p2 p4, ?_⟩
  refine ⟨.lst (rows.map rowV), rows, w, rfl, rfl, trivial, h9, h4, F.row5, fun K2 h2 => ?_⟩
  have e := h2.uniq F.k
  subst e
  refine ⟨_, dataV _, rfl, datM_plain p1, shaped_plain p1 p3, (short_show _ p1 p2).1, shown_le p1 p2 p4, ?_⟩
  refine dec_splitN (p := (dataV (.tup (K2.map rowV))).shown = (dataV (.tup (K2.map rowV))).shown) (fun h => absurd rfl h) (fun _ => ?_)
  refine ⟨_, rows.map rowV, rfl, rfl, ?_⟩
  refine ⟨rfl, rfl, .tup (rows.map rowV), rows, w, rfl, rfl, trivial, h9, h4, F.row5, fun K3 h3 => ?_⟩
  have e := h3.uniq F.k
  refine dVar_at (x := .tup (K2.map rowV)) rfl ?_
  refine eq_rowsV ?_
  refine dec_splitN (p := K3 = K2) (fun h => absurd e h) (fun _ => ?_)
  refine .inr ⟨.tup (K2.map rowV), w, 1518, K2, rfl, rfl, trivial, by omega, by omega, by decide, Nat.lt_of_le_of_lt (Tq_up 1518 (show K2.length ≤ 9 by omega)) (by decide), F.k.hnf, F.small, ?_⟩
  refine dVar_at (x := .tup (K2.map rowV)) rfl ?_
  refine eq_rowsV ?_
  refine dec_splitN (p := K2 = K2) (fun h => absurd rfl h) (fun _ => ?_)
  exact t5_walk F q
theorem t3_walk {μ : Mu} {d : DEnds} {w : Nat} {rows : List (List Int)} {o0 o1 o2 o5 o6 o7 o8 o9 o10 o11 : Option Vl} (w1 : 1 ≤ w) (w9 : w ≤ 9) (h4 : rows.length ≤ 4) (hr : ∀ r ∈ rows, r.length = w ∧ ∀ y ∈ r, -20 ≤ y ∧ y ≤ 20)
    (q : ∀ o5 o6 o7, d.nx [o0, o1, o2, some (.int (w : Int)), some (.lst (rows.map rowV)), o5, o6, o7, o8, o9, o10, o11] μ) :
    t3 d [o0, o1, o2, some (.int (w : Int)), some (.lst (rows.map rowV)), o5, o6, o7, o8, o9, o10, o11] μ := by
  refine ⟨.lst (rows.map rowV), rows, w, rfl, rfl, trivial, w9, h4, fun r h => ⟨(hr r h).1, K25.small20 (hr r h).2⟩, fun K hK => ?_⟩
  exact t4_walk ⟨w1, w9, h4, hr, hK⟩ fun o6 o7 => q _ o6 o7
theorem t1_walk {μ : Mu} {d : DEnds} {kp : Nat} {ns : List Int} {a l : Int} {o0 o2 o3 o4 o5 o6 o7 o8 o9 o10 o11 : Option Vl} (hk : μ[kp]? = some (penM ns a l)) (ha : 0 ≤ a ∧ a ≤ 50000) (hl : 0 ≤ l)
    (q : ∀ (a' l' : Int) (o3 o4 o5 o6 o7 : Option Vl), a ≤ a' → a' ≤ a + 200 → 0 ≤ l' → d.nx [o0, some (.ref kp), o2, o3, o4, o5, o6, o7, o8, o9, o10, o11] (μ.set kp (penM ns a' l'))) :
    t1 d [o0, some (.ref kp), o2, o3, o4, o5, o6, o7, o8, o9, o10, o11] μ := by
  refine ⟨kp, ns, a, l, 9, rfl, hk, by omega, hl, by decide, fun dw a1 l1 g1 g2 g3 g4 g5 => ?_⟩
  obtain ⟨w, hw, hw1, hw9⟩ : ∃ w : Nat, 1 + dw = (w : Int) ∧ 1 ≤ w ∧ w ≤ 9 := ⟨(1 + dw).toNat, by omega, by omega, by omega⟩
  show t2 _ [o0, some (.ref kp), o2, some (.int (1 + dw)), o4, o5, o6, o7, o8, o9, o10, o11] _
  rw [hw]
  refine ⟨kp, ns, a1, l1, 5, rfl, set_get hk, by omega, g5, by decide, fun dn a2 l2 f1 f2 f3 f4 f5 => ?_⟩
  rw [set_set]
  refine ⟨dn, rfl, by omega, by omega, ?_⟩
  refine DL.lcD_inv (fun rest' acc μ' => ∃ (rows : List (List Int)) (a' l' : Int), acc = rows.map rowV ∧ (∀ r ∈ rows, r.length = w ∧ ∀ y ∈ r, -20 ≤ y ∧ y ≤ 20) ∧ rows.length + rest'.length ≤ 4 ∧ a2 ≤ a' ∧ a' ≤ a2 + 20 * (rows.length : Int) ∧ 0 ≤ l' ∧ μ' = μ.set kp (penM ns a' l')) (fun _ _ _ _ => trivial) (fun acc μ' h => ?_) (fun x rest' acc μ' h D' hD' => ?_) _ _ _ ?_
  · obtain ⟨rows, a3, l3, e1, hrows, hr4, ha3, ha4, hl3, e2⟩ := h
    subst e1; subst e2
    have hr4 : rows.length ≤ 4 := by simpa using hr4
    refine .inl ?_
    exact t3_walk hw1 hw9 hr4 hrows fun o5 o6 o7 => q a3 l3 _ _ o5 o6 o7 (by omega) (by omega) hl3
  · obtain ⟨rows, a3, l3, e1, hrows, hr4, ha3, ha4, hl3, e2⟩ := h
    subst e1; subst e2
    rw [List.length_cons] at hr4
    refine ⟨kp, ns, a3, l3, w, rfl, by omega, set_get hk, by omega, hl3, fun r a4 l4 c1 c2 c3 c4 c5 => ?_⟩
    rw [set_set]
    refine hD' _ _ ⟨rows ++ [r], a4, l4, by simp, fun z hz => ?_, by simp; omega, by omega, by simp; omega, c5, rfl⟩
    rcases List.mem_append.mp hz with k | k
    · exact hrows z k
    · rw [List.mem_singleton.mp k]; exact ⟨c1, c2⟩
  · exact ⟨[], a2, l2, rfl, fun r h => (by cases h), by rw [rngD_len]; simp; omega, by omega, by simp, f5, rfl⟩
def b_law : DS :=
    (dSeq (dAsg (dCall c__law_pen (dCons (dVar 0) dNil)) (dgName 1))
    (dSeq (dFor (dRange1 (dCons (dC (.int 6)) dNil)) (dgName 2) t1)
    (dRet (dAndV (dOp dEq (dCall c_kernel (dCons (dLst dNil) (dCons (dC (.int 2)) dNil))) (dTup (dCons (dTup (dCons (dC (.int 1)) (dCons (dC (.int 0)) dNil))) (dCons (dTup (dCons (dC (.int 0)) (dCons (dC (.int 1)) dNil))) dNil)))) (dAndV (dOp dEq (dCall c_kernel (dCons (dLst (dCons (dTup (dCons (dC (.int 2)) (dCons (dC (.int 4)) dNil))) dNil)) (dCons (dC (.int 2)) dNil))) (dTup (dCons (dTup (dCons (dC (.int 2)) (dCons (dNeg (dC (.int 1))) dNil))) dNil))) (dAndV (dOp dEq (dCall c_kernel (dCons (dLst (dCons (dTup (dCons (dC (.int 0)) (dCons (dC (.int 3)) dNil))) dNil)) (dCons (dC (.int 2)) dNil))) (dTup (dCons (dTup (dCons (dC (.int 1)) (dCons (dC (.int 0)) dNil))) dNil))) (dOp dEq (dCall c_kernel (dCons (dLst (dCons (dTup (dCons (dC (.int 5)) dNil)) dNil)) (dCons (dC (.int 1)) dNil))) (dTup dNil))))))))
def c_law : Ct := fun xs μ Q => ∃ ns : List Int, xs = [.frl (ns.map .int)] ∧ ns.length ≤ 63 ∧ ∀ μ', Q (.bl true) μ'
theorem l_law : ∀ xs μ Q, c_law xs μ Q → xs.length = 1 := by
  intro xs μ Q ⟨_, e, _⟩
  subst e; rfl
theorem law_all : ∀ ns : List Int, ns.length ≤ 63 → c_law [.frl (ns.map .int)] [] fun v _ => v = .bl true := fun ns h => ⟨ns, rfl, h, fun _ => rfl⟩
/-- the form of a kernel, from its span -/
theorem isK_eq {w : Nat} {rows K K0 : List (List Int)} (h : IsK w rows K) (h0 : Hnf w K0) (h1 : ∀ b ∈ K0, Ker w rows b) (h2 : ∀ v, Ker w rows v → Sp w K0 v) : K = K0 :=
  hnf_unique h.hnf h0 ⟨fun a ha => h2 a ((h.sp a).mpr (Sp.self h.hnf.wide ha)), fun a ha => (h.sp a).mp (h1 a ha)⟩
theorem two {v : List Int} (h : v.length = 2) : ∃ a b, v = [a, b] := by
  match v, h with
  | [a, b], _ => exact ⟨a, b, rfl⟩
theorem k_a {K : List (List Int)} (h : IsK 2 [] K) : K = [[1, 0], [0, 1]] := by
  refine isK_eq h ⟨rfl, ⟨0, rfl, by decide, fun b hb => ?_⟩, rfl, ⟨1, rfl, by decide, fun b hb => (by cases hb)⟩, trivial⟩ (fun b hb => ⟨?_, fun r hr => by cases hr⟩) (fun v hv => ?_)
  · rw [List.mem_singleton.mp hb]
    refine ⟨fun i hi => by rw [show i = 0 by omega]; rfl, fun q hq => ?_⟩
    have : q = 1 := (Option.some.inj (show some 1 = some q from hq)).symm
    rw [this]; decide
  · simp only [List.mem_cons, List.not_mem_nil, or_false] at hb
    rcases hb with e | e <;> (rw [e]; rfl)
  · obtain ⟨a, b, e⟩ := two hv.1
    have s1 := Sp.add (w := 2) (B := [[1, 0], [0, 1]]) a .zero (b := [1, 0]) (by simp)
    have s2 := Sp.add b s1 (b := [0, 1]) (by simp)
    have ev : plus (plus (zeros 2) [1, 0] a) [0, 1] b = v := by
      rw [e]
      show [0 + a * 1 + b * 0, 0 + a * 0 + b * 1] = [a, b]
      congr 1
      · omega
      · congr 1; omega
    rw [ev] at s2; exact s2
theorem k_b {K : List (List Int)} (h : IsK 2 [[2, 4]] K) : K = [[2, -1]] := by
  refine isK_eq h ⟨rfl, ⟨0, rfl, by decide, fun b hb => (by cases hb)⟩, trivial⟩ (fun b hb => ?_) (fun v hv => ?_)
  · rw [List.mem_singleton.mp hb]
    exact ⟨rfl, fun r hr => by rw [List.mem_singleton.mp hr]; rfl⟩
  · obtain ⟨a, b, e⟩ := two hv.1
    have h0 := hv.2 [2, 4] (by simp)
    rw [e] at h0
    have h0 : a * 2 + (b * 4 + 0) = 0 := h0
    have s1 := Sp.add (w := 2) (B := [[2, -1]]) (-b) .zero (b := [2, -1]) (by simp)
    have ev : plus (zeros 2) [2, -1] (-b) = v := by
      rw [e]
      show [0 + -b * 2, 0 + -b * -1] = [a, b]
      congr 1
      · omega
      · congr 1; omega
    rw [ev] at s1; exact s1
theorem k_c {K : List (List Int)} (h : IsK 2 [[0, 3]] K) : K = [[1, 0]] := by
  refine isK_eq h ⟨rfl, ⟨0, rfl, by decide, fun b hb => (by cases hb)⟩, trivial⟩ (fun b hb => ?_) (fun v hv => ?_)
  · rw [List.mem_singleton.mp hb]
    exact ⟨rfl, fun r hr => by rw [List.mem_singleton.mp hr]; rfl⟩
  · obtain ⟨a, b, e⟩ := two hv.1
    have h0 := hv.2 [0, 3] (by simp)
    rw [e] at h0
    have h0 : a * 0 + (b * 3 + 0) = 0 := h0
    have s1 := Sp.add (w := 2) (B := [[1, 0]]) a .zero (b := [1, 0]) (by simp)
    have ev : plus (zeros 2) [1, 0] a = v := by
      rw [e]
      show [0 + a * 1, 0 + a * 0] = [a, b]
      congr 1
      · omega
      · congr 1; omega
    rw [ev] at s1; exact s1
theorem k_d {K : List (List Int)} (h : IsK 1 [[5]] K) : K = [] := by
  refine isK_eq h trivial (fun b hb => (by cases hb)) (fun v hv => ?_)
  have hv1 := hv.1
  match v, hv1 with
  | [a], _ =>
    have h0 := hv.2 [5] (by simp)
    have h0 : a * 5 + 0 = 0 := h0
    have : a = 0 := by omega
    rw [this]
    exact Sp.zero
theorem r_law : ∀ xs μ Q, c_law xs μ Q → b_law (spEnds Q) (startD ["script", "pen", "turn", "width", "rows", "told", "row", "some", "lap", "its", "one", "number"] xs) μ := by
  intro xs μ Q ⟨ns, e, hn, q⟩
  subst e
  have hsl := sizeLine_eq
  refine ⟨ns, rfl, hn, ?_⟩
  refine ⟨6, rfl, by decide, by decide, ?_⟩
  refine DL.forD_inv (fun rest ρ μ1 => ∃ (a l : Int) (o2 o3 o4 o5 o6 o7 o8 o9 o10 o11 : Option Vl), rest.length ≤ 6 ∧ 0 ≤ a ∧ a ≤ (6 - (rest.length : Int)) * 1000 ∧ 0 ≤ l ∧ μ1[μ.length]? = some (penM ns a l) ∧
    ρ = [some (.frl (ns.map .int)), some (.ref μ.length), o2, o3, o4, o5, o6, o7, o8, o9, o10, o11]) (fun _ _ _ _ => trivial) (fun ρ μ1 h => ?_) (fun y rest ρ μ1 h D hD hrt _ => ?_) _ _ _ ?_
  · obtain ⟨a, l, o2, o3, o4, o5, o6, o7, o8, o9, o10, o11, _, _, _, _, e1, e2⟩ := h
    subst e2
    have small : ∀ {w : Nat} {rows : List (List Int)}, (∀ r ∈ rows, r.length = w ∧ ∀ y ∈ r, -20 ≤ y ∧ y ≤ 20) → ∀ r ∈ rows, r.length = w ∧ Small (2 ^ 5) r := fun h r hr => ⟨(h r hr).1, K25.small20 (h r hr).2⟩
    refine ⟨by show 0 ≤ _; omega, .inl ?_⟩
    refine ⟨.lst [], [], 2, rfl, rfl, trivial, by omega, by decide, fun r hr => (by cases hr), fun K hK => ?_⟩
    have eK := k_a hK
    subst eK
    refine ⟨by show 2 ≤ _; omega, by show 2 ≤ _; omega, by show 2 ≤ _; omega, ?_⟩
    refine eq_rowsV (A := [[1, 0], [0, 1]]) (B := [[1, 0], [0, 1]]) ?_
    refine ⟨by show 2 ≤ _; omega, by show 1 ≤ _; omega, .inl ?_⟩
    refine ⟨.lst [rowV [2, 4]], [[2, 4]], 2, rfl, rfl, trivial, by omega, by decide, small (by decide), fun K hK => ?_⟩
    have eK := k_b hK
    subst eK
    refine ⟨by show 2 ≤ _; omega, by show 1 ≤ _; omega, ?_⟩
    refine eq_rowsV (A := [[2, -1]]) (B := [[2, -1]]) ?_
    refine ⟨by show 2 ≤ _; omega, by show 1 ≤ _; omega, .inl ?_⟩
    refine ⟨.lst [rowV [0, 3]], [[0, 3]], 2, rfl, rfl, trivial, by omega, by decide, small (by decide), fun K hK => ?_⟩
    have eK := k_c hK
    subst eK
    refine ⟨by show 2 ≤ _; omega, by show 1 ≤ _; omega, ?_⟩
    refine eq_rowsV (A := [[1, 0]]) (B := [[1, 0]]) ?_
    refine ⟨by show 1 ≤ _; omega, by show 1 ≤ _; omega, .inl ?_⟩
    refine ⟨.lst [rowV [5]], [[5]], 1, rfl, rfl, trivial, by omega, by decide, small (by decide), fun K hK => ?_⟩
    have eK := k_d hK
    subst eK
    refine ⟨by show 0 ≤ _; omega, ?_⟩
    refine eq_rowsV (A := []) (B := []) ?_
    exact q _
  · obtain ⟨a, l, o2, o3, o4, o5, o6, o7, o8, o9, o10, o11, hlen, ha0, ha1, hl, e1, e2⟩ := h
    subst e2
    rw [List.length_cons] at hlen ha1
    refine t1_walk e1 (by omega) hl fun a' l' p3 p4 p5 p6 p7 h1 h2 h3 => ?_
    exact hD _ _ ⟨a', l', _, _, _, _, _, _, _, _, _, _, by omega, by omega, by omega, h3, set_get e1, rfl⟩
  · exact ⟨0, 0, _, _, _, _, _, _, _, _, _, _, by rw [rngD_len]; decide, by omega, by rw [rngD_len]; decide, by omega, get_new _ _, rfl⟩
end K27

/-! the defs of the text, each as terms over data (printed by gen.py) -/
namespace K27
open PySem PySem.Spec L2 StX PyProof.Rows DL
def topS (i : Nat) : Stmt := PySem.Challenge.pw_allmoduli_k27_all_rows_with_products_of.main.body.getD i (.Pass ⟨0, 0, 0, 0⟩)
abbrev s_lead : Stmt := topS 2
abbrev s_plus : Stmt := topS 3
abbrev s_mixed : Stmt := topS 4
abbrev s_divided : Stmt := topS 5
abbrev s_Growing___init__ : Stmt := inClass (topS 6) 0
abbrev s_Growing_add : Stmt := inClass (topS 6) 1
abbrev s_Growing_tidy : Stmt := inClass (topS 6) 2
abbrev s_Growing_basis : Stmt := inClass (topS 6) 4
abbrev s_hermite : Stmt := topS 7
abbrev s_left_of : Stmt := topS 8
abbrev s_is_in : Stmt := topS 9
abbrev s_kernel : Stmt := topS 10
abbrev s__law_pen : Stmt := topS 12
abbrev s__law_draw : Stmt := topS 13
abbrev s__law_pick : Stmt := topS 14
abbrev s__law_hermite : Stmt := topS 15
abbrev s__law_row : Stmt := topS 16
abbrev s__law_kernel : Stmt := topS 17
abbrev s__law_box : Stmt := topS 18
abbrev s_law : Stmt := topS 19
theorem sc_lead : FnScope ["row", "place", "number"] ["row"] (defScope s_lead) := ⟨rfl, rfl, rfl, by decide +kernel, rfl, by decide +kernel, by decide +kernel⟩
theorem sc_plus : FnScope ["row", "other", "times", "one", "its"] ["row", "other", "times"] (defScope s_plus) := ⟨rfl, rfl, rfl, by decide +kernel, rfl, by decide +kernel, by decide +kernel⟩
theorem sc_mixed : FnScope ["row", "other", "multiples", "one", "its"] ["row", "other", "multiples"] (defScope s_mixed) := ⟨rfl, rfl, rfl, by decide +kernel, rfl, by decide +kernel, by decide +kernel⟩
theorem sc_divided : FnScope ["one", "other", "rows", "number", "first", "last"] ["one", "other"] (defScope s_divided) := ⟨rfl, rfl, rfl, by decide +kernel, rfl, by decide +kernel, by decide +kernel⟩
theorem sc_Growing___init__ : FnScope ["self", "width"] ["self", "width"] (defScope s_Growing___init__) := ⟨rfl, rfl, rfl, by decide +kernel, rfl, by decide +kernel, by decide +kernel⟩
theorem sc_Growing_add : FnScope ["self", "row", "left", "is_new", "place", "held", "number", "multiples", "away", "one"] ["self", "row"] (defScope s_Growing_add) := ⟨rfl, rfl, rfl, by decide +kernel, rfl, by decide +kernel, by decide +kernel⟩
theorem sc_Growing_tidy : FnScope ["self", "place", "other", "held"] ["self", "place"] (defScope s_Growing_tidy) := ⟨rfl, rfl, rfl, by decide +kernel, rfl, by decide +kernel, by decide +kernel⟩
theorem sc_Growing_basis : FnScope ["self", "place"] ["self"] (defScope s_Growing_basis) := ⟨rfl, rfl, rfl, by decide +kernel, rfl, by decide +kernel, by decide +kernel⟩
theorem sc_hermite : FnScope ["rows", "width", "found", "row"] ["rows", "width"] (defScope s_hermite) := ⟨rfl, rfl, rfl, by decide +kernel, rfl, by decide +kernel, by decide +kernel⟩
theorem sc_left_of : FnScope ["basis", "row", "left", "held", "place"] ["basis", "row"] (defScope s_left_of) := ⟨rfl, rfl, rfl, by decide +kernel, rfl, by decide +kernel, by decide +kernel⟩
theorem sc_is_in : FnScope ["basis", "row"] ["basis", "row"] (defScope s_is_in) := ⟨rfl, rfl, rfl, by decide +kernel, rfl, by decide +kernel, by decide +kernel⟩
theorem sc_kernel : FnScope ["rows", "width", "many", "sides", "place", "row", "at"] ["rows", "width"] (defScope s_kernel) := ⟨rfl, rfl, rfl, by decide +kernel, rfl, by decide +kernel, by decide +kernel⟩
theorem sc__law_pen : FnScope ["script"] ["script"] (defScope s__law_pen) := ⟨rfl, rfl, rfl, by decide +kernel, rfl, by decide +kernel, by decide +kernel⟩
theorem sc__law_draw : FnScope ["pen", "many", "digit", "at", "cell", "great", "mixed_v"] ["pen", "many"] (defScope s__law_draw) := ⟨rfl, rfl, rfl, by decide +kernel, rfl, by decide +kernel, by decide +kernel⟩
theorem sc__law_pick : FnScope ["pen", "some"] ["pen", "some"] (defScope s__law_pick) := ⟨rfl, rfl, rfl, by decide +kernel, rfl, by decide +kernel, by decide +kernel⟩
theorem sc__law_hermite : FnScope ["rows", "width", "left", "found", "at", "some", "rest", "sizes", "later", "spot", "first", "row", "by", "number", "its", "one"] ["rows", "width"] (defScope s__law_hermite) := ⟨rfl, rfl, rfl, by decide +kernel, rfl, by decide +kernel, by decide +kernel⟩
theorem sc__law_row : FnScope ["pen", "width", "at"] ["pen", "width"] (defScope s__law_row) := ⟨rfl, rfl, rfl, by decide +kernel, rfl, by decide +kernel, by decide +kernel⟩
theorem sc__law_kernel : FnScope ["rows", "width", "many", "sides", "at", "row", "spot", "one"] ["rows", "width"] (defScope s__law_kernel) := ⟨rfl, rfl, rfl, by decide +kernel, rfl, by decide +kernel, by decide +kernel⟩
theorem sc__law_box : FnScope ["width", "least", "most", "found", "turn", "longer", "row", "one"] ["width", "least", "most"] (defScope s__law_box) := ⟨rfl, rfl, rfl, by decide +kernel, rfl, by decide +kernel, by decide +kernel⟩
theorem sc_law : FnScope ["script", "pen", "turn", "width", "rows", "told", "row", "some", "lap", "its", "one", "number"] ["script"] (defScope s_law) := ⟨rfl, rfl, rfl, by decide +kernel, rfl, by decide +kernel, by decide +kernel⟩
structure Tx (K : PySem.W.Frag) (mg : Str → Option Value) where
  a_lead : Addr
  d_lead : FuncData
  F_lead : Fun K "lead" "lead" s_lead a_lead d_lead
  m_lead : mg "lead" = some (.ref a_lead)
  b_lead : Binds K d_lead ["row"] []
  a_plus : Addr
  d_plus : FuncData
  F_plus : Fun K "plus" "plus" s_plus a_plus d_plus
  m_plus : mg "plus" = some (.ref a_plus)
  b_plus : Binds K d_plus ["row", "other", "times"] []
  a_mixed : Addr
  d_mixed : FuncData
  F_mixed : Fun K "mixed" "mixed" s_mixed a_mixed d_mixed
  m_mixed : mg "mixed" = some (.ref a_mixed)
  b_mixed : Binds K d_mixed ["row", "other", "multiples"] []
  a_divided : Addr
  d_divided : FuncData
  F_divided : Fun K "divided" "divided" s_divided a_divided d_divided
  m_divided : mg "divided" = some (.ref a_divided)
  b_divided : Binds K d_divided ["one", "other"] []
  a_Growing___init__ : Addr
  d_Growing___init__ : FuncData
  F_Growing___init__ : Fun K "__init__" "Growing.__init__" s_Growing___init__ a_Growing___init__ d_Growing___init__
  b_Growing___init__ : Binds K d_Growing___init__ ["self", "width"] []
  a_Growing_add : Addr
  d_Growing_add : FuncData
  F_Growing_add : Fun K "add" "Growing.add" s_Growing_add a_Growing_add d_Growing_add
  b_Growing_add : Binds K d_Growing_add ["self", "row"] []
  a_Growing_tidy : Addr
  d_Growing_tidy : FuncData
  F_Growing_tidy : Fun K "tidy" "Growing.tidy" s_Growing_tidy a_Growing_tidy d_Growing_tidy
  b_Growing_tidy : Binds K d_Growing_tidy ["self", "place"] []
  a_Growing_basis : Addr
  d_Growing_basis : FuncData
  F_Growing_basis : Fun K "basis" "Growing.basis" s_Growing_basis a_Growing_basis d_Growing_basis
  b_Growing_basis : Binds K d_Growing_basis ["self"] []
  a_hermite : Addr
  d_hermite : FuncData
  F_hermite : Fun K "hermite" "hermite" s_hermite a_hermite d_hermite
  m_hermite : mg "hermite" = some (.ref a_hermite)
  b_hermite : Binds K d_hermite ["rows", "width"] []
  a_left_of : Addr
  d_left_of : FuncData
  F_left_of : Fun K "left_of" "left_of" s_left_of a_left_of d_left_of
  m_left_of : mg "left_of" = some (.ref a_left_of)
  b_left_of : Binds K d_left_of ["basis", "row"] []
  a_is_in : Addr
  d_is_in : FuncData
  F_is_in : Fun K "is_in" "is_in" s_is_in a_is_in d_is_in
  m_is_in : mg "is_in" = some (.ref a_is_in)
  b_is_in : Binds K d_is_in ["basis", "row"] []
  a_kernel : Addr
  d_kernel : FuncData
  F_kernel : Fun K "kernel" "kernel" s_kernel a_kernel d_kernel
  m_kernel : mg "kernel" = some (.ref a_kernel)
  b_kernel : Binds K d_kernel ["rows", "width"] []
  a__law_pen : Addr
  d__law_pen : FuncData
  F__law_pen : Fun K "_law_pen" "_law_pen" s__law_pen a__law_pen d__law_pen
  m__law_pen : mg "_law_pen" = some (.ref a__law_pen)
  b__law_pen : Binds K d__law_pen ["script"] []
  a__law_draw : Addr
  d__law_draw : FuncData
  F__law_draw : Fun K "_law_draw" "_law_draw" s__law_draw a__law_draw d__law_draw
  m__law_draw : mg "_law_draw" = some (.ref a__law_draw)
  b__law_draw : Binds K d__law_draw ["pen", "many"] []
  a__law_pick : Addr
  d__law_pick : FuncData
  F__law_pick : Fun K "_law_pick" "_law_pick" s__law_pick a__law_pick d__law_pick
  m__law_pick : mg "_law_pick" = some (.ref a__law_pick)
  b__law_pick : Binds K d__law_pick ["pen", "some"] []
  a__law_hermite : Addr
  d__law_hermite : FuncData
  F__law_hermite : Fun K "_law_hermite" "_law_hermite" s__law_hermite a__law_hermite d__law_hermite
  m__law_hermite : mg "_law_hermite" = some (.ref a__law_hermite)
  b__law_hermite : Binds K d__law_hermite ["rows", "width"] []
  a__law_row : Addr
  d__law_row : FuncData
  F__law_row : Fun K "_law_row" "_law_row" s__law_row a__law_row d__law_row
  m__law_row : mg "_law_row" = some (.ref a__law_row)
  b__law_row : Binds K d__law_row ["pen", "width"] []
  a__law_kernel : Addr
  d__law_kernel : FuncData
  F__law_kernel : Fun K "_law_kernel" "_law_kernel" s__law_kernel a__law_kernel d__law_kernel
  m__law_kernel : mg "_law_kernel" = some (.ref a__law_kernel)
  b__law_kernel : Binds K d__law_kernel ["rows", "width"] []
  a__law_box : Addr
  d__law_box : FuncData
  F__law_box : Fun K "_law_box" "_law_box" s__law_box a__law_box d__law_box
  m__law_box : mg "_law_box" = some (.ref a__law_box)
  b__law_box : Binds K d__law_box ["width", "least", "most"] []
  a_law : Addr
  d_law : FuncData
  F_law : Fun K "law" "law" s_law a_law d_law
  m_law : mg "law" = some (.ref a_law)
  b_law : Binds K d_law ["script"] []
  C_G : Addr
  m_G : mg "Growing" = some (.ref C_G)
  cl_G : Cls K C_G
  mk_G : Mk K C_G a_Growing___init__
  mt_Growing_add : Meth K C_G "add" a_Growing_add
  mt_Growing_tidy : Meth K C_G "tidy" a_Growing_tidy
  mt_Growing_basis : Meth K C_G "basis" a_Growing_basis
  na_rows : NoAttr K C_G "rows"
  na_width : NoAttr K C_G "width"
  z_abs : mg "abs" = none
  z_enumerate : mg "enumerate" = none
  z_int : mg "int" = none
  z_len : mg "len" = none
  z_list : mg "list" = none
  z_min : mg "min" = none
  z_range : mg "range" = none
  z_repr : mg "repr" = none
  z_sum : mg "sum" = none
  z_tuple : mg "tuple" = none
  z_zip : mg "zip" = none
  k_kernel_0_10 : BindsK K d_kernel ["rows", "width"] ["width", "rows"] 0 [1, 0]
end K27

namespace K27
open PySem PySem.Spec L2 StX PyProof.Rows DL
def b_lead : DS :=
    (dSeq (dFor (dEnum (dCons (dVar 0) dNil)) (dgTup 2 (dgCons (dgName 1) (dgCons (dgName 2) dgNil))) (dIf (dTest (dOp dNe (dVar 2) (dC (.int 0)))) (dRet (dVar 1)) dNext))
    (dRet (dC .non)))
theorem l_lead : ∀ xs μ Q, c_lead xs μ Q → xs.length = 1 := by
  intro xs μ Q ⟨_, _, e, _⟩
  subst e; rfl
theorem r_lead : ∀ xs μ Q, c_lead xs μ Q → b_lead (pureEnds μ Q) (startD ["row", "place", "number"] xs) μ := K26.r_lead
def c_plus : Ct := K26.c_plus
def b_plus : DS :=
    (dRet (dCB fTuple (dCons (dLc (dZip (dCons (dVar 0) (dCons (dVar 1) dNil))) (dgTup 2 (dgCons (dgName 3) (dgCons (dgName 4) dgNil))) dYes (dOp dAdd (dVar 3) (dOp dMul (dVar 2) (dVar 4))) [3, 4]) dNil)))
theorem l_plus : ∀ xs μ Q, c_plus xs μ Q → xs.length = 3 := by
  intro xs μ Q ⟨_, _, _, e, _⟩
  subst e; rfl
theorem r_plus : ∀ xs μ Q, c_plus xs μ Q → b_plus (pureEnds μ Q) (startD ["row", "other", "times", "one", "its"] xs) μ := K26.r_plus
def c_mixed : Ct := K25.c_mixed
def b_mixed : DS :=
    (dRet (dCB fTuple (dCons (dLc (dZip (dCons (dVar 0) (dCons (dVar 1) dNil))) (dgTup 2 (dgCons (dgName 3) (dgCons (dgName 4) dgNil))) dYes (dOp dAdd (dOp dMul (dOp dIx (dVar 2) (dC (.int 0))) (dVar 3)) (dOp dMul (dOp dIx (dVar 2) (dC (.int 1))) (dVar 4))) [3, 4]) dNil)))
theorem l_mixed : ∀ xs μ Q, c_mixed xs μ Q → xs.length = 3 := K25.l_mixed
theorem r_mixed : ∀ xs μ Q, c_mixed xs μ Q → b_mixed (pureEnds μ Q) (startD ["row", "other", "multiples", "one", "its"] xs) μ := K25.r_mixed
def c_divided : Ct := K25.c_divided
def b_divided : DS :=
    (dSeq (dAsg (dLst (dCons (dTup (dCons (dVar 0) (dCons (dC (.int 1)) (dCons (dC (.int 0)) dNil)))) (dCons (dTup (dCons (dVar 1) (dCons (dC (.int 0)) (dCons (dC (.int 1)) dNil)))) dNil))) (dgName 2))
    (dSeq (dWhile (dTest (dOp dNe (dOp dIx (dOp dIx (dVar 2) (dC (.int 1))) (dC (.int 0))) (dC (.int 0)))) (dAsg (dLst (dCons (dOp dIx (dVar 2) (dC (.int 1))) (dCons (dCall c_plus (dCons (dOp dIx (dVar 2) (dC (.int 0))) (dCons (dOp dIx (dVar 2) (dC (.int 1))) (dCons (dNeg (dOp dFdivB (dOp dIx (dOp dIx (dVar 2) (dC (.int 0))) (dC (.int 0))) (dOp dIx (dOp dIx (dVar 2) (dC (.int 1))) (dC (.int 0))))) dNil)))) dNil))) (dgName 2)))
    (dSeq (dAsg (dOp dIx (dVar 2) (dC (.int 0))) (dgTup 3 (dgCons (dgName 3) (dgCons (dgName 4) (dgCons (dgName 5) dgNil)))))
    (dRet (dIfE (dTest (dOp dGe (dVar 3) (dC (.int 0)))) (dTup (dCons (dVar 3) (dCons (dTup (dCons (dVar 4) (dCons (dVar 5) dNil))) dNil))) (dTup (dCons (dNeg (dVar 3)) (dCons (dTup (dCons (dNeg (dVar 4)) (dCons (dNeg (dVar 5)) dNil))) dNil))))))))
theorem l_divided : ∀ xs μ Q, c_divided xs μ Q → xs.length = 2 := K25.l_divided
theorem r_divided : ∀ xs μ Q, c_divided xs μ Q → b_divided (pureEnds μ Q) (startD ["one", "other", "rows", "number", "first", "last"] xs) μ := K25.r_divided
def c_Growing___init__ (G : Addr) : Ct := K25.c_Growing___init__ G
def b_Growing___init__ (G : Addr) : DS :=
    (dSeq (dgFld G "width" (dVar 0) (dVar 1))
    (dgFld G "rows" (dVar 0) dDict0))
theorem l_Growing___init__ (G : Addr) : ∀ xs μ Q, c_Growing___init__ G xs μ Q → xs.length = 2 := K25.l_Growing___init__ G
theorem r_Growing___init__ (G : Addr) : ∀ xs μ Q, c_Growing___init__ G xs μ Q → b_Growing___init__ G (spEnds Q) (startD ["self", "width"] xs) μ := K25.r_Growing___init__ G
def c_Growing_tidy (G : Addr) : Ct := K25.c_Growing_tidy G
def b_Growing_tidy (G : Addr) : DS :=
    (dFor (dRange2 (dCons (dOp dAdd (dVar 1) (dC (.int 1))) (dCons (dFld G "width" (dVar 0)) dNil))) (dgName 2) (dIf (dTest (dDIn false (dVar 2) (dFld G "rows" (dVar 0)))) (dSeq (dAsg (dDGet (dFld G "rows" (dVar 0)) (dVar 2)) (dgName 3))
    (dAsg (dCall c_plus (dCons (dDGet (dFld G "rows" (dVar 0)) (dVar 1)) (dCons (dVar 3) (dCons (dNeg (dOp dFdivB (dOp dIx (dDGet (dFld G "rows" (dVar 0)) (dVar 1)) (dVar 2)) (dOp dIx (dVar 3) (dVar 2)))) dNil)))) (dgDIx (dFld G "rows" (dVar 0)) (dVar 1)))) dNext))
theorem l_Growing_tidy (G : Addr) : ∀ xs μ Q, c_Growing_tidy G xs μ Q → xs.length = 2 := K25.l_Growing_tidy G
theorem r_Growing_tidy (G : Addr) : ∀ xs μ Q, c_Growing_tidy G xs μ Q → b_Growing_tidy G (spEnds Q) (startD ["self", "place", "other", "held"] xs) μ := K25.r_Growing_tidy G
def c_Growing_add (G : Addr) : Ct := K25.c_Growing_add G
def b_Growing_add (G : Addr) : DS :=
    (dSeq (dPar 2 3 (dCons (dCB fTuple (dCons (dVar 1) dNil)) (dCons (dC (.bl false)) dNil)))
    (dSeq (dFor (dRange1 (dCons (dFld G "width" (dVar 0)) dNil)) (dgName 4) (dSeq (dIf (dTest (dOp dEq (dOp dIx (dVar 2) (dVar 4)) (dC (.int 0)))) dCont dNext)
    (dSeq (dIf (dTest (dDIn true (dVar 4) (dFld G "rows" (dVar 0)))) (dSeq (dAsg (dIfE (dTest (dOp dGt (dOp dIx (dVar 2) (dVar 4)) (dC (.int 0)))) (dVar 2) (dCB fTuple (dCons (dLc (dIter (dVar 2)) (dgName 9) dYes (dNeg (dVar 9)) [9]) dNil))) (dgDIx (dFld G "rows" (dVar 0)) (dVar 4)))
    (dSeq (dDrop (dMeth G "tidy" (c_Growing_tidy G) (dVar 0) (dCons (dVar 4) dNil)))
    (dRet (dC (.bl true))))) dNext)
    (dSeq (dAsg (dDGet (dFld G "rows" (dVar 0)) (dVar 4)) (dgName 5))
    (dSeq (dIf (dTest (dOp dEq (dOp dMod (dOp dIx (dVar 2) (dVar 4)) (dOp dIx (dVar 5) (dVar 4))) (dC (.int 0)))) (dSeq (dAsg (dCall c_plus (dCons (dVar 2) (dCons (dVar 5) (dCons (dNeg (dOp dFdivB (dOp dIx (dVar 2) (dVar 4)) (dOp dIx (dVar 5) (dVar 4)))) dNil)))) (dgName 2))
    dCont) dNext)
    (dSeq (dAsg (dCall c_divided (dCons (dOp dIx (dVar 5) (dVar 4)) (dCons (dOp dIx (dVar 2) (dVar 4)) dNil))) (dgTup 2 (dgCons (dgName 6) (dgCons (dgName 7) dgNil))))
    (dSeq (dAsg (dCall c_mixed (dCons (dVar 5) (dCons (dVar 2) (dCons (dTup (dCons (dNeg (dOp dFdivB (dOp dIx (dVar 2) (dVar 4)) (dVar 6))) (dCons (dOp dFdivB (dOp dIx (dVar 5) (dVar 4)) (dVar 6)) dNil))) dNil)))) (dgName 8))
    (dSeq (dAsg (dTup (dCons (dCall c_mixed (dCons (dVar 5) (dCons (dVar 2) (dCons (dVar 7) dNil)))) (dCons (dVar 8) (dCons (dC (.bl true)) dNil)))) (dgTup 3 (dgCons (dgDIx (dFld G "rows" (dVar 0)) (dVar 4)) (dgCons (dgName 2) (dgCons (dgName 3) dgNil)))))
    (dDrop (dMeth G "tidy" (c_Growing_tidy G) (dVar 0) (dCons (dVar 4) dNil)))))))))))
    (dRet (dVar 3))))
theorem l_Growing_add (G : Addr) : ∀ xs μ Q, c_Growing_add G xs μ Q → xs.length = 2 := K25.l_Growing_add G
theorem r_Growing_add (G : Addr) : ∀ xs μ Q, c_Growing_add G xs μ Q → b_Growing_add G (spEnds Q) (startD ["self", "row", "left", "is_new", "place", "held", "number", "multiples", "away", "one"] xs) μ := K25.r_Growing_add G
def c_Growing_basis (G : Addr) : Ct := K25.c_Growing_basis G
def b_Growing_basis (G : Addr) : DS :=
    (dSeq (dFor (dRangeDown (dCons (dOp (dI0 fun i j => .int (i - j)) (dFld G "width" (dVar 0)) (dC (.int 1))) (dCons (dNeg (dC (.int 1))) (dCons (dNeg (dC (.int 1))) dNil)))) (dgName 1) (dIf (dTest (dDIn false (dVar 1) (dFld G "rows" (dVar 0)))) (dDrop (dMeth G "tidy" (c_Growing_tidy G) (dVar 0) (dCons (dVar 1) dNil))) dNext))
    (dRet (dCB fTuple (dCons (dLc (dRange1 (dCons (dFld G "width" (dVar 0)) dNil)) (dgName 1) (dTest (dDIn false (dVar 1) (dFld G "rows" (dVar 0)))) (dDGet (dFld G "rows" (dVar 0)) (dVar 1)) [1]) dNil))))
theorem l_Growing_basis (G : Addr) : ∀ xs μ Q, c_Growing_basis G xs μ Q → xs.length = 1 := K25.l_Growing_basis G
theorem r_Growing_basis (G : Addr) : ∀ xs μ Q, c_Growing_basis G xs μ Q → b_Growing_basis G (spEnds Q) (startD ["self", "place"] xs) μ := K25.r_Growing_basis G
def b_hermite (G : Addr) : DS :=
    (dSeq (dAsg (dMake G (c_Growing___init__ G) (dCons (dVar 1) dNil)) (dgName 2))
    (dSeq (dFor (dIter (dVar 0)) (dgName 3) (dDrop (dMeth G "add" (c_Growing_add G) (dVar 2) (dCons (dVar 3) dNil))))
    (dRet (dMeth G "basis" (c_Growing_basis G) (dVar 2) dNil))))
theorem l_hermite : ∀ xs μ Q, c_hermite xs μ Q → xs.length = 2 := K25.l_hermite
theorem r_hermite (G : Addr) : ∀ xs μ Q, c_hermite xs μ Q → b_hermite G (pureEnds μ Q) (startD ["rows", "width", "found", "row"] xs) μ := K25.r_hermite G
def c_left_of : Ct := K26.c_left_of
def b_left_of : DS :=
    (dSeq (dAsg (dCB fTuple (dCons (dVar 1) dNil)) (dgName 2))
    (dSeq (dFor (dIter (dVar 0)) (dgName 3) (dSeq (dAsg (dCall c_lead (dCons (dVar 3) dNil)) (dgName 4))
    (dAsg (dCall c_plus (dCons (dVar 2) (dCons (dVar 3) (dCons (dNeg (dOp dFdiv (dOp dIx (dVar 2) (dVar 4)) (dOp dIx (dVar 3) (dVar 4)))) dNil)))) (dgName 2))))
    (dRet (dVar 2))))
theorem l_left_of : ∀ xs μ Q, c_left_of xs μ Q → xs.length = 2 := by
  intro xs μ Q ⟨_, _, e, _⟩
  subst e; rfl
theorem r_left_of : ∀ xs μ Q, c_left_of xs μ Q → b_left_of (pureEnds μ Q) (startD ["basis", "row", "left", "held", "place"] xs) μ := K26.r_left_of
def b_is_in : DS :=
    (dRet (dOp (dIsN false) (dCall c_lead (dCons (dCall c_left_of (dCons (dVar 0) (dCons (dVar 1) dNil))) dNil)) (dC .non)))
theorem l_is_in : ∀ xs μ Q, c_is_in xs μ Q → xs.length = 2 := K26.l_is_in
theorem r_is_in : ∀ xs μ Q, c_is_in xs μ Q → b_is_in (pureEnds μ Q) (startD ["basis", "row"] xs) μ := K26.r_is_in
def b__law_draw : DS :=
    (dSeq (dIf (dTest (dOp dLt (dVar 1) (dC (.int 2)))) (dRet (dC (.int 0))) dNext)
    (dSeq (dIf (dTest (dOp dGt (dOp dIx (dVar 0) (dC (.int 2))) (dC (.int 0)))) (dSeq (dAsg (dOp dMod (dCB fInt (dCons (dOp dIx (dVar 0) (dC (.int 2))) dNil)) (dVar 1)) (dgName 2))
    (dSeq (dAsg (dOp dFdiv (dCB fInt (dCons (dOp dIx (dVar 0) (dC (.int 2))) dNil)) (dVar 1)) (dgIx (dVar 0) (dC (.int 2))))
    (dRet (dVar 2)))) dNext)
    (dSeq (dAsg (dOp dIx (dVar 0) (dC (.int 1))) (dgName 3))
    (dSeq (dAsg (dOp dAdd (dVar 3) (dC (.int 1))) (dgIx (dVar 0) (dC (.int 1))))
    (dSeq (dAsg (dOp dAdd (dOp dMul (dC (.int 71929)) (dVar 3)) (dC (.int 9703))) (dgName 4))
    (dSeq (dIf (dTest (dOp dNe (dOp dIx (dVar 0) (dC (.int 0))) (dLst dNil))) (dAsg (dOp dIx (dOp dIx (dVar 0) (dC (.int 0))) (dOp dMod (dCB fInt (dCons (dVar 3) dNil)) (dCB fLen (dCons (dOp dIx (dVar 0) (dC (.int 0))) dNil)))) (dgName 4)) dNext)
    (dSeq (dIf (dAndT (dTest (dOp dLt (dVar 3) (dCB fLen (dCons (dOp dIx (dVar 0) (dC (.int 0))) dNil)))) (dTest (dOp dGe (dCB fAbs (dCons (dVar 4) dNil)) (dOp dPow (dC (.int 10)) (dC (.int 18)))))) (dSeq (dAsg (dOp dAdd (dOp dMul (dC (.int 2)) (dOp (dI0 fun i j => .int (i - j)) (dCB fAbs (dCons (dVar 4) dNil)) (dOp dPow (dC (.int 10)) (dC (.int 18))))) (dCB fInt (dCons (dOp dLt (dVar 4) (dC (.int 0))) dNil))) (dgName 5))
    (dSeq (dAsg (dOp dFdiv (dCB fInt (dCons (dVar 5) dNil)) (dVar 1)) (dgIx (dVar 0) (dC (.int 2))))
    (dRet (dOp dMod (dCB fInt (dCons (dVar 5) dNil)) (dVar 1))))) dNext)
    (dSeq (dAsg (dOp dMod (dCB fInt (dCons (dOp dPow (dOp dAdd (dOp dAdd (dOp dMod (dCB fInt (dCons (dVar 4) dNil)) (dC (.int 2147483549))) (dOp dMul (dC (.int 34579)) (dVar 3))) (dC (.int 9703))) (dC (.int 3))) dNil)) (dC (.int 2147483629))) (dgName 6))
    (dSeq (dAsg (dOp dMod (dCB fInt (dCons (dOp dPow (dOp dAdd (dOp dAdd (dOp dMul (dVar 6) (dOp dAdd (dOp dMul (dC (.int 2)) (dVar 3)) (dC (.int 6695)))) (dOp dMul (dOp dMul (dC (.int 71929)) (dVar 3)) (dVar 3))) (dC (.int 34579))) (dC (.int 5))) dNil)) (dC (.int 2147483563))) (dgName 6))
    (dRet (dOp dMod (dCB fInt (dCons (dOp dFdiv (dVar 6) (dC (.int 16))) dNil)) (dVar 1))))))))))))
theorem l__law_draw : ∀ xs μ Q, c__law_draw xs μ Q → xs.length = 2 := l_draw
theorem r__law_draw : ∀ xs μ Q, c__law_draw xs μ Q → b__law_draw (spEnds Q) (startD ["pen", "many", "digit", "at", "cell", "great", "mixed_v"] xs) μ := r_draw (by decide) (by decide) (by decide) (by decide)
def b__law_pen : DS := b_pen
theorem l__law_pen : ∀ xs μ Q, c__law_pen xs μ Q → xs.length = 1 := l_pen
theorem r__law_pen : ∀ xs μ Q, c__law_pen xs μ Q → b__law_pen (spEnds Q) (startD ["script"] xs) μ := r_pen
def c__law_pick : Ct := K26.c__law_pick
def b__law_pick : DS :=
    (dRet (dOp dIx (dVar 1) (dCall c__law_draw (dCons (dVar 0) (dCons (dCB fLen (dCons (dVar 1) dNil)) dNil)))))
theorem l__law_pick : ∀ xs μ Q, c__law_pick xs μ Q → xs.length = 2 := K26.l__law_pick
theorem r__law_pick : ∀ xs μ Q, c__law_pick xs μ Q → b__law_pick (spEnds Q) (startD ["pen", "some"] xs) μ := K26.r__law_pick
def b__law_hermite : DS :=
    (dSeq (dPar 2 3 (dCons (dLc (dIter (dVar 0)) (dgName 11) dYes (dCB fList (dCons (dVar 11) dNil)) [11]) (dCons (dLst dNil) dNil)))
    (dSeq (dFor (dRange1 (dCons (dVar 1) dNil)) (dgName 4) (dSeq (dAsg (dLc (dIter (dVar 2)) (dgName 11) (dTest (dOp dNe (dOp dIx (dVar 11) (dVar 4)) (dC (.int 0)))) (dVar 11) [11]) (dgName 5))
    (dSeq (dAsg (dLc (dIter (dVar 2)) (dgName 11) (dTest (dOp dEq (dOp dIx (dVar 11) (dVar 4)) (dC (.int 0)))) (dVar 11) [11]) (dgName 6))
    (dSeq (dWhile (dTest (dOp dGt (dCB fLen (dCons (dVar 5) dNil)) (dC (.int 1)))) (dSeq (dPar 7 8 (dCons (dLc (dIter (dVar 5)) (dgName 11) dYes (dCB fAbs (dCons (dOp dIx (dVar 11) (dVar 4)) dNil)) [11]) (dCons (dLst dNil) dNil)))
    (dSeq (dAsg (dBM mIndex (dVar 7) (dCons (dCB fMin (dCons (dVar 7) dNil)) dNil)) (dgName 9))
    (dSeq (dAsg (dOp dIx (dVar 5) (dVar 9)) (dgName 10))
    (dSeq (dFor (dIter (dOp dAdd (dSl (dVar 5) dNoPart (dPart (dVar 9))) (dSl (dVar 5) (dPart (dOp dAdd (dVar 9) (dC (.int 1)))) dNoPart))) (dgName 11) (dSeq (dAsg (dOp dFdivB (dOp dIx (dVar 11) (dVar 4)) (dOp dIx (dVar 10) (dVar 4))) (dgName 12))
    (dSeq (dAsg (dLc (dZip (dCons (dVar 11) (dCons (dVar 10) dNil))) (dgTup 2 (dgCons (dgName 13) (dgCons (dgName 14) dgNil))) dYes (dOp (dI0 fun i j => .int (i - j)) (dVar 13) (dOp dMul (dVar 12) (dVar 14))) [13, 14]) (dgName 11))
    (dIf (dTest (dOp dNe (dOp dIx (dVar 11) (dVar 4)) (dC (.int 0)))) (dDrop (dBM mAppend (dVar 8) (dCons (dVar 11) dNil))) (dDrop (dBM mAppend (dVar 6) (dCons (dVar 11) dNil)))))))
    (dAsg (dOp dAdd (dLst (dCons (dVar 10) dNil)) (dVar 8)) (dgName 5)))))))
    (dSeq (dIf (dTest (dOp dNe (dVar 5) (dLst dNil))) (dSeq (dAsg (dIfE (dTest (dOp dGt (dOp dIx (dOp dIx (dVar 5) (dC (.int 0))) (dVar 4)) (dC (.int 0)))) (dOp dIx (dVar 5) (dC (.int 0))) (dLc (dIter (dOp dIx (dVar 5) (dC (.int 0)))) (dgName 13) dYes (dNeg (dVar 13)) [13])) (dgName 11))
    (dAsg (dOp dAdd (dLc (dIter (dVar 3)) (dgName 15) dYes (dLc (dZip (dCons (dVar 15) (dCons (dVar 11) dNil))) (dgTup 2 (dgCons (dgName 13) (dgCons (dgName 14) dgNil))) dYes (dOp (dI0 fun i j => .int (i - j)) (dVar 13) (dOp dMul (dOp dFdivB (dOp dIx (dVar 15) (dVar 4)) (dOp dIx (dVar 11) (dVar 4))) (dVar 14))) [13, 14]) [15]) (dLst (dCons (dVar 11) dNil))) (dgName 3))) dNext)
    (dAsg (dLc (dIter (dVar 6)) (dgName 11) (dTest (dOp dNe (dLc (dIter (dVar 11)) (dgName 13) (dTest (dOp dNe (dVar 13) (dC (.int 0)))) (dVar 13) [13]) (dLst dNil))) (dVar 11) [11]) (dgName 2)))))))
    (dRet (dCB fTuple (dCons (dLc (dIter (dVar 3)) (dgName 11) dYes (dCB fTuple (dCons (dVar 11) dNil)) [11]) dNil)))))
theorem l__law_hermite : ∀ xs μ Q, c__law_hermite xs μ Q → xs.length = 2 := K25.l__law_hermite
theorem r__law_hermite : ∀ xs μ Q, c__law_hermite xs μ Q → b__law_hermite (pureEnds μ Q) (startD ["rows", "width", "left", "found", "at", "some", "rest", "sizes", "later", "spot", "first", "row", "by", "number", "its", "one"] xs) μ := K25.r__law_hermite
def b__law_row : DS :=
    (dRet (dCB fTuple (dCons (dLc (dRange1 (dCons (dVar 1) dNil)) (dgName 2) dYes (dCall c__law_pick (dCons (dVar 0) (dCons (dLst (dCons (dC (.int 0)) (dCons (dC (.int 0)) (dCons (dC (.int 1)) (dCons (dC (.int 2)) (dCons (dC (.int 3)) (dCons (dC (.int 4)) (dCons (dC (.int 6)) (dCons (dNeg (dC (.int 1))) (dCons (dNeg (dC (.int 2))) (dCons (dNeg (dC (.int 3))) (dCons (dC (.int 12)) (dCons (dOp (dI0 fun i j => .int (i - j)) (dCall c__law_draw (dCons (dVar 0) (dCons (dC (.int 41)) dNil))) (dC (.int 20))) dNil))))))))))))) dNil))) [2]) dNil)))
theorem l__law_row : ∀ xs μ Q, c__law_row xs μ Q → xs.length = 2 := K26.l__law_row
theorem r__law_row : ∀ xs μ Q, c__law_row xs μ Q → b__law_row (spEnds Q) (startD ["pen", "width", "at"] xs) μ := K26.r__law_row
section
variable {P : Program} {w : World} {K : PySem.W.Frag} {mg : Str → Option Value} {base : Heap}
set_option maxHeartbeats 2000000 in
theorem ok_lead (T : Tx K mg) : FnG P w K mg base 33 T.a_lead T.d_lead ["row"] c_lead := by
  have SC := sc_lead
  exact Fun.okP (k := 32) (ds := b_lead) T.F_lead sc_lead l_lead (fun cdv A outer s H hr am => ⟨_, (qss_cons (qs_for PassesOwn.never rfl (qi_enum T.z_enumerate (qa_cons (qv 0) qa_nil)) (qg_tup rfl (qgs_cons (qg_name (i := 1) SC.nd) (qgs_cons (qg_name (i := 2) SC.nd) qgs_nil))) (qss_one (qs_if (qt_ne hr (qv 2) q_int) (qss_one (qs_ret (qv 1))) qss_nil)))
    (qss_one (qs_ret q_non)))⟩) r_lead
set_option maxHeartbeats 2000000 in
theorem ok_plus (T : Tx K mg) : FnG P w K mg base 33 T.a_plus T.d_plus ["row", "other", "times"] c_plus := by
  have SC := sc_plus
  exact Fun.okP (k := 32) (ds := b_plus) T.F_plus sc_plus l_plus (fun cdv A outer s H hr am => ⟨_, (qss_one (qs_ret (q_tuple T.z_tuple (qa_cons (q_lc [("one", 3), ("its", 4)] rfl SC.nd (qi_zip T.z_zip (qa_cons (qv 0) (qa_cons (qv 1) qa_nil))) (blkOk_by (by kernel_rfl)) (fun _ _ _ _ _ => ⟨_, (qg_tup rfl (qgs_cons (qg_name (i := 3) SC.nd) (qgs_cons (qg_name (i := 4) SC.nd) qgs_nil))), (is_tup (is_cons (is_name (by decide)) (is_cons (is_name (by decide)) is_nil)))⟩) (fun _ _ _ _ _ => ⟨_, qts_nil⟩) (fun _ _ _ _ _ => ⟨_, (q_add (qv 3) (q_mul (qv 2) (qv 4)))⟩)) qa_nil))))⟩) r_plus
set_option maxHeartbeats 2000000 in
theorem ok_mixed (T : Tx K mg) : FnG P w K mg base 33 T.a_mixed T.d_mixed ["row", "other", "multiples"] c_mixed := by
  have SC := sc_mixed
  exact Fun.okP (k := 32) (ds := b_mixed) T.F_mixed sc_mixed l_mixed (fun cdv A outer s H hr am => ⟨_, (qss_one (qs_ret (q_tuple T.z_tuple (qa_cons (q_lc [("one", 3), ("its", 4)] rfl SC.nd (qi_zip T.z_zip (qa_cons (qv 0) (qa_cons (qv 1) qa_nil))) (blkOk_by (by kernel_rfl)) (fun _ _ _ _ _ => ⟨_, (qg_tup rfl (qgs_cons (qg_name (i := 3) SC.nd) (qgs_cons (qg_name (i := 4) SC.nd) qgs_nil))), (is_tup (is_cons (is_name (by decide)) (is_cons (is_name (by decide)) is_nil)))⟩) (fun _ _ _ _ _ => ⟨_, qts_nil⟩) (fun _ _ _ _ _ => ⟨_, (q_add (q_mul (q_ix (qv 2) q_int) (qv 3)) (q_mul (q_ix (qv 2) q_int) (qv 4)))⟩)) qa_nil))))⟩) r_mixed
set_option maxHeartbeats 2000000 in
theorem ok_divided (T : Tx K mg) : FnG P w K mg base 34 T.a_divided T.d_divided ["one", "other"] c_divided := by
  have SC := sc_divided
  have F_plus := (ok_plus (P := P) (w := w) (base := base) T).mono (k := 33) (by decide)
  exact Fun.okP (k := 33) (ds := b_divided) T.F_divided sc_divided l_divided (fun cdv A outer s H hr am => ⟨_, (qss_cons (qs_set 2 SC.nd (q_lst (qa_cons (q_tup (qa_cons (qv 0) (qa_cons q_int (qa_cons q_int qa_nil)))) (qa_cons (q_tup (qa_cons (qv 1) (qa_cons q_int (qa_cons q_int qa_nil)))) qa_nil))))
    (qss_cons (qs_while PassesOwn.never (qt_ne hr (q_ix (q_ix (qv 2) q_int) q_int) q_int) (qss_one (qs_set 2 SC.nd (q_lst (qa_cons (q_ix (qv 2) q_int) (qa_cons (q_call F_plus am hr T.m_plus T.F_plus.kp T.b_plus (qa_cons (q_ix (qv 2) q_int) (qa_cons (q_ix (qv 2) q_int) (qa_cons (q_neg (q_fdivB am hr (q_ix (q_ix (qv 2) q_int) q_int) (q_ix (q_ix (qv 2) q_int) q_int))) qa_nil)))) qa_nil))))))
    (qss_cons (qs_asg (q_ix (qv 2) q_int) (qg_tup rfl (qgs_cons (qg_name (i := 3) SC.nd) (qgs_cons (qg_name (i := 4) SC.nd) (qgs_cons (qg_name (i := 5) SC.nd) qgs_nil)))))
    (qss_one (qs_ret (q_ifE (qt_ge (qv 3) q_int) (q_tup (qa_cons (qv 3) (qa_cons (q_tup (qa_cons (qv 4) (qa_cons (qv 5) qa_nil))) qa_nil))) (q_tup (qa_cons (q_neg (qv 3)) (qa_cons (q_tup (qa_cons (q_neg (qv 4)) (qa_cons (q_neg (qv 5)) qa_nil))) qa_nil)))))))))⟩) r_divided
set_option maxHeartbeats 2000000 in
theorem ok_Growing___init__ (T : Tx K mg) : FnG P w K mg base 33 T.a_Growing___init__ T.d_Growing___init__ ["self", "width"] (c_Growing___init__ T.C_G) := by
  have SC := sc_Growing___init__
  exact Fun.okD (k := 32) (ds := (b_Growing___init__ T.C_G)) T.F_Growing___init__ sc_Growing___init__ (l_Growing___init__ T.C_G) (fun cdv A outer s H hr am => ⟨_, (qss_cons (qs_fld T.cl_G T.na_width (qv 0) (qv 1))
    (qss_one (qs_fld T.cl_G T.na_rows (qv 0) q_dnew)))⟩) (r_Growing___init__ T.C_G)
set_option maxHeartbeats 2000000 in
theorem ok_Growing_tidy (T : Tx K mg) : FnG P w K mg base 34 T.a_Growing_tidy T.d_Growing_tidy ["self", "place"] (c_Growing_tidy T.C_G) := by
  have SC := sc_Growing_tidy
  have F_plus := (ok_plus (P := P) (w := w) (base := base) T).mono (k := 33) (by decide)
  exact Fun.okD (k := 33) (ds := (b_Growing_tidy T.C_G)) T.F_Growing_tidy sc_Growing_tidy (l_Growing_tidy T.C_G) (fun cdv A outer s H hr am => ⟨_, (qss_one (qs_for PassesOwn.never rfl (qi_range2 T.z_range (qa_cons (q_add (qv 1) q_int) (qa_cons (q_fld T.cl_G T.na_width (qv 0)) qa_nil))) (qg_name (i := 2) SC.nd) (qss_one (qs_if (qt_din hr (qv 2) (q_fld T.cl_G T.na_rows (qv 0))) (qss_cons (qs_set 3 SC.nd (q_dget hr (q_fld T.cl_G T.na_rows (qv 0)) (qv 2)))
    (qss_one (qs_asg (q_call F_plus am hr T.m_plus T.F_plus.kp T.b_plus (qa_cons (q_dget hr (q_fld T.cl_G T.na_rows (qv 0)) (qv 1)) (qa_cons (qv 3) (qa_cons (q_neg (q_fdivB am hr (q_ix (q_dget hr (q_fld T.cl_G T.na_rows (qv 0)) (qv 1)) (qv 2)) (q_ix (qv 3) (qv 2)))) qa_nil)))) (qg_dix hr (q_fld T.cl_G T.na_rows (qv 0)) (qv 1))))) qss_nil))))⟩) (r_Growing_tidy T.C_G)
set_option maxHeartbeats 2000000 in
theorem ok_Growing_add (T : Tx K mg) : FnG P w K mg base 35 T.a_Growing_add T.d_Growing_add ["self", "row"] (c_Growing_add T.C_G) := by
  have SC := sc_Growing_add
  have F_Growing_tidy := (ok_Growing_tidy (P := P) (w := w) (base := base) T).mono (k := 34) (by decide)
  have F_divided := (ok_divided (P := P) (w := w) (base := base) T).mono (k := 34) (by decide)
  have F_mixed := (ok_mixed (P := P) (w := w) (base := base) T).mono (k := 34) (by decide)
  have F_plus := (ok_plus (P := P) (w := w) (base := base) T).mono (k := 34) (by decide)
  exact Fun.okD (k := 34) (ds := (b_Growing_add T.C_G)) T.F_Growing_add sc_Growing_add (l_Growing_add T.C_G) (fun cdv A outer s H hr am => ⟨_, (qss_cons (qs_par 2 3 rfl SC.nd (qa_cons (q_tuple T.z_tuple (qa_cons (qv 1) qa_nil)) (qa_cons q_bl qa_nil)))
    (qss_cons (qs_for PassesOwn.never rfl (qi_range1 T.z_range (qa_cons (q_fld T.cl_G T.na_width (qv 0)) qa_nil)) (qg_name (i := 4) SC.nd) (qss_cons (qs_if (qt_eq hr (q_ix (qv 2) (qv 4)) q_int) (qss_one qs_continue) qss_nil)
    (qss_cons (qs_if (qt_dnotin hr (qv 4) (q_fld T.cl_G T.na_rows (qv 0))) (qss_cons (qs_asg (q_ifE (qt_gt (q_ix (qv 2) (qv 4)) q_int) (qv 2) (q_tuple T.z_tuple (qa_cons (q_lc [("one", 9)] rfl SC.nd (qi_seq (qv 2)) (blkOk_by (by kernel_rfl)) (fun _ _ _ _ _ => ⟨_, (qg_name (i := 9) SC.nd), (is_name (by decide))⟩) (fun _ _ _ _ _ => ⟨_, qts_nil⟩) (fun _ _ _ _ _ => ⟨_, (q_neg (qv 9))⟩)) qa_nil))) (qg_dix hr (q_fld T.cl_G T.na_rows (qv 0)) (qv 4)))
    (qss_cons (qs_expr (q_meth (qv 0) T.cl_G T.mt_Growing_tidy F_Growing_tidy am hr T.b_Growing_tidy (qa_cons (qv 4) qa_nil)))
    (qss_one (qs_ret q_bl)))) qss_nil)
    (qss_cons (qs_set 5 SC.nd (q_dget hr (q_fld T.cl_G T.na_rows (qv 0)) (qv 4)))
    (qss_cons (qs_if (qt_eq hr (q_mod (q_ix (qv 2) (qv 4)) (q_ix (qv 5) (qv 4))) q_int) (qss_cons (qs_set 2 SC.nd (q_call F_plus am hr T.m_plus T.F_plus.kp T.b_plus (qa_cons (qv 2) (qa_cons (qv 5) (qa_cons (q_neg (q_fdivB am hr (q_ix (qv 2) (qv 4)) (q_ix (qv 5) (qv 4)))) qa_nil)))))
    (qss_one qs_continue)) qss_nil)
    (qss_cons (qs_asg (q_call F_divided am hr T.m_divided T.F_divided.kp T.b_divided (qa_cons (q_ix (qv 5) (qv 4)) (qa_cons (q_ix (qv 2) (qv 4)) qa_nil))) (qg_tup rfl (qgs_cons (qg_name (i := 6) SC.nd) (qgs_cons (qg_name (i := 7) SC.nd) qgs_nil))))
    (qss_cons (qs_set 8 SC.nd (q_call F_mixed am hr T.m_mixed T.F_mixed.kp T.b_mixed (qa_cons (qv 5) (qa_cons (qv 2) (qa_cons (q_tup (qa_cons (q_neg (q_fdivB am hr (q_ix (qv 2) (qv 4)) (qv 6))) (qa_cons (q_fdivB am hr (q_ix (qv 5) (qv 4)) (qv 6)) qa_nil))) qa_nil)))))
    (qss_cons (qs_asg (q_tup (qa_cons (q_call F_mixed am hr T.m_mixed T.F_mixed.kp T.b_mixed (qa_cons (qv 5) (qa_cons (qv 2) (qa_cons (qv 7) qa_nil)))) (qa_cons (qv 8) (qa_cons q_bl qa_nil)))) (qg_tup rfl (qgs_cons (qg_dix hr (q_fld T.cl_G T.na_rows (qv 0)) (qv 4)) (qgs_cons (qg_name (i := 2) SC.nd) (qgs_cons (qg_name (i := 3) SC.nd) qgs_nil)))))
    (qss_one (qs_expr (q_meth (qv 0) T.cl_G T.mt_Growing_tidy F_Growing_tidy am hr T.b_Growing_tidy (qa_cons (qv 4) qa_nil))))))))))))
    (qss_one (qs_ret (qv 3)))))⟩) (r_Growing_add T.C_G)
set_option maxHeartbeats 2000000 in
theorem ok_Growing_basis (T : Tx K mg) : FnG P w K mg base 35 T.a_Growing_basis T.d_Growing_basis ["self"] (c_Growing_basis T.C_G) := by
  have SC := sc_Growing_basis
  have F_Growing_tidy := (ok_Growing_tidy (P := P) (w := w) (base := base) T).mono (k := 34) (by decide)
  exact Fun.okD (k := 34) (ds := (b_Growing_basis T.C_G)) T.F_Growing_basis sc_Growing_basis (l_Growing_basis T.C_G) (fun cdv A outer s H hr am => ⟨_, (qss_cons (qs_for PassesOwn.never rfl (qi_rangeDown T.z_range (qa_cons (q_sub (q_fld T.cl_G T.na_width (qv 0)) q_int) (qa_cons (q_neg q_int) (qa_cons (q_neg q_int) qa_nil)))) (qg_name (i := 1) SC.nd) (qss_one (qs_if (qt_din hr (qv 1) (q_fld T.cl_G T.na_rows (qv 0))) (qss_one (qs_expr (q_meth (qv 0) T.cl_G T.mt_Growing_tidy F_Growing_tidy am hr T.b_Growing_tidy (qa_cons (qv 1) qa_nil)))) qss_nil)))
    (qss_one (qs_ret (q_tuple T.z_tuple (qa_cons (q_lc [("place", 1)] rfl SC.nd (qi_range1 T.z_range (qa_cons (q_fld T.cl_G T.na_width (qv 0)) qa_nil)) (blkOk_by (by kernel_rfl)) (fun _ _ _ _ _ => ⟨_, (qg_name (i := 1) SC.nd), (is_name (by decide))⟩) (fun _ _ _ _ _ => ⟨_, (qts_one (qt_din hr (qv 1) (q_fld T.cl_G T.na_rows (qv 0))))⟩) (fun _ _ _ _ _ => ⟨_, (q_dget hr (q_fld T.cl_G T.na_rows (qv 0)) (qv 1))⟩)) qa_nil)))))⟩) (r_Growing_basis T.C_G)
set_option maxHeartbeats 2000000 in
theorem ok_hermite (T : Tx K mg) : FnG P w K mg base 36 T.a_hermite T.d_hermite ["rows", "width"] c_hermite := by
  have SC := sc_hermite
  have F_Growing_add := (ok_Growing_add (P := P) (w := w) (base := base) T).mono (k := 35) (by decide)
  have F_Growing_basis := (ok_Growing_basis (P := P) (w := w) (base := base) T).mono (k := 35) (by decide)
  have M_Growing___init__ := (ok_Growing___init__ (P := P) (w := w) (base := base) T).mono (k := 34) (by decide)
  exact Fun.okP (k := 35) (ds := (b_hermite T.C_G)) T.F_hermite sc_hermite l_hermite (fun cdv A outer s H hr am => ⟨_, (qss_cons (qs_set 2 SC.nd (q_make T.mk_G M_Growing___init__ am hr T.m_G T.b_Growing___init__ (qa_cons (qv 1) qa_nil)))
    (qss_cons (qs_for PassesOwn.never rfl (qi_seq (qv 0)) (qg_name (i := 3) SC.nd) (qss_one (qs_expr (q_meth (qv 2) T.cl_G T.mt_Growing_add F_Growing_add am hr T.b_Growing_add (qa_cons (qv 3) qa_nil)))))
    (qss_one (qs_ret (q_meth0 (qv 2) T.cl_G T.mt_Growing_basis F_Growing_basis am hr T.b_Growing_basis)))))⟩) (r_hermite T.C_G)
set_option maxHeartbeats 2000000 in
theorem ok_left_of (T : Tx K mg) : FnG P w K mg base 34 T.a_left_of T.d_left_of ["basis", "row"] c_left_of := by
  have SC := sc_left_of
  have F_lead := (ok_lead (P := P) (w := w) (base := base) T).mono (k := 33) (by decide)
  have F_plus := (ok_plus (P := P) (w := w) (base := base) T).mono (k := 33) (by decide)
  exact Fun.okP (k := 33) (ds := b_left_of) T.F_left_of sc_left_of l_left_of (fun cdv A outer s H hr am => ⟨_, (qss_cons (qs_set 2 SC.nd (q_tuple T.z_tuple (qa_cons (qv 1) qa_nil)))
    (qss_cons (qs_for PassesOwn.never rfl (qi_seq (qv 0)) (qg_name (i := 3) SC.nd) (qss_cons (qs_set 4 SC.nd (q_call F_lead am hr T.m_lead T.F_lead.kp T.b_lead (qa_cons (qv 3) qa_nil)))
    (qss_one (qs_set 2 SC.nd (q_call F_plus am hr T.m_plus T.F_plus.kp T.b_plus (qa_cons (qv 2) (qa_cons (qv 3) (qa_cons (q_neg (q_fdiv (q_ix (qv 2) (qv 4)) (q_ix (qv 3) (qv 4)))) qa_nil))))))))
    (qss_one (qs_ret (qv 2)))))⟩) r_left_of
set_option maxHeartbeats 2000000 in
theorem ok_is_in (T : Tx K mg) : FnG P w K mg base 35 T.a_is_in T.d_is_in ["basis", "row"] c_is_in := by
  have SC := sc_is_in
  have F_lead := (ok_lead (P := P) (w := w) (base := base) T).mono (k := 34) (by decide)
  have F_left_of := (ok_left_of (P := P) (w := w) (base := base) T).mono (k := 34) (by decide)
  exact Fun.okP (k := 34) (ds := b_is_in) T.F_is_in sc_is_in l_is_in (fun cdv A outer s H hr am => ⟨_, (qss_one (qs_ret (q_isN (q_call F_lead am hr T.m_lead T.F_lead.kp T.b_lead (qa_cons (q_call F_left_of am hr T.m_left_of T.F_left_of.kp T.b_left_of (qa_cons (qv 0) (qa_cons (qv 1) qa_nil))) qa_nil)) q_non)))⟩) r_is_in
set_option maxHeartbeats 2000000 in
theorem ok_kernel (T : Tx K mg) : FnG P w K mg base 37 T.a_kernel T.d_kernel ["rows", "width"] c_kernel := by
  have SC := sc_kernel
  have F_hermite := (ok_hermite (P := P) (w := w) (base := base) T).mono (k := 36) (by decide)
  have F_lead := (ok_lead (P := P) (w := w) (base := base) T).mono (k := 36) (by decide)
  exact Fun.okP (k := 36) (ds := b_kernel) T.F_kernel sc_kernel l_kernel (fun cdv A outer s H hr am => ⟨_, (qss_cons (qs_set 2 SC.nd (q_len T.z_len (qa_cons (qv 0) qa_nil)))
    (qss_cons (qs_setLc 3 [("place", 4)] rfl SC.nd (qi_range1 T.z_range (qa_cons (qv 1) qa_nil)) (blkOk_by (by kernel_rfl)) (fun _ _ _ _ _ => ⟨_, (qg_name (i := 4) SC.nd), (is_name (by decide))⟩) (fun _ _ _ _ _ => ⟨_, qts_nil⟩) (fun _ _ _ _ _ => ⟨_, (q_tup (qa_star (q_lc [("row", 5)] rfl SC.nd (qi_seq (qv 0)) (blkOk_by (by kernel_rfl)) (fun _ _ _ _ _ => ⟨_, (qg_name (i := 5) SC.nd), (is_name (by decide))⟩) (fun _ _ _ _ _ => ⟨_, qts_nil⟩) (fun _ _ _ _ _ => ⟨_, (q_ix (qv 5) (qv 4))⟩)) (qa_star (q_lc [("at", 6)] rfl SC.nd (qi_range1 T.z_range (qa_cons (qv 1) qa_nil)) (blkOk_by (by kernel_rfl)) (fun _ _ _ _ _ => ⟨_, (qg_name (i := 6) SC.nd), (is_name (by decide))⟩) (fun _ _ _ _ _ => ⟨_, qts_nil⟩) (fun _ _ _ _ _ => ⟨_, (q_intC T.z_int (qa_cons (q_eq hr (qv 4) (qv 6)) qa_nil))⟩)) qa_nil)))⟩))
    (qss_one (qs_ret (q_tuple T.z_tuple (qa_cons (q_lc [("row", 5)] rfl SC.nd (qi_seq (q_call F_hermite am hr T.m_hermite T.F_hermite.kp T.b_hermite (qa_cons (qv 3) (qa_cons (q_add (qv 2) (qv 1)) qa_nil)))) (blkOk_by (by kernel_rfl)) (fun _ _ _ _ _ => ⟨_, (qg_name (i := 5) SC.nd), (is_name (by decide))⟩) (fun _ _ _ _ _ => ⟨_, (qts_one (qt_ge (q_call F_lead am hr T.m_lead T.F_lead.kp T.b_lead (qa_cons (qv 5) qa_nil)) (qv 2)))⟩) (fun _ _ _ _ _ => ⟨_, (q_slA (qv 5) (qo_some (qv 2)) qo_none)⟩)) qa_nil))))))⟩) r_kernel
set_option maxHeartbeats 2000000 in
theorem ok__law_pen (T : Tx K mg) : FnG P w K mg base 33 T.a__law_pen T.d__law_pen ["script"] c__law_pen := by
  have SC := sc__law_pen
  exact Fun.okD (k := 32) (ds := b__law_pen) T.F__law_pen sc__law_pen l__law_pen (fun cdv A outer s H hr am => ⟨_, (qss_one (qs_ret (q_lst (qa_cons (q_list T.z_list (qa_cons (q_sl (qv 0) qo_none (qo_some q_int)) qa_nil)) (qa_cons q_int (qa_cons q_int qa_nil))))))⟩) r__law_pen
set_option maxHeartbeats 2000000 in
theorem ok__law_draw (T : Tx K mg) : FnG P w K mg base 33 T.a__law_draw T.d__law_draw ["pen", "many"] c__law_draw := by
  have SC := sc__law_draw
  exact Fun.okD (k := 32) (ds := b__law_draw) T.F__law_draw sc__law_draw l__law_draw (fun cdv A outer s H hr am => ⟨_, (qss_cons (qs_if (qt_lt (qv 1) q_int) (qss_one (qs_ret q_int)) qss_nil)
    (qss_cons (qs_if (qt_gt (q_ix (qv 0) q_int) q_int) (qss_cons (qs_set 2 SC.nd (q_mod (q_intC T.z_int (qa_cons (q_ix (qv 0) q_int) qa_nil)) (qv 1)))
    (qss_cons (qs_asg (q_fdiv (q_intC T.z_int (qa_cons (q_ix (qv 0) q_int) qa_nil)) (qv 1)) (qg_ix (qv 0) q_int))
    (qss_one (qs_ret (qv 2))))) qss_nil)
    (qss_cons (qs_set 3 SC.nd (q_ix (qv 0) q_int))
    (qss_cons (qs_asg (q_add (qv 3) q_int) (qg_ix (qv 0) q_int))
    (qss_cons (qs_set 4 SC.nd (q_add (q_mul q_int (qv 3)) q_int))
    (qss_cons (qs_if (qt_ne hr (q_ix (qv 0) q_int) (q_lst qa_nil)) (qss_one (qs_set 4 SC.nd (q_ix (q_ix (qv 0) q_int) (q_mod (q_intC T.z_int (qa_cons (qv 3) qa_nil)) (q_len T.z_len (qa_cons (q_ix (qv 0) q_int) qa_nil)))))) qss_nil)
    (qss_cons (qs_if ((qw_and (qt_lt (qv 3) (q_len T.z_len (qa_cons (q_ix (qv 0) q_int) qa_nil))) (qw_and1 (qt_ge (q_abs T.z_abs (qa_cons (qv 4) qa_nil)) (q_pow q_int q_int))))).t (qss_cons (qs_set 5 SC.nd (q_add (q_mul q_int (q_sub (q_abs T.z_abs (qa_cons (qv 4) qa_nil)) (q_pow q_int q_int))) (q_intC T.z_int (qa_cons (q_lt (qv 4) q_int) qa_nil))))
    (qss_cons (qs_asg (q_fdiv (q_intC T.z_int (qa_cons (qv 5) qa_nil)) (qv 1)) (qg_ix (qv 0) q_int))
    (qss_one (qs_ret (q_mod (q_intC T.z_int (qa_cons (qv 5) qa_nil)) (qv 1)))))) qss_nil)
    (qss_cons (qs_set 6 SC.nd (q_mod (q_intC T.z_int (qa_cons (q_pow (q_add (q_add (q_mod (q_intC T.z_int (qa_cons (qv 4) qa_nil)) q_int) (q_mul q_int (qv 3))) q_int) q_int) qa_nil)) q_int))
    (qss_cons (qs_set 6 SC.nd (q_mod (q_intC T.z_int (qa_cons (q_pow (q_add (q_add (q_mul (qv 6) (q_add (q_mul q_int (qv 3)) q_int)) (q_mul (q_mul q_int (qv 3)) (qv 3))) q_int) q_int) qa_nil)) q_int))
    (qss_one (qs_ret (q_mod (q_intC T.z_int (qa_cons (q_fdiv (qv 6) q_int) qa_nil)) (qv 1)))))))))))))⟩) r__law_draw
set_option maxHeartbeats 2000000 in
theorem ok__law_pick (T : Tx K mg) : FnG P w K mg base 34 T.a__law_pick T.d__law_pick ["pen", "some"] c__law_pick := by
  have SC := sc__law_pick
  have F__law_draw := (ok__law_draw (P := P) (w := w) (base := base) T).mono (k := 33) (by decide)
  exact Fun.okD (k := 33) (ds := b__law_pick) T.F__law_pick sc__law_pick l__law_pick (fun cdv A outer s H hr am => ⟨_, (qss_one (qs_ret (q_ix (qv 1) (q_call F__law_draw am hr T.m__law_draw T.F__law_draw.kp T.b__law_draw (qa_cons (qv 0) (qa_cons (q_len T.z_len (qa_cons (qv 1) qa_nil)) qa_nil))))))⟩) r__law_pick
set_option maxHeartbeats 2000000 in
theorem ok__law_hermite (T : Tx K mg) : FnG P w K mg base 33 T.a__law_hermite T.d__law_hermite ["rows", "width"] c__law_hermite := by
  have SC := sc__law_hermite
  exact Fun.okP (k := 32) (ds := b__law_hermite) T.F__law_hermite sc__law_hermite l__law_hermite (fun cdv A outer s H hr am => ⟨_, (qss_cons (qs_par 2 3 rfl SC.nd (qa_cons (q_lc [("row", 11)] rfl SC.nd (qi_seq (qv 0)) (blkOk_by (by kernel_rfl)) (fun _ _ _ _ _ => ⟨_, (qg_name (i := 11) SC.nd), (is_name (by decide))⟩) (fun _ _ _ _ _ => ⟨_, qts_nil⟩) (fun _ _ _ _ _ => ⟨_, (q_list T.z_list (qa_cons (qv 11) qa_nil))⟩)) (qa_cons (q_lst qa_nil) qa_nil)))
    (qss_cons (qs_for PassesOwn.never rfl (qi_range1 T.z_range (qa_cons (qv 1) qa_nil)) (qg_name (i := 4) SC.nd) (qss_cons (qs_setLc 5 [("row", 11)] rfl SC.nd (qi_seq (qv 2)) (blkOk_by (by kernel_rfl)) (fun _ _ _ _ _ => ⟨_, (qg_name (i := 11) SC.nd), (is_name (by decide))⟩) (fun _ _ _ _ _ => ⟨_, (qts_one (qt_ne hr (q_ix (qv 11) (qv 4)) q_int))⟩) (fun _ _ _ _ _ => ⟨_, (qv 11)⟩))
    (qss_cons (qs_setLc 6 [("row", 11)] rfl SC.nd (qi_seq (qv 2)) (blkOk_by (by kernel_rfl)) (fun _ _ _ _ _ => ⟨_, (qg_name (i := 11) SC.nd), (is_name (by decide))⟩) (fun _ _ _ _ _ => ⟨_, (qts_one (qt_eq hr (q_ix (qv 11) (qv 4)) q_int))⟩) (fun _ _ _ _ _ => ⟨_, (qv 11)⟩))
    (qss_cons (qs_while PassesOwn.never (qt_gt (q_len T.z_len (qa_cons (qv 5) qa_nil)) q_int) (qss_cons (qs_par 7 8 rfl SC.nd (qa_cons (q_lc [("row", 11)] rfl SC.nd (qi_seq (qv 5)) (blkOk_by (by kernel_rfl)) (fun _ _ _ _ _ => ⟨_, (qg_name (i := 11) SC.nd), (is_name (by decide))⟩) (fun _ _ _ _ _ => ⟨_, qts_nil⟩) (fun _ _ _ _ _ => ⟨_, (q_abs T.z_abs (qa_cons (q_ix (qv 11) (qv 4)) qa_nil))⟩)) (qa_cons (q_lst qa_nil) qa_nil)))
    (qss_cons (qs_set 9 SC.nd (q_index (qv 7) (qa_cons (q_min rfl T.z_min (qa_cons (qv 7) qa_nil)) qa_nil)))
    (qss_cons (qs_set 10 SC.nd (q_ix (qv 5) (qv 9)))
    (qss_cons (qs_for PassesOwn.never rfl (qi_seq (q_add (q_sl (qv 5) qo_none (qo_some (qv 9))) (q_sl (qv 5) (qo_some (q_add (qv 9) q_int)) qo_none))) (qg_name (i := 11) SC.nd) (qss_cons (qs_set 12 SC.nd (q_fdivB am hr (q_ix (qv 11) (qv 4)) (q_ix (qv 10) (qv 4))))
    (qss_cons (qs_set 11 SC.nd (q_lc [("number", 13), ("its", 14)] rfl SC.nd (qi_zip T.z_zip (qa_cons (qv 11) (qa_cons (qv 10) qa_nil))) (blkOk_by (by kernel_rfl)) (fun _ _ _ _ _ => ⟨_, (qg_tup rfl (qgs_cons (qg_name (i := 13) SC.nd) (qgs_cons (qg_name (i := 14) SC.nd) qgs_nil))), (is_tup (is_cons (is_name (by decide)) (is_cons (is_name (by decide)) is_nil)))⟩) (fun _ _ _ _ _ => ⟨_, qts_nil⟩) (fun _ _ _ _ _ => ⟨_, (q_sub (qv 13) (q_mul (qv 12) (qv 14)))⟩)))
    (qss_one (qs_if (qt_ne hr (q_ix (qv 11) (qv 4)) q_int) (qss_one (qs_expr (q_append (qv 8) (qa_cons (qv 11) qa_nil)))) (qss_one (qs_expr (q_append (qv 6) (qa_cons (qv 11) qa_nil)))))))))
    (qss_one (qs_set 5 SC.nd (q_add (q_lst (qa_cons (qv 10) qa_nil)) (qv 8)))))))))
    (qss_cons (qs_if (qt_ne hr (qv 5) (q_lst qa_nil)) (qss_cons (qs_set 11 SC.nd (q_ifE (qt_gt (q_ix (q_ix (qv 5) q_int) (qv 4)) q_int) (q_ix (qv 5) q_int) (q_lc [("number", 13)] rfl SC.nd (qi_seq (q_ix (qv 5) q_int)) (blkOk_by (by kernel_rfl)) (fun _ _ _ _ _ => ⟨_, (qg_name (i := 13) SC.nd), (is_name (by decide))⟩) (fun _ _ _ _ _ => ⟨_, qts_nil⟩) (fun _ _ _ _ _ => ⟨_, (q_neg (qv 13))⟩))))
    (qss_one (qs_set 3 SC.nd (q_add (q_lc [("one", 15)] rfl SC.nd (qi_seq (qv 3)) (blkOk_by (by kernel_rfl)) (fun _ _ _ _ _ => ⟨_, (qg_name (i := 15) SC.nd), (is_name (by decide))⟩) (fun _ _ _ _ _ => ⟨_, qts_nil⟩) (fun _ _ _ _ _ => ⟨_, (q_lc [("number", 13), ("its", 14)] rfl SC.nd (qi_zip T.z_zip (qa_cons (qv 15) (qa_cons (qv 11) qa_nil))) (blkOk_by (by kernel_rfl)) (fun _ _ _ _ _ => ⟨_, (qg_tup rfl (qgs_cons (qg_name (i := 13) SC.nd) (qgs_cons (qg_name (i := 14) SC.nd) qgs_nil))), (is_tup (is_cons (is_name (by decide)) (is_cons (is_name (by decide)) is_nil)))⟩) (fun _ _ _ _ _ => ⟨_, qts_nil⟩) (fun _ _ _ _ _ => ⟨_, (q_sub (qv 13) (q_mul (q_fdivB am hr (q_ix (qv 15) (qv 4)) (q_ix (qv 11) (qv 4))) (qv 14)))⟩))⟩)) (q_lst (qa_cons (qv 11) qa_nil)))))) qss_nil)
    (qss_one (qs_setLc 2 [("row", 11)] rfl SC.nd (qi_seq (qv 6)) (blkOk_by (by kernel_rfl)) (fun _ _ _ _ _ => ⟨_, (qg_name (i := 11) SC.nd), (is_name (by decide))⟩) (fun _ _ _ _ _ => ⟨_, (qts_one (qt_ne hr (q_lc [("number", 13)] rfl SC.nd (qi_seq (qv 11)) (blkOk_by (by kernel_rfl)) (fun _ _ _ _ _ => ⟨_, (qg_name (i := 13) SC.nd), (is_name (by decide))⟩) (fun _ _ _ _ _ => ⟨_, (qts_one (qt_ne hr (qv 13) q_int))⟩) (fun _ _ _ _ _ => ⟨_, (qv 13)⟩)) (q_lst qa_nil)))⟩) (fun _ _ _ _ _ => ⟨_, (qv 11)⟩))))))))
    (qss_one (qs_ret (q_tuple T.z_tuple (qa_cons (q_lc [("row", 11)] rfl SC.nd (qi_seq (qv 3)) (blkOk_by (by kernel_rfl)) (fun _ _ _ _ _ => ⟨_, (qg_name (i := 11) SC.nd), (is_name (by decide))⟩) (fun _ _ _ _ _ => ⟨_, qts_nil⟩) (fun _ _ _ _ _ => ⟨_, (q_tuple T.z_tuple (qa_cons (qv 11) qa_nil))⟩)) qa_nil))))))⟩) r__law_hermite
set_option maxHeartbeats 2000000 in
theorem ok__law_row (T : Tx K mg) : FnG P w K mg base 35 T.a__law_row T.d__law_row ["pen", "width"] c__law_row := by
  have SC := sc__law_row
  have F__law_draw := (ok__law_draw (P := P) (w := w) (base := base) T).mono (k := 34) (by decide)
  have F__law_pick := (ok__law_pick (P := P) (w := w) (base := base) T).mono (k := 34) (by decide)
  exact Fun.okD (k := 34) (ds := b__law_row) T.F__law_row sc__law_row l__law_row (fun cdv A outer s H hr am => ⟨_, (qss_one (qs_ret (q_tuple T.z_tuple (qa_cons (q_lc [("at", 2)] rfl SC.nd (qi_range1 T.z_range (qa_cons (qv 1) qa_nil)) (blkOk_by (by kernel_rfl)) (fun _ _ _ _ _ => ⟨_, (qg_name (i := 2) SC.nd), (is_name (by decide))⟩) (fun _ _ _ _ _ => ⟨_, qts_nil⟩) (fun _ _ _ _ _ => ⟨_, (q_call F__law_pick am hr T.m__law_pick T.F__law_pick.kp T.b__law_pick (qa_cons (qv 0) (qa_cons (q_lst (qa_cons q_int (qa_cons q_int (qa_cons q_int (qa_cons q_int (qa_cons q_int (qa_cons q_int (qa_cons q_int (qa_cons (q_neg q_int) (qa_cons (q_neg q_int) (qa_cons (q_neg q_int) (qa_cons q_int (qa_cons (q_sub (q_call F__law_draw am hr T.m__law_draw T.F__law_draw.kp T.b__law_draw (qa_cons (qv 0) (qa_cons q_int qa_nil))) q_int) qa_nil))))))))))))) qa_nil)))⟩)) qa_nil))))⟩) r__law_row
set_option maxHeartbeats 2000000 in
theorem ok__law_kernel (T : Tx K mg) : FnG P w K mg base 34 T.a__law_kernel T.d__law_kernel ["rows", "width"] c__law_kernel := by
  have SC := sc__law_kernel
  have F__law_hermite := (ok__law_hermite (P := P) (w := w) (base := base) T).mono (k := 33) (by decide)
  exact Fun.okP (k := 33) (ds := b__law_kernel) T.F__law_kernel sc__law_kernel l__law_kernel (fun cdv A outer s H hr am => ⟨_, (qss_cons (qs_set 2 SC.nd (q_len T.z_len (qa_cons (qv 0) qa_nil)))
    (qss_cons (qs_setLc 3 [("at", 4)] rfl SC.nd (qi_range1 T.z_range (qa_cons (qv 1) qa_nil)) (blkOk_by (by kernel_rfl)) (fun _ _ _ _ _ => ⟨_, (qg_name (i := 4) SC.nd), (is_name (by decide))⟩) (fun _ _ _ _ _ => ⟨_, qts_nil⟩) (fun _ _ _ _ _ => ⟨_, (q_tuple T.z_tuple (qa_cons (q_add (q_lc [("row", 5)] rfl SC.nd (qi_seq (qv 0)) (blkOk_by (by kernel_rfl)) (fun _ _ _ _ _ => ⟨_, (qg_name (i := 5) SC.nd), (is_name (by decide))⟩) (fun _ _ _ _ _ => ⟨_, qts_nil⟩) (fun _ _ _ _ _ => ⟨_, (q_ix (qv 5) (qv 4))⟩)) (q_lc [("spot", 6)] rfl SC.nd (qi_range1 T.z_range (qa_cons (qv 1) qa_nil)) (blkOk_by (by kernel_rfl)) (fun _ _ _ _ _ => ⟨_, (qg_name (i := 6) SC.nd), (is_name (by decide))⟩) (fun _ _ _ _ _ => ⟨_, qts_nil⟩) (fun _ _ _ _ _ => ⟨_, (q_intC T.z_int (qa_cons (q_eq hr (qv 4) (qv 6)) qa_nil))⟩))) qa_nil))⟩))
    (qss_one (qs_ret (q_tuple T.z_tuple (qa_cons (q_lc [("row", 5)] rfl SC.nd (qi_seq (q_call F__law_hermite am hr T.m__law_hermite T.F__law_hermite.kp T.b__law_hermite (qa_cons (qv 3) (qa_cons (q_add (qv 2) (qv 1)) qa_nil)))) (blkOk_by (by kernel_rfl)) (fun _ _ _ _ _ => ⟨_, (qg_name (i := 5) SC.nd), (is_name (by decide))⟩) (fun _ _ _ _ _ => ⟨_, (qts_one (qt_eq hr (q_lc [("one", 7)] rfl SC.nd (qi_seq (q_slA (qv 5) qo_none (qo_some (qv 2)))) (blkOk_by (by kernel_rfl)) (fun _ _ _ _ _ => ⟨_, (qg_name (i := 7) SC.nd), (is_name (by decide))⟩) (fun _ _ _ _ _ => ⟨_, (qts_one (qt_ne hr (qv 7) q_int))⟩) (fun _ _ _ _ _ => ⟨_, (qv 7)⟩)) (q_lst qa_nil)))⟩) (fun _ _ _ _ _ => ⟨_, (q_slA (qv 5) (qo_some (qv 2)) qo_none)⟩)) qa_nil))))))⟩) r__law_kernel
set_option maxHeartbeats 2000000 in
theorem ok__law_box (T : Tx K mg) : FnG P w K mg base 33 T.a__law_box T.d__law_box ["width", "least", "most"] c__law_box := by
  have SC := sc__law_box
  exact Fun.okP (k := 32) (ds := b__law_box) T.F__law_box sc__law_box l__law_box (fun cdv A outer s H hr am => ⟨_, (qss_cons (qs_set 3 SC.nd (q_lst (qa_cons (q_tup qa_nil) qa_nil)))
    (qss_cons (qs_for PassesOwn.never rfl (qi_range1 T.z_range (qa_cons (qv 0) qa_nil)) (qg_name (i := 4) SC.nd) (qss_cons (qs_set 5 SC.nd (q_lst qa_nil))
    (qss_cons (qs_for PassesOwn.never rfl (qi_seq (qv 3)) (qg_name (i := 6) SC.nd) (qss_one (qs_set 5 SC.nd (q_addA (qv 5) (q_lc [("one", 7)] rfl SC.nd (qi_range2 T.z_range (qa_cons (qv 1) (qa_cons (q_addA (qv 2) q_int) qa_nil))) (blkOk_by (by kernel_rfl)) (fun _ _ _ _ _ => ⟨_, (qg_name (i := 7) SC.nd), (is_name (by decide))⟩) (fun _ _ _ _ _ => ⟨_, qts_nil⟩) (fun _ _ _ _ _ => ⟨_, (q_addA (qv 6) (q_tup (qa_cons (qv 7) qa_nil)))⟩))))))
    (qss_one (qs_set 3 SC.nd (qv 5))))))
    (qss_one (qs_ret (qv 3)))))⟩) r__law_box
set_option maxHeartbeats 2000000 in
theorem ok_law (T : Tx K mg) : FnG P w K mg base 38 T.a_law T.d_law ["script"] c_law := by
  have SC := sc_law
  have F__law_box := (ok__law_box (P := P) (w := w) (base := base) T).mono (k := 37) (by decide)
  have F__law_draw := (ok__law_draw (P := P) (w := w) (base := base) T).mono (k := 37) (by decide)
  have F__law_hermite := (ok__law_hermite (P := P) (w := w) (base := base) T).mono (k := 37) (by decide)
  have F__law_kernel := (ok__law_kernel (P := P) (w := w) (base := base) T).mono (k := 37) (by decide)
  have F__law_pen := (ok__law_pen (P := P) (w := w) (base := base) T).mono (k := 37) (by decide)
  have F__law_row := (ok__law_row (P := P) (w := w) (base := base) T).mono (k := 37) (by decide)
  have F_hermite := (ok_hermite (P := P) (w := w) (base := base) T).mono (k := 37) (by decide)
  have F_is_in := (ok_is_in (P := P) (w := w) (base := base) T).mono (k := 37) (by decide)
  have F_kernel := (ok_kernel (P := P) (w := w) (base := base) T).mono (k := 37) (by decide)
  exact Fun.okD (k := 37) (ds := b_law) T.F_law sc_law l_law (fun cdv A outer s H hr am => ⟨_, (qss_cons (qs_set 1 SC.nd (q_call F__law_pen am hr T.m__law_pen T.F__law_pen.kp T.b__law_pen (qa_cons (qv 0) qa_nil)))
    (qss_cons (qs_for PassesOwn.never rfl (qi_range1 T.z_range (qa_cons q_int qa_nil)) (qg_name (i := 2) SC.nd) (qss_cons (qs_set 3 SC.nd (q_addA q_int (q_call F__law_draw am hr T.m__law_draw T.F__law_draw.kp T.b__law_draw (qa_cons (qv 1) (qa_cons q_int qa_nil)))))
    (qss_cons (qs_setLc 4 [("lap", 8)] rfl SC.nd (qi_range1 T.z_range (qa_cons (q_call F__law_draw am hr T.m__law_draw T.F__law_draw.kp T.b__law_draw (qa_cons (qv 1) (qa_cons q_int qa_nil))) qa_nil)) (blkOk_by (by kernel_rfl)) (fun _ _ _ _ _ => ⟨_, (qg_name (i := 8) SC.nd), (is_name (by decide))⟩) (fun _ _ _ _ _ => ⟨_, qts_nil⟩) (fun _ _ _ _ _ => ⟨_, (q_call F__law_row am hr T.m__law_row T.F__law_row.kp T.b__law_row (qa_cons (qv 1) (qa_cons (qv 3) qa_nil)))⟩))
    (qss_cons (qs_set 5 SC.nd (q_call F_kernel am hr T.m_kernel T.F_kernel.kp T.b_kernel (qa_cons (qv 4) (qa_cons (qv 3) qa_nil))))
    (qss_cons (qs_if ((qw_or (qt_ne hr (q_repr am.guards hr T.z_repr (qa_cons (qv 5) qa_nil)) (q_repr am.guards hr T.z_repr (qa_cons (q_call F__law_kernel am hr T.m__law_kernel T.F__law_kernel.kp T.b__law_kernel (qa_cons (qv 4) (qa_cons (qv 3) qa_nil))) qa_nil))) (qw_or (qt_ne hr (q_callK0 (ix := [1, 0]) (ks := ["width", "rows"]) F_kernel am hr T.m_kernel T.F_kernel.kp T.k_kernel_0_10 (qk_cons (qv 3) (qk_cons (q_tuple T.z_tuple (qa_cons (qv 4) qa_nil)) qk_nil))) (qv 5)) (qw_or1 (qt_ne hr (q_call F_hermite am hr T.m_hermite T.F_hermite.kp T.b_hermite (qa_cons (qv 5) (qa_cons (qv 3) qa_nil))) (qv 5)))))).t (qss_one (qs_ret q_bl)) qss_nil)
    (qss_cons (qs_for PassesOwn.never rfl (qi_seq (qv 5)) (qg_name (i := 6) SC.nd) (qss_one (qs_if (qt_ne hr (q_lc [("its", 9)] rfl SC.nd (qi_seq (qv 4)) (blkOk_by (by kernel_rfl)) (fun _ _ _ _ _ => ⟨_, (qg_name (i := 9) SC.nd), (is_name (by decide))⟩) (fun _ _ _ _ _ => ⟨_, (qts_one (qt_ne hr (q_sum rfl T.z_sum (qa_cons (q_lc [("one", 10), ("number", 11)] rfl SC.nd (qi_zip T.z_zip (qa_cons (qv 6) (qa_cons (qv 9) qa_nil))) (blkOk_by (by kernel_rfl)) (fun _ _ _ _ _ => ⟨_, (qg_tup rfl (qgs_cons (qg_name (i := 10) SC.nd) (qgs_cons (qg_name (i := 11) SC.nd) qgs_nil))), (is_tup (is_cons (is_name (by decide)) (is_cons (is_name (by decide)) is_nil)))⟩) (fun _ _ _ _ _ => ⟨_, qts_nil⟩) (fun _ _ _ _ _ => ⟨_, (q_mulA (qv 10) (qv 11))⟩)) qa_nil)) q_int))⟩) (fun _ _ _ _ _ => ⟨_, q_int⟩)) (q_lst qa_nil)) (qss_one (qs_ret q_bl)) qss_nil)))
    (qss_cons (qs_for PassesOwn.never rfl (qi_seq (q_call F__law_box am hr T.m__law_box T.F__law_box.kp T.b__law_box (qa_cons (q_min2 rfl T.z_min (qa_cons (qv 3) (qa_cons q_int qa_nil))) (qa_cons (q_neg q_int) (qa_cons q_int qa_nil))))) (qg_name (i := 6) SC.nd) (qss_cons (qs_set 7 SC.nd (q_addA (qv 6) (q_mulA (q_tup (qa_cons q_int qa_nil)) (q_sub (qv 3) (q_len T.z_len (qa_cons (qv 6) qa_nil))))))
    (qss_one (qs_if (qt_ne hr (q_call F_is_in am hr T.m_is_in T.F_is_in.kp T.b_is_in (qa_cons (qv 5) (qa_cons (qv 7) qa_nil))) (q_eq hr (q_lc [("its", 9)] rfl SC.nd (qi_seq (qv 4)) (blkOk_by (by kernel_rfl)) (fun _ _ _ _ _ => ⟨_, (qg_name (i := 9) SC.nd), (is_name (by decide))⟩) (fun _ _ _ _ _ => ⟨_, (qts_one (qt_ne hr (q_sum rfl T.z_sum (qa_cons (q_lc [("one", 10), ("number", 11)] rfl SC.nd (qi_zip T.z_zip (qa_cons (qv 7) (qa_cons (qv 9) qa_nil))) (blkOk_by (by kernel_rfl)) (fun _ _ _ _ _ => ⟨_, (qg_tup rfl (qgs_cons (qg_name (i := 10) SC.nd) (qgs_cons (qg_name (i := 11) SC.nd) qgs_nil))), (is_tup (is_cons (is_name (by decide)) (is_cons (is_name (by decide)) is_nil)))⟩) (fun _ _ _ _ _ => ⟨_, qts_nil⟩) (fun _ _ _ _ _ => ⟨_, (q_mulA (qv 10) (qv 11))⟩)) qa_nil)) q_int))⟩) (fun _ _ _ _ _ => ⟨_, q_int⟩)) (q_lst qa_nil))) (qss_one (qs_ret q_bl)) qss_nil))))
    (qss_one (qs_if (qt_ne hr (q_len T.z_len (qa_cons (qv 5) qa_nil)) (q_sub (qv 3) (q_len T.z_len (qa_cons (q_call F__law_hermite am hr T.m__law_hermite T.F__law_hermite.kp T.b__law_hermite (qa_cons (qv 4) (qa_cons (qv 3) qa_nil))) qa_nil)))) (qss_one (qs_ret q_bl)) qss_nil)))))))))
    (qss_one (qs_ret (q_and (q_eq hr (q_call F_kernel am hr T.m_kernel T.F_kernel.kp T.b_kernel (qa_cons (q_lst qa_nil) (qa_cons q_int qa_nil))) (q_tup (qa_cons (q_tup (qa_cons q_int (qa_cons q_int qa_nil))) (qa_cons (q_tup (qa_cons q_int (qa_cons q_int qa_nil))) qa_nil)))) (q_and (q_eq hr (q_call F_kernel am hr T.m_kernel T.F_kernel.kp T.b_kernel (qa_cons (q_lst (qa_cons (q_tup (qa_cons q_int (qa_cons q_int qa_nil))) qa_nil)) (qa_cons q_int qa_nil))) (q_tup (qa_cons (q_tup (qa_cons q_int (qa_cons (q_neg q_int) qa_nil))) qa_nil))) (q_and (q_eq hr (q_call F_kernel am hr T.m_kernel T.F_kernel.kp T.b_kernel (qa_cons (q_lst (qa_cons (q_tup (qa_cons q_int (qa_cons q_int qa_nil))) qa_nil)) (qa_cons q_int qa_nil))) (q_tup (qa_cons (q_tup (qa_cons q_int (qa_cons q_int qa_nil))) qa_nil))) (q_one (q_eq hr (q_call F_kernel am hr T.m_kernel T.F_kernel.kp T.b_kernel (qa_cons (q_lst (qa_cons (q_tup (qa_cons q_int qa_nil)) qa_nil)) (qa_cons q_int qa_nil))) (q_tup qa_nil))))))))))⟩) r_law
end

theorem fun_bindsK {K : PySem.W.Frag} {x qual : Str} {st : Stmt} {f : Addr} {fd : FuncData} {ps ks : List Str} {n : Nat} {ix : List Nat} (F : Fun K x qual st f fd)
    (h : ∀ (kV doc pm : Value) (an : Option Addr) (cdv ct : Value) (us ws : List Value), us.length = n → ws.length = ks.length → bindArgs (PySem.W.fnOf x qual (defArgs st) (defBody st) (defScope st) .none kV doc pm an cdv ct) ⟨us, ks.zip ws⟩ = pure (ps.zip (pick us ws ix))) : BindsK K fd ps ks n ix := by
  obtain ⟨oc, od, kV, doc, pm, an, cdv, ct, osl, e9, lk, hcd⟩ := F.ex
  subst e9
  exact fun s us ws _ h1 h2 => .of_eq (h kV doc pm an cdv ct us ws h1 h2)
theorem all_mk {l : PySem.W.OpenLaw} {w : World} {K : PySem.W.Frag} {h : Heap} {mg : Str → Option Value} {fa : Addr} (X : K.In h) (G : h.Ns mainGlobals mg) (hfa : mg "law" = some (.ref fa))
    {CG : Addr} (aC : PySem.W.nsIn K mainGlobals "Growing" = some (some (.ref CG))) (pg : PySem.W.plainGet K CG Str.empty = true) (hd : PySem.W.hasDictIn K CG = true) (po : PySem.W.plainOver K CG = true) (sa : PySem.W.findIn K (.ref CG) "__setattr__" = some (some (.builtin "object.__setattr__"))) (mk : PySem.W.makesIn K CG = true) (kc : PySem.W.keepIn K (.ref CG) = true)
    (na_rows : PySem.W.findIn K (.ref CG) "rows" = some none)
    (na_width : PySem.W.findIn K (.ref CG) "width" = some none)
    {f0 : Addr} {oc0 kV0 dc0 pm0 cd0 ct0 : Value} {od0 an0 : Option Addr} {sl0 : Array (Option Value)}
    (a0 : PySem.W.nsIn K mainGlobals "lead" = some (some (.ref f0)))
    (l0 : K.lookup f0 = some ⟨oc0, od0, .func (PySem.W.fnOf "lead" "lead" (defArgs s_lead) (defBody s_lead) (defScope s_lead) .none kV0 dc0 pm0 an0 cd0 ct0), sl0⟩) (c0 : PySem.W.codeIn K cd0 "lead" = true) (k0 : PySem.W.keepIn K (.ref f0) = true)
    {f1 : Addr} {oc1 kV1 dc1 pm1 cd1 ct1 : Value} {od1 an1 : Option Addr} {sl1 : Array (Option Value)}
    (a1 : PySem.W.nsIn K mainGlobals "plus" = some (some (.ref f1)))
    (l1 : K.lookup f1 = some ⟨oc1, od1, .func (PySem.W.fnOf "plus" "plus" (defArgs s_plus) (defBody s_plus) (defScope s_plus) .none kV1 dc1 pm1 an1 cd1 ct1), sl1⟩) (c1 : PySem.W.codeIn K cd1 "plus" = true) (k1 : PySem.W.keepIn K (.ref f1) = true)
    {f2 : Addr} {oc2 kV2 dc2 pm2 cd2 ct2 : Value} {od2 an2 : Option Addr} {sl2 : Array (Option Value)}
    (a2 : PySem.W.nsIn K mainGlobals "mixed" = some (some (.ref f2)))
    (l2 : K.lookup f2 = some ⟨oc2, od2, .func (PySem.W.fnOf "mixed" "mixed" (defArgs s_mixed) (defBody s_mixed) (defScope s_mixed) .none kV2 dc2 pm2 an2 cd2 ct2), sl2⟩) (c2 : PySem.W.codeIn K cd2 "mixed" = true) (k2 : PySem.W.keepIn K (.ref f2) = true)
    {f3 : Addr} {oc3 kV3 dc3 pm3 cd3 ct3 : Value} {od3 an3 : Option Addr} {sl3 : Array (Option Value)}
    (a3 : PySem.W.nsIn K mainGlobals "divided" = some (some (.ref f3)))
    (l3 : K.lookup f3 = some ⟨oc3, od3, .func (PySem.W.fnOf "divided" "divided" (defArgs s_divided) (defBody s_divided) (defScope s_divided) .none kV3 dc3 pm3 an3 cd3 ct3), sl3⟩) (c3 : PySem.W.codeIn K cd3 "divided" = true) (k3 : PySem.W.keepIn K (.ref f3) = true)
    {f4 : Addr} {oc4 kV4 dc4 pm4 cd4 ct4 : Value} {od4 an4 : Option Addr} {sl4 : Array (Option Value)}
    (a4 : PySem.W.findIn K (.ref CG) "__init__" = some (some (.ref f4))) (i4 : PySem.W.isFn K (.ref f4) = true)
    (l4 : K.lookup f4 = some ⟨oc4, od4, .func (PySem.W.fnOf "__init__" "Growing.__init__" (defArgs s_Growing___init__) (defBody s_Growing___init__) (defScope s_Growing___init__) .none kV4 dc4 pm4 an4 cd4 ct4), sl4⟩) (c4 : PySem.W.codeIn K cd4 "Growing.__init__" = true) (k4 : PySem.W.keepIn K (.ref f4) = true)
    {f5 : Addr} {oc5 kV5 dc5 pm5 cd5 ct5 : Value} {od5 an5 : Option Addr} {sl5 : Array (Option Value)}
    (a5 : PySem.W.findIn K (.ref CG) "add" = some (some (.ref f5))) (i5 : PySem.W.isFn K (.ref f5) = true)
    (l5 : K.lookup f5 = some ⟨oc5, od5, .func (PySem.W.fnOf "add" "Growing.add" (defArgs s_Growing_add) (defBody s_Growing_add) (defScope s_Growing_add) .none kV5 dc5 pm5 an5 cd5 ct5), sl5⟩) (c5 : PySem.W.codeIn K cd5 "Growing.add" = true) (k5 : PySem.W.keepIn K (.ref f5) = true)
    {f6 : Addr} {oc6 kV6 dc6 pm6 cd6 ct6 : Value} {od6 an6 : Option Addr} {sl6 : Array (Option Value)}
    (a6 : PySem.W.findIn K (.ref CG) "tidy" = some (some (.ref f6))) (i6 : PySem.W.isFn K (.ref f6) = true)
    (l6 : K.lookup f6 = some ⟨oc6, od6, .func (PySem.W.fnOf "tidy" "Growing.tidy" (defArgs s_Growing_tidy) (defBody s_Growing_tidy) (defScope s_Growing_tidy) .none kV6 dc6 pm6 an6 cd6 ct6), sl6⟩) (c6 : PySem.W.codeIn K cd6 "Growing.tidy" = true) (k6 : PySem.W.keepIn K (.ref f6) = true)
    {f7 : Addr} {oc7 kV7 dc7 pm7 cd7 ct7 : Value} {od7 an7 : Option Addr} {sl7 : Array (Option Value)}
    (a7 : PySem.W.findIn K (.ref CG) "basis" = some (some (.ref f7))) (i7 : PySem.W.isFn K (.ref f7) = true)
    (l7 : K.lookup f7 = some ⟨oc7, od7, .func (PySem.W.fnOf "basis" "Growing.basis" (defArgs s_Growing_basis) (defBody s_Growing_basis) (defScope s_Growing_basis) .none kV7 dc7 pm7 an7 cd7 ct7), sl7⟩) (c7 : PySem.W.codeIn K cd7 "Growing.basis" = true) (k7 : PySem.W.keepIn K (.ref f7) = true)
    {f8 : Addr} {oc8 kV8 dc8 pm8 cd8 ct8 : Value} {od8 an8 : Option Addr} {sl8 : Array (Option Value)}
    (a8 : PySem.W.nsIn K mainGlobals "hermite" = some (some (.ref f8)))
    (l8 : K.lookup f8 = some ⟨oc8, od8, .func (PySem.W.fnOf "hermite" "hermite" (defArgs s_hermite) (defBody s_hermite) (defScope s_hermite) .none kV8 dc8 pm8 an8 cd8 ct8), sl8⟩) (c8 : PySem.W.codeIn K cd8 "hermite" = true) (k8 : PySem.W.keepIn K (.ref f8) = true)
    {f9 : Addr} {oc9 kV9 dc9 pm9 cd9 ct9 : Value} {od9 an9 : Option Addr} {sl9 : Array (Option Value)}
    (a9 : PySem.W.nsIn K mainGlobals "left_of" = some (some (.ref f9)))
    (l9 : K.lookup f9 = some ⟨oc9, od9, .func (PySem.W.fnOf "left_of" "left_of" (defArgs s_left_of) (defBody s_left_of) (defScope s_left_of) .none kV9 dc9 pm9 an9 cd9 ct9), sl9⟩) (c9 : PySem.W.codeIn K cd9 "left_of" = true) (k9 : PySem.W.keepIn K (.ref f9) = true)
    {f10 : Addr} {oc10 kV10 dc10 pm10 cd10 ct10 : Value} {od10 an10 : Option Addr} {sl10 : Array (Option Value)}
    (a10 : PySem.W.nsIn K mainGlobals "is_in" = some (some (.ref f10)))
    (l10 : K.lookup f10 = some ⟨oc10, od10, .func (PySem.W.fnOf "is_in" "is_in" (defArgs s_is_in) (defBody s_is_in) (defScope s_is_in) .none kV10 dc10 pm10 an10 cd10 ct10), sl10⟩) (c10 : PySem.W.codeIn K cd10 "is_in" = true) (k10 : PySem.W.keepIn K (.ref f10) = true)
    {f11 : Addr} {oc11 kV11 dc11 pm11 cd11 ct11 : Value} {od11 an11 : Option Addr} {sl11 : Array (Option Value)}
    (a11 : PySem.W.nsIn K mainGlobals "kernel" = some (some (.ref f11)))
    (l11 : K.lookup f11 = some ⟨oc11, od11, .func (PySem.W.fnOf "kernel" "kernel" (defArgs s_kernel) (defBody s_kernel) (defScope s_kernel) .none kV11 dc11 pm11 an11 cd11 ct11), sl11⟩) (c11 : PySem.W.codeIn K cd11 "kernel" = true) (k11 : PySem.W.keepIn K (.ref f11) = true)
    {f12 : Addr} {oc12 kV12 dc12 pm12 cd12 ct12 : Value} {od12 an12 : Option Addr} {sl12 : Array (Option Value)}
    (a12 : PySem.W.nsIn K mainGlobals "_law_pen" = some (some (.ref f12)))
    (l12 : K.lookup f12 = some ⟨oc12, od12, .func (PySem.W.fnOf "_law_pen" "_law_pen" (defArgs s__law_pen) (defBody s__law_pen) (defScope s__law_pen) .none kV12 dc12 pm12 an12 cd12 ct12), sl12⟩) (c12 : PySem.W.codeIn K cd12 "_law_pen" = true) (k12 : PySem.W.keepIn K (.ref f12) = true)
    {f13 : Addr} {oc13 kV13 dc13 pm13 cd13 ct13 : Value} {od13 an13 : Option Addr} {sl13 : Array (Option Value)}
    (a13 : PySem.W.nsIn K mainGlobals "_law_draw" = some (some (.ref f13)))
    (l13 : K.lookup f13 = some ⟨oc13, od13, .func (PySem.W.fnOf "_law_draw" "_law_draw" (defArgs s__law_draw) (defBody s__law_draw) (defScope s__law_draw) .none kV13 dc13 pm13 an13 cd13 ct13), sl13⟩) (c13 : PySem.W.codeIn K cd13 "_law_draw" = true) (k13 : PySem.W.keepIn K (.ref f13) = true)
    {f14 : Addr} {oc14 kV14 dc14 pm14 cd14 ct14 : Value} {od14 an14 : Option Addr} {sl14 : Array (Option Value)}
    (a14 : PySem.W.nsIn K mainGlobals "_law_pick" = some (some (.ref f14)))
    (l14 : K.lookup f14 = some ⟨oc14, od14, .func (PySem.W.fnOf "_law_pick" "_law_pick" (defArgs s__law_pick) (defBody s__law_pick) (defScope s__law_pick) .none kV14 dc14 pm14 an14 cd14 ct14), sl14⟩) (c14 : PySem.W.codeIn K cd14 "_law_pick" = true) (k14 : PySem.W.keepIn K (.ref f14) = true)
    {f15 : Addr} {oc15 kV15 dc15 pm15 cd15 ct15 : Value} {od15 an15 : Option Addr} {sl15 : Array (Option Value)}
    (a15 : PySem.W.nsIn K mainGlobals "_law_hermite" = some (some (.ref f15)))
    (l15 : K.lookup f15 = some ⟨oc15, od15, .func (PySem.W.fnOf "_law_hermite" "_law_hermite" (defArgs s__law_hermite) (defBody s__law_hermite) (defScope s__law_hermite) .none kV15 dc15 pm15 an15 cd15 ct15), sl15⟩) (c15 : PySem.W.codeIn K cd15 "_law_hermite" = true) (k15 : PySem.W.keepIn K (.ref f15) = true)
    {f16 : Addr} {oc16 kV16 dc16 pm16 cd16 ct16 : Value} {od16 an16 : Option Addr} {sl16 : Array (Option Value)}
    (a16 : PySem.W.nsIn K mainGlobals "_law_row" = some (some (.ref f16)))
    (l16 : K.lookup f16 = some ⟨oc16, od16, .func (PySem.W.fnOf "_law_row" "_law_row" (defArgs s__law_row) (defBody s__law_row) (defScope s__law_row) .none kV16 dc16 pm16 an16 cd16 ct16), sl16⟩) (c16 : PySem.W.codeIn K cd16 "_law_row" = true) (k16 : PySem.W.keepIn K (.ref f16) = true)
    {f17 : Addr} {oc17 kV17 dc17 pm17 cd17 ct17 : Value} {od17 an17 : Option Addr} {sl17 : Array (Option Value)}
    (a17 : PySem.W.nsIn K mainGlobals "_law_kernel" = some (some (.ref f17)))
    (l17 : K.lookup f17 = some ⟨oc17, od17, .func (PySem.W.fnOf "_law_kernel" "_law_kernel" (defArgs s__law_kernel) (defBody s__law_kernel) (defScope s__law_kernel) .none kV17 dc17 pm17 an17 cd17 ct17), sl17⟩) (c17 : PySem.W.codeIn K cd17 "_law_kernel" = true) (k17 : PySem.W.keepIn K (.ref f17) = true)
    {f18 : Addr} {oc18 kV18 dc18 pm18 cd18 ct18 : Value} {od18 an18 : Option Addr} {sl18 : Array (Option Value)}
    (a18 : PySem.W.nsIn K mainGlobals "_law_box" = some (some (.ref f18)))
    (l18 : K.lookup f18 = some ⟨oc18, od18, .func (PySem.W.fnOf "_law_box" "_law_box" (defArgs s__law_box) (defBody s__law_box) (defScope s__law_box) .none kV18 dc18 pm18 an18 cd18 ct18), sl18⟩) (c18 : PySem.W.codeIn K cd18 "_law_box" = true) (k18 : PySem.W.keepIn K (.ref f18) = true)
    {f19 : Addr} {oc19 kV19 dc19 pm19 cd19 ct19 : Value} {od19 an19 : Option Addr} {sl19 : Array (Option Value)}
    (a19 : PySem.W.nsIn K mainGlobals "law" = some (some (.ref f19)))
    (l19 : K.lookup f19 = some ⟨oc19, od19, .func (PySem.W.fnOf "law" "law" (defArgs s_law) (defBody s_law) (defScope s_law) .none kV19 dc19 pm19 an19 cd19 ct19), sl19⟩) (c19 : PySem.W.codeIn K cd19 "law" = true) (k19 : PySem.W.keepIn K (.ref f19) = true)
    (z_abs : PySem.W.nsIn K mainGlobals "abs" = some none)
    (z_enumerate : PySem.W.nsIn K mainGlobals "enumerate" = some none)
    (z_int : PySem.W.nsIn K mainGlobals "int" = some none)
    (z_len : PySem.W.nsIn K mainGlobals "len" = some none)
    (z_list : PySem.W.nsIn K mainGlobals "list" = some none)
    (z_min : PySem.W.nsIn K mainGlobals "min" = some none)
    (z_range : PySem.W.nsIn K mainGlobals "range" = some none)
    (z_repr : PySem.W.nsIn K mainGlobals "repr" = some none)
    (z_sum : PySem.W.nsIn K mainGlobals "sum" = some none)
    (z_tuple : PySem.W.nsIn K mainGlobals "tuple" = some none)
    (z_zip : PySem.W.nsIn K mainGlobals "zip" = some none)
    : ∃ fd : FuncData, (∀ (s : Shared) (v : Value), BindsTo s fd ⟨[v], []⟩ [("script", v)]) ∧ ∀ base : Heap, K.In base → base.Ns mainGlobals mg → FnG l.prog w K mg base 38 fa fd ["script"] c_law := by
  have e := hfa.symm.trans (PySem.W.mg_of X G a19)
  cases e
  have F0 := fun_mk (st := s_lead) l0 c0 k0
  have b0 := F0.binds (ps := ["row"]) fun _ _ _ _ _ _ us hl => match us, hl with | [_], _ => rfl
  have F1 := fun_mk (st := s_plus) l1 c1 k1
  have b1 := F1.binds (ps := ["row", "other", "times"]) fun _ _ _ _ _ _ us hl => match us, hl with | [_, _, _], _ => rfl
  have F2 := fun_mk (st := s_mixed) l2 c2 k2
  have b2 := F2.binds (ps := ["row", "other", "multiples"]) fun _ _ _ _ _ _ us hl => match us, hl with | [_, _, _], _ => rfl
  have F3 := fun_mk (st := s_divided) l3 c3 k3
  have b3 := F3.binds (ps := ["one", "other"]) fun _ _ _ _ _ _ us hl => match us, hl with | [_, _], _ => rfl
  have F4 := fun_mk (st := s_Growing___init__) l4 c4 k4
  have b4 := F4.binds (ps := ["self", "width"]) fun _ _ _ _ _ _ us hl => match us, hl with | [_, _], _ => rfl
  have F5 := fun_mk (st := s_Growing_add) l5 c5 k5
  have b5 := F5.binds (ps := ["self", "row"]) fun _ _ _ _ _ _ us hl => match us, hl with | [_, _], _ => rfl
  have F6 := fun_mk (st := s_Growing_tidy) l6 c6 k6
  have b6 := F6.binds (ps := ["self", "place"]) fun _ _ _ _ _ _ us hl => match us, hl with | [_, _], _ => rfl
  have F7 := fun_mk (st := s_Growing_basis) l7 c7 k7
  have b7 := F7.binds (ps := ["self"]) fun _ _ _ _ _ _ us hl => match us, hl with | [_], _ => rfl
  have F8 := fun_mk (st := s_hermite) l8 c8 k8
  have b8 := F8.binds (ps := ["rows", "width"]) fun _ _ _ _ _ _ us hl => match us, hl with | [_, _], _ => rfl
  have F9 := fun_mk (st := s_left_of) l9 c9 k9
  have b9 := F9.binds (ps := ["basis", "row"]) fun _ _ _ _ _ _ us hl => match us, hl with | [_, _], _ => rfl
  have F10 := fun_mk (st := s_is_in) l10 c10 k10
  have b10 := F10.binds (ps := ["basis", "row"]) fun _ _ _ _ _ _ us hl => match us, hl with | [_, _], _ => rfl
  have F11 := fun_mk (st := s_kernel) l11 c11 k11
  have b11 := F11.binds (ps := ["rows", "width"]) fun _ _ _ _ _ _ us hl => match us, hl with | [_, _], _ => rfl
  have F12 := fun_mk (st := s__law_pen) l12 c12 k12
  have b12 := F12.binds (ps := ["script"]) fun _ _ _ _ _ _ us hl => match us, hl with | [_], _ => rfl
  have F13 := fun_mk (st := s__law_draw) l13 c13 k13
  have b13 := F13.binds (ps := ["pen", "many"]) fun _ _ _ _ _ _ us hl => match us, hl with | [_, _], _ => rfl
  have F14 := fun_mk (st := s__law_pick) l14 c14 k14
  have b14 := F14.binds (ps := ["pen", "some"]) fun _ _ _ _ _ _ us hl => match us, hl with | [_, _], _ => rfl
  have F15 := fun_mk (st := s__law_hermite) l15 c15 k15
  have b15 := F15.binds (ps := ["rows", "width"]) fun _ _ _ _ _ _ us hl => match us, hl with | [_, _], _ => rfl
  have F16 := fun_mk (st := s__law_row) l16 c16 k16
  have b16 := F16.binds (ps := ["pen", "width"]) fun _ _ _ _ _ _ us hl => match us, hl with | [_, _], _ => rfl
  have F17 := fun_mk (st := s__law_kernel) l17 c17 k17
  have b17 := F17.binds (ps := ["rows", "width"]) fun _ _ _ _ _ _ us hl => match us, hl with | [_, _], _ => rfl
  have F18 := fun_mk (st := s__law_box) l18 c18 k18
  have b18 := F18.binds (ps := ["width", "least", "most"]) fun _ _ _ _ _ _ us hl => match us, hl with | [_, _, _], _ => rfl
  have F19 := fun_mk (st := s_law) l19 c19 k19
  have b19 := F19.binds (ps := ["script"]) fun _ _ _ _ _ _ us hl => match us, hl with | [_], _ => rfl
  let T : Tx K mg := {
    a_lead := _, d_lead := _, F_lead := F0, m_lead := PySem.W.mg_of X G a0, b_lead := b0
    a_plus := _, d_plus := _, F_plus := F1, m_plus := PySem.W.mg_of X G a1, b_plus := b1
    a_mixed := _, d_mixed := _, F_mixed := F2, m_mixed := PySem.W.mg_of X G a2, b_mixed := b2
    a_divided := _, d_divided := _, F_divided := F3, m_divided := PySem.W.mg_of X G a3, b_divided := b3
    a_Growing___init__ := _, d_Growing___init__ := _, F_Growing___init__ := F4, b_Growing___init__ := b4
    a_Growing_add := _, d_Growing_add := _, F_Growing_add := F5, b_Growing_add := b5
    a_Growing_tidy := _, d_Growing_tidy := _, F_Growing_tidy := F6, b_Growing_tidy := b6
    a_Growing_basis := _, d_Growing_basis := _, F_Growing_basis := F7, b_Growing_basis := b7
    a_hermite := _, d_hermite := _, F_hermite := F8, m_hermite := PySem.W.mg_of X G a8, b_hermite := b8
    a_left_of := _, d_left_of := _, F_left_of := F9, m_left_of := PySem.W.mg_of X G a9, b_left_of := b9
    a_is_in := _, d_is_in := _, F_is_in := F10, m_is_in := PySem.W.mg_of X G a10, b_is_in := b10
    a_kernel := _, d_kernel := _, F_kernel := F11, m_kernel := PySem.W.mg_of X G a11, b_kernel := b11
    a__law_pen := _, d__law_pen := _, F__law_pen := F12, m__law_pen := PySem.W.mg_of X G a12, b__law_pen := b12
    a__law_draw := _, d__law_draw := _, F__law_draw := F13, m__law_draw := PySem.W.mg_of X G a13, b__law_draw := b13
    a__law_pick := _, d__law_pick := _, F__law_pick := F14, m__law_pick := PySem.W.mg_of X G a14, b__law_pick := b14
    a__law_hermite := _, d__law_hermite := _, F__law_hermite := F15, m__law_hermite := PySem.W.mg_of X G a15, b__law_hermite := b15
    a__law_row := _, d__law_row := _, F__law_row := F16, m__law_row := PySem.W.mg_of X G a16, b__law_row := b16
    a__law_kernel := _, d__law_kernel := _, F__law_kernel := F17, m__law_kernel := PySem.W.mg_of X G a17, b__law_kernel := b17
    a__law_box := _, d__law_box := _, F__law_box := F18, m__law_box := PySem.W.mg_of X G a18, b__law_box := b18
    a_law := _, d_law := _, F_law := F19, m_law := PySem.W.mg_of X G a19, b_law := b19
    C_G := _, m_G := PySem.W.mg_of X G aC, cl_G := ⟨pg, hd, po, sa⟩, mk_G := ⟨mk, a4, i4, kc⟩
    mt_Growing_add := ⟨a5, i5, k5⟩
    mt_Growing_tidy := ⟨a6, i6, k6⟩
    mt_Growing_basis := ⟨a7, i7, k7⟩
    na_rows := na_rows
    na_width := na_width
    z_abs := PySem.W.mg_none_of X G z_abs
    z_enumerate := PySem.W.mg_none_of X G z_enumerate
    z_int := PySem.W.mg_none_of X G z_int
    z_len := PySem.W.mg_none_of X G z_len
    z_list := PySem.W.mg_none_of X G z_list
    z_min := PySem.W.mg_none_of X G z_min
    z_range := PySem.W.mg_none_of X G z_range
    z_repr := PySem.W.mg_none_of X G z_repr
    z_sum := PySem.W.mg_none_of X G z_sum
    z_tuple := PySem.W.mg_none_of X G z_tuple
    z_zip := PySem.W.mg_none_of X G z_zip
    k_kernel_0_10 := fun_bindsK F11 fun _ _ _ _ _ _ us ws h1 h2 => match us, ws, h1, h2 with | [], [_, _], _, _ => rfl
  }
  exact ⟨T.d_law, fun s v => .of_eq rfl, fun base _ _ => ok_law (P := l.prog) (w := w) (base := base) T⟩

end K27
open PySem PySem.W PyProof.Rows
set_option maxRecDepth 100000 in
set_option maxHeartbeats 0 in
theorem PySem.Challenge.cw_allmoduli_k27_all_rows_with_products_of_holds : PySem.Challenge.rw_allmoduli_k27_all_rows_with_products_of.Holds := by
  w_on; o_law; k_head; (case hw => w_witness2)
  k_fill
  refine DL.walk_G (l := PySem.Challenge.rw_allmoduli_k27_all_rows_with_products_of) (n := 63) (k := 38) (C := K27.c_law) (x := "script") rfl (by decide) rfl ⟨rfl, by decide, by decide⟩ (by decide +kernel) rfl (fun w h Y => PySem.W.kIn_of Y) ?F K27.law_all
  case F =>
    intro w mg fa h KX G hmg
    refine' K27.all_mk KX G hmg ?aC ?pg ?hd ?po ?sa ?mk ?kc ?na_rows ?na_width ?a0 ?l0 ?c0 ?k0 ?a1 ?l1 ?c1 ?k1 ?a2 ?l2 ?c2 ?k2 ?a3 ?l3 ?c3 ?k3 ?a4 ?i4 ?l4 ?c4 ?k4 ?a5 ?i5 ?l5 ?c5 ?k5 ?a6 ?i6 ?l6 ?c6 ?k6 ?a7 ?i7 ?l7 ?c7 ?k7 ?a8 ?l8 ?c8 ?k8 ?a9 ?l9 ?c9 ?k9 ?a10 ?l10 ?c10 ?k10 ?a11 ?l11 ?c11 ?k11 ?a12 ?l12 ?c12 ?k12 ?a13 ?l13 ?c13 ?k13 ?a14 ?l14 ?c14 ?k14 ?a15 ?l15 ?c15 ?k15 ?a16 ?l16 ?c16 ?k16 ?a17 ?l17 ?c17 ?k17 ?a18 ?l18 ?c18 ?k18 ?a19 ?l19 ?c19 ?k19 ?z_abs ?z_enumerate ?z_int ?z_len ?z_list ?z_min ?z_range ?z_repr ?z_sum ?z_tuple ?z_zip
    (case aC => k_is)
    (case pg => k_is)
    (case hd => k_is)
    (case po => k_is)
    (case sa => k_is)
    (case mk => k_is)
    (case kc => k_is)
    (case na_rows => k_is)
    (case na_width => k_is)
    (case a0 => k_is)
    (case l0 => k_is)
    (case c0 => k_is)
    (case k0 => k_is)
    (case a1 => k_is)
    (case l1 => k_is)
    (case c1 => k_is)
    (case k1 => k_is)
    (case a2 => k_is)
    (case l2 => k_is)
    (case c2 => k_is)
    (case k2 => k_is)
    (case a3 => k_is)
    (case l3 => k_is)
    (case c3 => k_is)
    (case k3 => k_is)
    (case a4 => k_is)
    (case i4 => k_is)
    (case l4 => k_is)
    (case c4 => k_is)
    (case k4 => k_is)
    (case a5 => k_is)
    (case i5 => k_is)
    (case l5 => k_is)
    (case c5 => k_is)
    (case k5 => k_is)
    (case a6 => k_is)
    (case i6 => k_is)
    (case l6 => k_is)
    (case c6 => k_is)
    (case k6 => k_is)
    (case a7 => k_is)
    (case i7 => k_is)
    (case l7 => k_is)
    (case c7 => k_is)
    (case k7 => k_is)
    (case a8 => k_is)
    (case l8 => k_is)
    (case c8 => k_is)
    (case k8 => k_is)
    (case a9 => k_is)
    (case l9 => k_is)
    (case c9 => k_is)
    (case k9 => k_is)
    (case a10 => k_is)
    (case l10 => k_is)
    (case c10 => k_is)
    (case k10 => k_is)
    (case a11 => k_is)
    (case l11 => k_is)
    (case c11 => k_is)
    (case k11 => k_is)
    (case a12 => k_is)
    (case l12 => k_is)
    (case c12 => k_is)
    (case k12 => k_is)
    (case a13 => k_is)
    (case l13 => k_is)
    (case c13 => k_is)
    (case k13 => k_is)
    (case a14 => k_is)
    (case l14 => k_is)
    (case c14 => k_is)
    (case k14 => k_is)
    (case a15 => k_is)
    (case l15 => k_is)
    (case c15 => k_is)
    (case k15 => k_is)
    (case a16 => k_is)
    (case l16 => k_is)
    (case c16 => k_is)
    (case k16 => k_is)
    (case a17 => k_is)
    (case l17 => k_is)
    (case c17 => k_is)
    (case k17 => k_is)
    (case a18 => k_is)
    (case l18 => k_is)
    (case c18 => k_is)
    (case k18 => k_is)
    (case a19 => k_is)
    (case l19 => k_is)
    (case c19 => k_is)
    (case k19 => k_is)
    (case z_abs => k_is)
    (case z_enumerate => k_is)
    (case z_int => k_is)
    (case z_len => k_is)
    (case z_list => k_is)
    (case z_min => k_is)
    (case z_range => k_is)
    (case z_repr => k_is)
    (case z_sum => k_is)
    (case z_tuple => k_is)
    (case z_zip => k_is)
