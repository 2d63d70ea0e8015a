import PyProof.Rows.All
import Wide.All
import OpenK.AllK
import Wide.FinOn
import HandS.ForMost
import HandS.ForExc
import KE.KeyNested
import KE.KDictKeyed
import KE.KDictDisplayH
import KE.KSortTupG
import KE.KDictWalk
import KE.SortData
import KE.DataMinMax
import HandS.Strs
import HandS.Conv
import HandS.More
import HandS.Walk
import HandS.TupMul
import HandS.TupSets
import HandS.TupAny
import HandS.SetFor
import HandS.IsInst
import HandS.Sort
import HandS.Iter
import KE.KEqSeq
import HandS.Zip
import HandS.TupLe
import PySem.Challenge.RW_huelists_k35_whole_terms
set_option linter.all false
set_option maxRecDepth 100000
namespace HL
/-! ### dicts as lists of pairs -/
section
variable {κ : Type} [DecidableEq κ]
def aget (l : List (κ × Int)) (k : κ) : Int := ((l.find? fun kv => decide (kv.1 = k)).map (·.2)).getD 0
def aput (l : List (κ × Int)) (k : κ) (v : Int) : List (κ × Int) :=
  if (l.any fun kv => decide (kv.1 = k)) = true then l.map (fun kv => if kv.1 = k then (kv.1, v) else kv) else l ++ [(k, v)]
def S (l : List (κ × Int)) (φ : κ → Int) : Int := (l.map fun kv => kv.2 * φ kv.1).sum
def Nd (l : List (κ × Int)) : Prop := (l.map (·.1)).Nodup

theorem S_nil (φ : κ → Int) : S ([] : List (κ × Int)) φ = 0 := rfl
theorem S_cons (p : κ × Int) (l : List (κ × Int)) (φ : κ → Int) : S (p :: l) φ = p.2 * φ p.1 + S l φ := by
  simp [S]
theorem S_append (l m : List (κ × Int)) (φ : κ → Int) : S (l ++ m) φ = S l φ + S m φ := by
  simp [S]
theorem aget_cons (p : κ × Int) (l : List (κ × Int)) (k : κ) : aget (p :: l) k = if p.1 = k then p.2 else aget l k := by
  unfold aget
  rw [List.find?_cons]
  by_cases h : p.1 = k <;> simp [h]
theorem Nd_cons {p : κ × Int} {l : List (κ × Int)} : Nd (p :: l) ↔ (∀ q ∈ l, q.1 ≠ p.1) ∧ Nd l := by
  unfold Nd
  rw [List.map_cons, List.nodup_cons]
  constructor
  · rintro ⟨h1, h2⟩
    exact ⟨fun q hq e => h1 (List.mem_map.mpr ⟨q, hq, e⟩), h2⟩
  · rintro ⟨h1, h2⟩
    refine ⟨fun h => ?_, h2⟩
    obtain ⟨q, hq, e⟩ := List.mem_map.mp h
    exact h1 q hq e
theorem aget_no {l : List (κ × Int)} {k : κ} (h : ∀ q ∈ l, q.1 ≠ k) : aget l k = 0 := by
  induction l with
  | nil => rfl
  | cons p l ih =>
    rw [aget_cons, if_neg (h p List.mem_cons_self)]
    exact ih fun q hq => h q (List.mem_cons_of_mem _ hq)
theorem aget_mem {l : List (κ × Int)} {k : κ} {c : Int} (nd : Nd l) (h : (k, c) ∈ l) : aget l k = c := by
  induction l with
  | nil => exact nomatch h
  | cons p l ih =>
    rw [aget_cons]
    obtain ⟨h1, h2⟩ := Nd_cons.mp nd
    rcases List.mem_cons.mp h with e | h'
    · subst e; simp
    · have : p.1 ≠ k := fun e => h1 _ h' e.symm
      rw [if_neg this]; exact ih h2 h'
theorem mem_of_aget {l : List (κ × Int)} {k : κ} (h : aget l k ≠ 0) : (k, aget l k) ∈ l := by
  induction l with
  | nil => exact absurd rfl h
  | cons p l ih =>
    rw [aget_cons] at h ⊢
    by_cases e : p.1 = k
    · subst e; simp
    · rw [if_neg e] at h ⊢
      exact List.mem_cons_of_mem _ (ih h)
theorem any_iff {l : List (κ × Int)} {k : κ} : (l.any fun kv => decide (kv.1 = k)) = true ↔ ∃ q ∈ l, q.1 = k := by
  simp [List.any_eq_true]
/-- the sum behind a put -/
theorem S_repl {l : List (κ × Int)} {k : κ} {v : Int} {φ : κ → Int} (nd : Nd l) (h : ∃ q ∈ l, q.1 = k) :
    S (l.map fun kv => if kv.1 = k then (kv.1, v) else kv) φ = S l φ + (v - aget l k) * φ k := by
  induction l with
  | nil => obtain ⟨q, hq, _⟩ := h; exact nomatch hq
  | cons p l ih =>
    obtain ⟨h1, h2⟩ := Nd_cons.mp nd
    rw [List.map_cons, S_cons, S_cons, aget_cons]
    by_cases e : p.1 = k
    · have : (l.map fun kv => if kv.1 = k then (kv.1, v) else kv) = l := by
        have : ∀ q ∈ l, (if q.1 = k then (q.1, v) else q) = q := fun q hq => if_neg fun z => h1 q hq (z.trans e.symm)
        calc _ = l.map id := List.map_congr_left this
          _ = l := List.map_id _
      rw [this, if_pos e, if_pos e, ← e]
      grind
    · rw [if_neg e, if_neg e, ih h2 ?_]
      · grind
      · obtain ⟨q, hq, eq⟩ := h
        rcases List.mem_cons.mp hq with z | hq
        · subst z; exact absurd eq e
        · exact ⟨q, hq, eq⟩
theorem S_put {l : List (κ × Int)} {k : κ} {d : Int} {φ : κ → Int} (nd : Nd l) : S (aput l k (aget l k + d)) φ = S l φ + d * φ k := by
  unfold aput
  by_cases h : (l.any fun kv => decide (kv.1 = k)) = true
  · rw [if_pos h, S_repl nd (any_iff.mp h)]
    grind
  · rw [if_neg h, S_append, S_cons, S_nil]
    have : aget l k = 0 := aget_no fun q hq e => h (any_iff.mpr ⟨q, hq, e⟩)
    rw [this]; grind
theorem keys_put (l : List (κ × Int)) (k : κ) (v : Int) : (aput l k v).map (·.1) = if (l.any fun kv => decide (kv.1 = k)) = true then l.map (·.1) else l.map (·.1) ++ [k] := by
  unfold aput
  split
  · rw [List.map_map]
    refine List.map_congr_left fun q hq => ?_
    simp only [Function.comp]
    split <;> rfl
  · rw [List.map_append]; rfl
theorem Nd_put {l : List (κ × Int)} {k : κ} {v : Int} (nd : Nd l) : Nd (aput l k v) := by
  unfold Nd
  rw [keys_put]
  split
  · exact nd
  · rename_i h
    rw [List.nodup_append]
    refine ⟨nd, by simp, fun a ha b hb => ?_⟩
    rw [List.mem_singleton] at hb
    subst hb
    rintro rfl
    obtain ⟨q, hq, e⟩ := List.mem_map.mp ha
    exact h (any_iff.mpr ⟨q, hq, e⟩)
theorem key_put {l : List (κ × Int)} {k : κ} {v : Int} {q : κ × Int} (h : q ∈ aput l k v) : q.1 = k ∨ ∃ q' ∈ l, q'.1 = q.1 := by
  have : q.1 ∈ (aput l k v).map (·.1) := List.mem_map.mpr ⟨q, h, rfl⟩
  rw [keys_put] at this
  split at this
  · obtain ⟨q', hq, e⟩ := List.mem_map.mp this
    exact .inr ⟨q', hq, e⟩
  · rcases List.mem_append.mp this with h | h
    · obtain ⟨q', hq, e⟩ := List.mem_map.mp h
      exact .inr ⟨q', hq, e⟩
    · exact .inl (List.mem_singleton.mp h)
theorem len_put (l : List (κ × Int)) (k : κ) (v : Int) : (aput l k v).length ≤ l.length + 1 := by
  unfold aput
  split <;> simp
theorem len_le_put (l : List (κ × Int)) (k : κ) (v : Int) : l.length ≤ (aput l k v).length := by
  unfold aput
  split <;> simp
theorem aget_S {l : List (κ × Int)} (nd : Nd l) (k : κ) : aget l k = S l fun j => if j = k then 1 else 0 := by
  induction l with
  | nil => rfl
  | cons p l ih =>
    obtain ⟨h1, h2⟩ := Nd_cons.mp nd
    rw [aget_cons, S_cons, ← ih h2]
    by_cases e : p.1 = k
    · rw [if_pos e, if_pos e, aget_no fun q hq z => h1 q hq (z.trans e.symm)]; grind
    · rw [if_neg e, if_neg e]; grind
theorem S_filter (l : List (κ × Int)) (φ : κ → Int) : S (l.filter fun kv => decide (kv.2 ≠ 0)) φ = S l φ := by
  induction l with
  | nil => rfl
  | cons p l ih =>
    rw [List.filter_cons]
    by_cases e : p.2 = 0
    · rw [if_neg (by simp [e]), ih, S_cons, e]; grind
    · rw [if_pos (by simp [e]), S_cons, S_cons, ih]
theorem S_congr {l : List (κ × Int)} {φ ψ : κ → Int} (h : ∀ q ∈ l, φ q.1 = ψ q.1) : S l φ = S l ψ := by
  unfold S
  rw [List.map_congr_left fun q hq => by rw [h q hq]]
theorem S_sub (l : List (κ × Int)) (φ ψ : κ → Int) : S l (fun p => φ p - ψ p) = S l φ - S l ψ := by
  induction l with
  | nil => rfl
  | cons p l ih => rw [S_cons, S_cons, S_cons, ih]; grind
theorem Nd_filter {l : List (κ × Int)} (f : κ × Int → Bool) (nd : Nd l) : Nd (l.filter f) := by
  unfold Nd
  exact nd.sublist (List.Sublist.map _ List.filter_sublist)
end

/-! ### powers -/
abbrev Pw := List Int
def raise (p : Pw) (i : Nat) : Pw := p.set i (p.getD i 0 + 1)
def zeros (n : Nat) : Pw := List.replicate n 0
theorem raise_length (p : Pw) (i : Nat) : (raise p i).length = p.length := by simp [raise]
theorem raise_cut {p : Pw} {i : Nat} (h : i < p.length) : raise p i = p.take i ++ [p.getD i 0 + 1] ++ p.drop (i + 1) := by
  unfold raise
  rw [List.set_eq_take_append_cons_drop, if_pos h]
  simp
theorem raise_get {p : Pw} {i : Nat} (h : i < p.length) (j : Nat) : (raise p i).getD j 0 = p.getD j 0 + if j = i then 1 else 0 := by
  unfold raise
  simp only [List.getD_eq_getElem?_getD, List.getElem?_set]
  by_cases e : i = j
  · subst e; simp [h]
  · rw [if_neg e, if_neg (Ne.symm e)]; simp
theorem raise_sum {p : Pw} {i : Nat} (h : i < p.length) : (raise p i).sum = p.sum + 1 := by
  induction p generalizing i with
  | nil => exact absurd h (Nat.not_lt_zero _)
  | cons x p ih =>
    cases i with
    | zero => simp [raise]; omega
    | succ i =>
      have := ih (i := i) (by simpa using h)
      simp only [raise, List.set_cons_succ, List.sum_cons, List.getD_cons_succ] at this ⊢
      omega
theorem raise_nonneg {p : Pw} {i : Nat} (h : ∀ x ∈ p, 0 ≤ x) : ∀ x ∈ raise p i, 0 ≤ x := by
  intro x hx
  unfold raise at hx
  rcases List.mem_or_eq_of_mem_set hx with hx | hx
  · exact h x hx
  · subst hx
    have : 0 ≤ p.getD i 0 := by
      rw [List.getD_eq_getElem?_getD]
      cases e : p[i]? with
      | none => simp
      | some y => exact h y (List.mem_of_getElem? e)
    omega

/-! ### the product's terms -/
def tstep1 (t : Nat × Nat) (l : List (Pw × Int)) (pc : Pw × Int) : List (Pw × Int) :=
  let l1 := aput l (raise pc.1 t.1) (aget l (raise pc.1 t.1) + 1 * pc.2)
  aput l1 (raise pc.1 t.2) (aget l1 (raise pc.1 t.2) + (-1) * pc.2)
def tlater (found : List (Pw × Int)) (t : Nat × Nat) : List (Pw × Int) := found.foldl (tstep1 t) []
def tstep (found : List (Pw × Int)) (t : Nat × Nat) : List (Pw × Int) := (tlater found t).filter fun kv => decide (kv.2 ≠ 0)
def terms (n : Nat) (ts : List (Nat × Nat)) : List (Pw × Int) := ts.foldl tstep [(zeros n, 1)]
def G : List (Nat × Nat) → (Pw → Int) → Pw → Int
  | [], φ => φ
  | t :: ts, φ => fun p => G ts φ (raise p t.1) - G ts φ (raise p t.2)

theorem tstep1_ok {t : Nat × Nat} {l : List (Pw × Int)} {pc : Pw × Int} (nd : Nd l) :
    Nd (tstep1 t l pc) ∧ (∀ φ, S (tstep1 t l pc) φ = S l φ + pc.2 * (φ (raise pc.1 t.1) - φ (raise pc.1 t.2))) ∧ (tstep1 t l pc).length ≤ l.length + 2 ∧
    ∀ q ∈ tstep1 t l pc, q.1 = raise pc.1 t.1 ∨ q.1 = raise pc.1 t.2 ∨ ∃ q' ∈ l, q'.1 = q.1 := by
  unfold tstep1
  refine ⟨Nd_put (Nd_put nd), fun φ => ?_, ?_, fun q hq => ?_⟩
  · rw [S_put (Nd_put nd), S_put nd]; grind
  · have h1 := len_put l (raise pc.1 t.1) (aget l (raise pc.1 t.1) + 1 * pc.2)
    have h2 := len_put (aput l (raise pc.1 t.1) (aget l (raise pc.1 t.1) + 1 * pc.2)) (raise pc.1 t.2) (aget (aput l (raise pc.1 t.1) (aget l (raise pc.1 t.1) + 1 * pc.2)) (raise pc.1 t.2) + (-1) * pc.2)
    simp only
    omega
  · rcases key_put hq with h | ⟨q', hq', e⟩
    · exact .inr (.inl h)
    · rcases key_put hq' with h | ⟨q2, hq2, e2⟩
      · exact .inl (e ▸ h)
      · exact .inr (.inr ⟨q2, hq2, e2.trans e⟩)
theorem tfold_ok (t : Nat × Nat) : ∀ (found l : List (Pw × Int)), Nd l →
    Nd (found.foldl (tstep1 t) l) ∧ (∀ φ, S (found.foldl (tstep1 t) l) φ = S l φ + S found fun p => φ (raise p t.1) - φ (raise p t.2)) ∧
    (found.foldl (tstep1 t) l).length ≤ l.length + 2 * found.length ∧
    ∀ q ∈ found.foldl (tstep1 t) l, (∃ p ∈ found, q.1 = raise p.1 t.1 ∨ q.1 = raise p.1 t.2) ∨ ∃ q' ∈ l, q'.1 = q.1
  | [], l, nd => ⟨nd, fun φ => by rw [List.foldl_nil, S_nil]; omega, by simp, fun q hq => .inr ⟨q, hq, rfl⟩⟩
  | pc :: r, l, nd => by
    obtain ⟨h1, h2, h3, h4⟩ := tstep1_ok (t := t) (pc := pc) nd
    obtain ⟨g1, g2, g3, g4⟩ := tfold_ok t r _ h1
    rw [List.foldl_cons]
    refine ⟨g1, fun φ => ?_, ?_, fun q hq => ?_⟩
    · rw [g2, h2, S_cons]; grind
    · rw [List.length_cons]; omega
    · rcases g4 q hq with ⟨p, hp, e⟩ | ⟨q', hq', e⟩
      · exact .inl ⟨p, List.mem_cons_of_mem _ hp, e⟩
      · rcases h4 q' hq' with h | h | ⟨q2, hq2, e2⟩
        · exact .inl ⟨pc, List.mem_cons_self, .inl (e ▸ h)⟩
        · exact .inl ⟨pc, List.mem_cons_self, .inr (e ▸ h)⟩
        · exact .inr ⟨q2, hq2, e2.trans e⟩
structure POk (n : Nat) (m : Int) (p : Pw) : Prop where
  len : p.length = n
  pos : ∀ x ∈ p, 0 ≤ x
  sum : p.sum = m
theorem POk.raise {n : Nat} {m : Int} {p : Pw} (h : POk n m p) {i : Nat} (hi : i < n) : POk n (m + 1) (raise p i) :=
  ⟨(raise_length _ _).trans h.len, raise_nonneg h.pos, by rw [raise_sum (by rw [h.len]; exact hi), h.sum]⟩
theorem POk.zeros (n : Nat) : POk n 0 (zeros n) := ⟨by simp [HL.zeros], fun x hx => by simp [HL.zeros] at hx; omega, by
  unfold HL.zeros
  induction n with
  | zero => rfl
  | succ n ih => rw [List.replicate_succ, List.sum_cons, ih]; rfl⟩
theorem tlater_ok {n : Nat} {m : Int} {t : Nat × Nat} {found : List (Pw × Int)} (h1 : t.1 < n) (h2 : t.2 < n) (ok : ∀ q ∈ found, POk n m q.1) :
    Nd (tlater found t) ∧ (∀ φ, S (tlater found t) φ = S found fun p => φ (raise p t.1) - φ (raise p t.2)) ∧ (tlater found t).length ≤ 2 * found.length ∧ ∀ q ∈ tlater found t, POk n (m + 1) q.1 := by
  obtain ⟨g1, g2, g3, g4⟩ := tfold_ok t found [] List.nodup_nil
  refine ⟨g1, fun φ => ?_, by unfold tlater; simpa using g3, fun q hq => ?_⟩
  · show S (found.foldl (tstep1 t) []) φ = _
    rw [g2, S_nil]; omega
  · rcases g4 q hq with ⟨p, hp, e | e⟩ | ⟨q', hq', e⟩
    · rw [e]; exact (ok p hp).raise h1
    · rw [e]; exact (ok p hp).raise h2
    · exact nomatch hq'
theorem terms_fold (n : Nat) : ∀ (ts : List (Nat × Nat)) (found : List (Pw × Int)) (m : Int), (∀ t ∈ ts, t.1 < n ∧ t.2 < n) → Nd found → (∀ q ∈ found, POk n m q.1 ∧ q.2 ≠ 0) →
    Nd (ts.foldl tstep found) ∧ (∀ φ, S (ts.foldl tstep found) φ = S found (G ts φ)) ∧ (ts.foldl tstep found).length ≤ 2 ^ ts.length * found.length ∧
    ∀ q ∈ ts.foldl tstep found, POk n (m + ts.length) q.1 ∧ q.2 ≠ 0
  | [], found, m, _, nd, ok => ⟨nd, fun φ => rfl, by simp, fun q hq => by simpa using ok q hq⟩
  | t :: ts, found, m, ht, nd, ok => by
    obtain ⟨a, b⟩ := ht t List.mem_cons_self
    obtain ⟨l1, l2, l3, l4⟩ := tlater_ok a b fun q hq => (ok q hq).1
    have nd' : Nd (tstep found t) := Nd_filter _ l1
    have ok' : ∀ q ∈ tstep found t, POk n (m + 1) q.1 ∧ q.2 ≠ 0 := fun q hq => by
      obtain ⟨h1, h2⟩ := List.mem_filter.mp hq
      exact ⟨l4 q h1, of_decide_eq_true h2⟩
    obtain ⟨g1, g2, g3, g4⟩ := terms_fold n ts (tstep found t) (m + 1) (fun t' h' => ht t' (List.mem_cons_of_mem _ h')) nd' ok'
    rw [List.foldl_cons]
    refine ⟨g1, fun φ => ?_, ?_, fun q hq => ?_⟩
    · rw [g2]
      show S ((tlater found t).filter _) _ = _
      rw [S_filter, l2]
      rfl
    · have : (tstep found t).length ≤ 2 * found.length := Nat.le_trans (List.length_filter_le _ _) l3
      refine Nat.le_trans g3 ?_
      rw [List.length_cons, Nat.pow_succ, Nat.mul_assoc]
      exact Nat.mul_le_mul_left _ this
    · obtain ⟨h1, h2⟩ := g4 q hq
      refine ⟨⟨h1.len, h1.pos, ?_⟩, h2⟩
      rw [h1.sum, List.length_cons]; omega
section
variable {n : Nat} {ts : List (Nat × Nat)} (ht : ∀ t ∈ ts, t.1 < n ∧ t.2 < n)
include ht
theorem terms_all : Nd (terms n ts) ∧ (∀ φ, S (terms n ts) φ = G ts φ (zeros n)) ∧ (terms n ts).length ≤ 2 ^ ts.length ∧ ∀ q ∈ terms n ts, POk n ts.length q.1 ∧ q.2 ≠ 0 := by
  obtain ⟨g1, g2, g3, g4⟩ := terms_fold n ts [(zeros n, 1)] 0 ht (by simp [Nd]) (fun q hq => by
    rw [List.mem_singleton] at hq; subst hq; exact ⟨POk.zeros n, show (1 : Int) ≠ 0 by decide⟩)
  refine ⟨g1, fun φ => ?_, by unfold terms; simpa using g3, fun q hq => ?_⟩
  · show S (ts.foldl tstep _) φ = _
    rw [g2, S_cons, S_nil]
    show 1 * G ts φ (zeros n) + 0 = G ts φ (zeros n)
    omega
  · have := g4 q hq; rw [Int.zero_add] at this; exact this
end
/-! with x put -/
def mono : List Int → Pw → Int
  | x :: xs, k :: p => x ^ k.toNat * mono xs p
  | _, _ => 1
theorem mono_raise : ∀ {xs : List Int} {p : Pw} {i : Nat}, xs.length = p.length → (∀ k ∈ p, 0 ≤ k) → i < p.length → mono xs (raise p i) = xs.getD i 0 * mono xs p
  | [], [], _, _, _, h => absurd h (Nat.not_lt_zero _)
  | x :: xs, k :: p, 0, _, hp, _ => by
    have hk : 0 ≤ k := hp k List.mem_cons_self
    show x ^ (k + 1).toNat * mono xs p = x * (x ^ k.toNat * mono xs p)
    have : (k + 1).toNat = k.toNat + 1 := by omega
    rw [this, Int.pow_succ]; grind
  | x :: xs, k :: p, i + 1, hl, hp, hi => by
    have ih := mono_raise (xs := xs) (p := p) (i := i) (by simpa using hl) (fun j hj => hp j (List.mem_cons_of_mem _ hj)) (by simpa using hi)
    show x ^ k.toNat * mono xs (raise p i) = xs.getD i 0 * (x ^ k.toNat * mono xs p)
    rw [ih]; grind
  | [], _ :: _, _, h, _, _ => by simp at h
  | _ :: _, [], _, h, _, _ => by simp at h
def prod (ts : List (Nat × Nat)) (xs : List Int) : Int := ts.foldl (fun a t => a * (xs.getD t.1 0 - xs.getD t.2 0)) 1
theorem prod_from (xs : List Int) : ∀ (ts : List (Nat × Nat)) (a : Int), ts.foldl (fun a t => a * (xs.getD t.1 0 - xs.getD t.2 0)) a = a * prod ts xs
  | [], a => by simp [prod]
  | t :: ts, a => by
    unfold prod
    rw [List.foldl_cons, List.foldl_cons, prod_from xs ts, prod_from xs ts (1 * _)]; grind
theorem prod_cons (xs : List Int) (t : Nat × Nat) (ts : List (Nat × Nat)) : prod (t :: ts) xs = (xs.getD t.1 0 - xs.getD t.2 0) * prod ts xs := by
  show ts.foldl _ (1 * _) = _
  rw [prod_from]; grind
theorem G_mono {n : Nat} {xs : List Int} (hx : xs.length = n) : ∀ (ts : List (Nat × Nat)) (p : Pw), (∀ t ∈ ts, t.1 < n ∧ t.2 < n) → p.length = n → (∀ k ∈ p, 0 ≤ k) → G ts (mono xs) p = prod ts xs * mono xs p
  | [], p, _, _, _ => by simp [G, prod]
  | t :: ts, p, ht, hp, hk => by
    obtain ⟨a, b⟩ := ht t List.mem_cons_self
    have ht' : ∀ t ∈ ts, t.1 < n ∧ t.2 < n := fun t' h' => ht t' (List.mem_cons_of_mem _ h')
    show G ts (mono xs) (raise p t.1) - G ts (mono xs) (raise p t.2) = _
    rw [G_mono hx ts _ ht' ((raise_length _ _).trans hp) (raise_nonneg hk), G_mono hx ts _ ht' ((raise_length _ _).trans hp) (raise_nonneg hk),
      mono_raise (by omega) hk (by omega), mono_raise (by omega) hk (by omega), prod_cons]
    grind
theorem mono_zeros (n : Nat) (xs : List Int) : mono xs (zeros n) = 1 := by
  induction n generalizing xs with
  | zero => cases xs <;> rfl
  | succ n ih =>
    cases xs with
    | nil => rfl
    | cons x xs =>
      show x ^ (0 : Int).toNat * mono xs (zeros n) = 1
      rw [ih]; simp
theorem G_one : ∀ (ts : List (Nat × Nat)) (p : Pw), G ts (fun _ => 1) p = if ts = [] then 1 else 0
  | [], p => by simp [G]
  | t :: ts, p => by
    show G ts _ _ - G ts _ _ = _
    rw [G_one ts, G_one ts]; simp
section
variable {n : Nat} {ts : List (Nat × Nat)} (ht : ∀ t ∈ ts, t.1 < n ∧ t.2 < n)
include ht
/-- by numbers put for x the sum of terms is the product -/
theorem terms_put {xs : List Int} (hx : xs.length = n) : S (terms n ts) (mono xs) = prod ts xs := by
  rw [(terms_all ht).2.1, G_mono hx ts _ ht (POk.zeros n).len (POk.zeros n).pos, mono_zeros, Int.mul_one]
theorem terms_sum : ((terms n ts).map (·.2)).sum = if ts = [] then 1 else 0 := by
  have h := (terms_all ht).2.1 fun _ => 1
  rw [G_one] at h
  rw [← h]
  unfold S
  congr 1
  exact List.map_congr_left fun q _ => (Int.mul_one _).symm
end
end HL

set_option linter.all false
set_option maxRecDepth 100000
namespace HL
/-! ### runs -/
abbrev RK := Pw × Int
def rstep1 (t : Nat × Nat) (l : List (RK × Int)) (pc : RK × Int) : List (RK × Int) :=
  let k1 : RK := (raise pc.1.1 t.1, pc.1.2)
  let k2 : RK := (raise pc.1.1 t.2, 1 - pc.1.2)
  let l1 := aput l k1 (aget l k1 + pc.2)
  aput l1 k2 (aget l1 k2 + pc.2)
def rstep (found : List (RK × Int)) (t : Nat × Nat) : List (RK × Int) := found.foldl (rstep1 t) []
def runs (n : Nat) (ts : List (Nat × Nat)) : List (RK × Int) := ts.foldl rstep [((zeros n, 0), 1)]
structure RKOk (n : Nat) (m : Int) (k : RK) : Prop where
  p : POk n m k.1
  o : k.2 = 0 ∨ k.2 = 1
theorem rstep1_ok {t : Nat × Nat} {l : List (RK × Int)} {pc : RK × Int} (nd : Nd l) :
    Nd (rstep1 t l pc) ∧ (∀ φ, S (rstep1 t l pc) φ = S l φ + pc.2 * (φ (raise pc.1.1 t.1, pc.1.2) + φ (raise pc.1.1 t.2, 1 - pc.1.2))) ∧ (rstep1 t l pc).length ≤ l.length + 2 ∧
    ∀ q ∈ rstep1 t l pc, q.1 = (raise pc.1.1 t.1, pc.1.2) ∨ q.1 = (raise pc.1.1 t.2, 1 - pc.1.2) ∨ ∃ q' ∈ l, q'.1 = q.1 := by
  unfold rstep1
  refine ⟨Nd_put (Nd_put nd), fun φ => ?_, ?_, fun q hq => ?_⟩
  · rw [S_put (Nd_put nd), S_put nd]; grind
  · have h1 := len_put l ((raise pc.1.1 t.1, pc.1.2) : RK) (aget l ((raise pc.1.1 t.1, pc.1.2) : RK) + pc.2)
    have h2 := len_put (aput l ((raise pc.1.1 t.1, pc.1.2) : RK) (aget l ((raise pc.1.1 t.1, pc.1.2) : RK) + pc.2)) ((raise pc.1.1 t.2, 1 - pc.1.2) : RK) (aget (aput l ((raise pc.1.1 t.1, pc.1.2) : RK) (aget l ((raise pc.1.1 t.1, pc.1.2) : RK) + pc.2)) ((raise pc.1.1 t.2, 1 - pc.1.2) : RK) + pc.2)
    simp only
    omega
  · rcases key_put hq with h | ⟨q', hq', e⟩
    · exact .inr (.inl h)
    · rcases key_put hq' with h | ⟨q2, hq2, e2⟩
      · exact .inl (e ▸ h)
      · exact .inr (.inr ⟨q2, hq2, e2.trans e⟩)
theorem rfold_ok (t : Nat × Nat) : ∀ (found l : List (RK × Int)), Nd l →
    Nd (found.foldl (rstep1 t) l) ∧ (∀ φ, S (found.foldl (rstep1 t) l) φ = S l φ + S found fun k => φ (raise k.1 t.1, k.2) + φ (raise k.1 t.2, 1 - k.2)) ∧
    (found.foldl (rstep1 t) l).length ≤ l.length + 2 * found.length ∧
    ∀ q ∈ found.foldl (rstep1 t) l, (∃ p ∈ found, q.1 = (raise p.1.1 t.1, p.1.2) ∨ q.1 = (raise p.1.1 t.2, 1 - p.1.2)) ∨ ∃ q' ∈ l, q'.1 = q.1
  | [], l, nd => ⟨nd, fun φ => by rw [List.foldl_nil, S_nil]; omega, by simp, fun q hq => .inr ⟨q, hq, rfl⟩⟩
  | pc :: r, l, nd => by
    obtain ⟨h1, h2, h3, h4⟩ := rstep1_ok (t := t) (pc := pc) nd
    obtain ⟨g1, g2, g3, g4⟩ := rfold_ok t r _ h1
    rw [List.foldl_cons]
    refine ⟨g1, fun φ => ?_, ?_, fun q hq => ?_⟩
    · rw [g2, h2, S_cons]; grind
    · rw [List.length_cons]; omega
    · rcases g4 q hq with ⟨p, hp, e⟩ | ⟨q', hq', e⟩
      · exact .inl ⟨p, List.mem_cons_of_mem _ hp, e⟩
      · rcases h4 q' hq' with h | h | ⟨q2, hq2, e2⟩
        · exact .inl ⟨pc, List.mem_cons_self, .inl (e ▸ h)⟩
        · exact .inl ⟨pc, List.mem_cons_self, .inr (e ▸ h)⟩
        · exact .inr ⟨q2, hq2, e2.trans e⟩
def sgn (o : Int) : Int := 1 - 2 * o
theorem rstep_ok {n : Nat} {m : Int} {t : Nat × Nat} {found : List (RK × Int)} (h1 : t.1 < n) (h2 : t.2 < n) (ok : ∀ q ∈ found, RKOk n m q.1) :
    Nd (rstep found t) ∧ (∀ φ : Pw → Int, S (rstep found t) (fun k => sgn k.2 * φ k.1) = S found fun k => sgn k.2 * (φ (raise k.1 t.1) - φ (raise k.1 t.2))) ∧ (rstep found t).length ≤ 2 * found.length ∧ ∀ q ∈ rstep found t, RKOk n (m + 1) q.1 := by
  obtain ⟨g1, g2, g3, g4⟩ := rfold_ok t found [] List.nodup_nil
  refine ⟨g1, fun φ => ?_, by unfold rstep; simpa using g3, fun q hq => ?_⟩
  · show S (found.foldl (rstep1 t) []) _ = _
    rw [g2, S_nil, Int.zero_add]
    refine S_congr fun q _ => ?_
    unfold sgn
    grind
  · rcases g4 q hq with ⟨p, hp, e | e⟩ | ⟨q', hq', e⟩
    · rw [e]; exact ⟨(ok p hp).p.raise h1, (ok p hp).o⟩
    · rw [e]
      refine ⟨(ok p hp).p.raise h2, ?_⟩
      rcases (ok p hp).o with z | z
      · exact .inr (by show 1 - p.1.2 = 1; omega)
      · exact .inl (by show 1 - p.1.2 = 0; omega)
    · exact nomatch hq'
theorem runs_fold (n : Nat) : ∀ (ts : List (Nat × Nat)) (found : List (RK × Int)) (m : Int), (∀ t ∈ ts, t.1 < n ∧ t.2 < n) → Nd found → (∀ q ∈ found, RKOk n m q.1) →
    Nd (ts.foldl rstep found) ∧ (∀ φ : Pw → Int, S (ts.foldl rstep found) (fun k => sgn k.2 * φ k.1) = S found fun k => sgn k.2 * G ts φ k.1) ∧ (ts.foldl rstep found).length ≤ 2 ^ ts.length * found.length ∧
    ∀ q ∈ ts.foldl rstep found, RKOk n (m + ts.length) q.1
  | [], found, m, _, nd, ok => ⟨nd, fun φ => rfl, by simp, fun q hq => by simpa using ok q hq⟩
  | t :: ts, found, m, ht, nd, ok => by
    obtain ⟨a, b⟩ := ht t List.mem_cons_self
    obtain ⟨l1, l2, l3, l4⟩ := rstep_ok a b ok
    obtain ⟨g1, g2, g3, g4⟩ := runs_fold n ts (rstep found t) (m + 1) (fun t' h' => ht t' (List.mem_cons_of_mem _ h')) l1 l4
    rw [List.foldl_cons]
    refine ⟨g1, fun φ => ?_, ?_, fun q hq => ?_⟩
    · rw [g2, l2]
      rfl
    · refine Nat.le_trans g3 ?_
      rw [List.length_cons, Nat.pow_succ, Nat.mul_assoc]
      exact Nat.mul_le_mul_left _ l3
    · have h1 := g4 q hq
      have e : m + 1 + (ts.length : Int) = m + ((t :: ts).length : Int) := by rw [List.length_cons]; omega
      rw [e] at h1; exact h1
section
variable {n : Nat} {ts : List (Nat × Nat)} (ht : ∀ t ∈ ts, t.1 < n ∧ t.2 < n)
include ht
theorem runs_all : Nd (runs n ts) ∧ (∀ φ : Pw → Int, S (runs n ts) (fun k => sgn k.2 * φ k.1) = G ts φ (zeros n)) ∧ (runs n ts).length ≤ 2 ^ ts.length ∧ ∀ q ∈ runs n ts, RKOk n ts.length q.1 := by
  obtain ⟨g1, g2, g3, g4⟩ := runs_fold n ts [((zeros n, 0), 1)] 0 ht (by simp [Nd]) (fun q hq => by
    rw [List.mem_singleton] at hq; subst hq; exact ⟨POk.zeros n, .inl rfl⟩)
  refine ⟨g1, fun φ => ?_, by unfold runs; simpa using g3, fun q hq => ?_⟩
  · show S (ts.foldl rstep _) _ = _
    rw [g2, S_cons, S_nil]
    show 1 * (sgn 0 * G ts φ (zeros n)) + 0 = G ts φ (zeros n)
    unfold sgn
    omega
  · have := g4 q hq; rw [Int.zero_add] at this; exact this
/-- a term's number is even runs less odd -/
theorem runs_term (p : Pw) : aget (runs n ts) (p, 0) - aget (runs n ts) (p, 1) = aget (terms n ts) p := by
  obtain ⟨r1, r2, r3, r4⟩ := runs_all ht
  obtain ⟨t1, t2, t3, t4⟩ := terms_all ht
  rw [aget_S r1, aget_S r1, aget_S t1, t2, ← r2, ← S_sub]
  refine S_congr fun q hq => ?_
  obtain ⟨⟨k, o⟩, c⟩ := q
  have h : o = 0 ∨ o = 1 := (r4 _ hq).o
  simp only [Prod.mk.injEq]
  unfold sgn
  by_cases e : k = p <;> rcases h with h | h <;> subst h <;> simp [e]
end

/-! ### whatever the lists: weights on a list of numbers -/
/-- a sum of powers at weighted numbers -/
def psi (W : List (Int × Int)) (k : Nat) : Int := (W.map fun sw => sw.2 * sw.1 ^ k).sum
theorem sum_map_add {α : Type} (l : List α) (f g : α → Int) : (l.map fun x => f x + g x).sum = (l.map f).sum + (l.map g).sum := by
  induction l with
  | nil => rfl
  | cons a l ih => simp only [List.map_cons, List.sum_cons, ih]; omega
theorem sum_map_mul {α : Type} (l : List α) (c : Int) (f : α → Int) : (l.map fun x => c * f x).sum = c * (l.map f).sum := by
  induction l with
  | nil => simp
  | cons a l ih => simp only [List.map_cons, List.sum_cons, ih]; grind
theorem sum_map_zero {α : Type} (l : List α) (f : α → Int) (h : ∀ x ∈ l, f x = 0) : (l.map f).sum = 0 := by
  induction l with
  | nil => rfl
  | cons a l ih => rw [List.map_cons, List.sum_cons, h a List.mem_cons_self, ih fun x hx => h x (List.mem_cons_of_mem _ hx)]; rfl
/-- the product of t - s0 over t in S -/
def pall (s0 : Int) (L : List Int) : Int := L.foldr (fun t a => (t - s0) * a) 1
theorem pall_ne {s0 : Int} : ∀ {L : List Int}, (∀ t ∈ L, t ≠ s0) → pall s0 L ≠ 0
  | [], _ => show (1 : Int) ≠ 0 by decide
  | t :: L, h => by
    show (t - s0) * pall s0 L ≠ 0
    have h1 : t - s0 ≠ 0 := by have := h t List.mem_cons_self; omega
    have h2 := pall_ne (s0 := s0) (L := L) fun u hu => h u (List.mem_cons_of_mem _ hu)
    exact Int.mul_ne_zero h1 h2
/-- the weights w'_s with w'_s (s - s0) = w_s * scale -/
theorem scaled (s0 : Int) : ∀ (W : List (Int × Int)), (∀ q ∈ W, q.1 ≠ s0) → ∃ W' : List (Int × Int), W'.map (·.1) = W.map (·.1) ∧
    ∀ f : Int → Int, (W'.map fun q => q.2 * ((q.1 - s0) * f q.1)).sum = pall s0 (W.map (·.1)) * (W.map fun q => q.2 * f q.1).sum := by
  intro W hW
  -- each entry is scaled by the product over all the others
  induction W with
  | nil => exact ⟨[], rfl, fun f => by simp⟩
  | cons q W ih =>
    obtain ⟨W', h1, h2⟩ := ih fun p hp => hW p (List.mem_cons_of_mem _ hp)
    refine ⟨(q.1, q.2 * pall s0 (W.map (·.1))) :: W'.map (fun p => (p.1, (q.1 - s0) * p.2)), ?_, fun f => ?_⟩
    · rw [List.map_cons, List.map_cons, List.map_map, ← h1]
      rfl
    · rw [List.map_cons, List.sum_cons, List.map_map, List.map_cons, List.map_cons, List.sum_cons]
      have e : (W'.map ((fun q => q.2 * ((q.1 - s0) * f q.1)) ∘ fun p => (p.1, (q.1 - s0) * p.2))).sum = (q.1 - s0) * (W'.map fun q => q.2 * ((q.1 - s0) * f q.1)).sum := by
        rw [← sum_map_mul]
        congr 1
        refine List.map_congr_left fun p _ => ?_
        show (q.1 - s0) * p.2 * ((p.1 - s0) * f p.1) = _
        grind
      rw [e, h2]
      show _ = (q.1 - s0) * pall s0 (W.map (·.1)) * _
      grind
/-- weights that tell the power d from those below -/
theorem weights : ∀ (L : List Int), L ≠ [] → L.Nodup → ∃ W : List (Int × Int), W.map (·.1) = L ∧ (∀ k, k + 1 < L.length → psi W k = 0) ∧ psi W (L.length - 1) ≠ 0
  | [], h, _ => absurd rfl h
  | [s], _, _ => ⟨[(s, 1)], rfl, fun k hk => by simp at hk, by simp [psi]⟩
  | s0 :: s1 :: L, _, nd => by
    obtain ⟨n1, n2⟩ := List.nodup_cons.mp nd
    obtain ⟨W, e, hz, hn⟩ := weights (s1 :: L) (by simp) n2
    have hne : ∀ q ∈ W, q.1 ≠ s0 := fun q hq z => n1 (by rw [← e, ← z]; exact List.mem_map.mpr ⟨q, hq, rfl⟩)
    obtain ⟨W', e', hs⟩ := scaled s0 W hne
    have hp : pall s0 (W.map (·.1)) ≠ 0 := pall_ne fun t ht => by
      obtain ⟨q, hq, rfl⟩ := List.mem_map.mp ht
      exact hne q hq
    let w0 : Int := -(psi W' 0)
    have rec_ : ∀ k, psi ((s0, w0) :: W') (k + 1) = s0 * psi ((s0, w0) :: W') k + pall s0 (W.map (·.1)) * psi W k := by
      intro k
      have h := hs fun x => x ^ k
      have h3 : psi W' (k + 1) = (W'.map fun q => q.2 * ((q.1 - s0) * q.1 ^ k)).sum + s0 * psi W' k := by
        unfold psi
        rw [← sum_map_mul, ← sum_map_add]
        congr 1
        refine List.map_congr_left fun p _ => ?_
        rw [Int.pow_succ]; grind
      have a : ∀ j, psi ((s0, w0) :: W') j = w0 * s0 ^ j + psi W' j := fun j => by simp [psi]
      rw [a, a, h3, h]
      show _ + (_ * psi W k + _) = _
      rw [Int.pow_succ]; grind
    have z0 : psi ((s0, w0) :: W') 0 = 0 := by
      have a : psi ((s0, w0) :: W') 0 = w0 * s0 ^ 0 + psi W' 0 := by simp [psi]
      rw [a]; show -(psi W' 0) * s0 ^ 0 + psi W' 0 = 0
      rw [Int.pow_zero]; omega
    have zk : ∀ k, k + 1 < (s0 :: s1 :: L).length → psi ((s0, w0) :: W') k = 0 := by
      intro k
      induction k with
      | zero => exact fun _ => z0
      | succ k ih =>
        intro hk
        rw [rec_, ih (by omega), hz k (by simp only [List.length_cons] at hk ⊢; omega)]
        simp
    refine ⟨(s0, w0) :: W', by rw [List.map_cons, e', e], zk, ?_⟩
    have : (s0 :: s1 :: L).length - 1 = ((s1 :: L).length - 1) + 1 := by simp
    rw [this, rec_, zk _ (by simp)]
    intro z
    rw [Int.mul_zero, Int.zero_add] at z
    exact Int.mul_ne_zero hp hn z
/-! sums over all choices -/
def ms : List (List (Int × Int)) → (List Int → Int) → Int
  | [], f => f []
  | W :: Ws, f => (W.map fun sw => sw.2 * ms Ws fun h => f (sw.1 :: h)).sum
/-- h takes one of each list -/
def InPi : List Int → List (List Int) → Prop
  | [], [] => True
  | x :: h, L :: Ls => x ∈ L ∧ InPi h Ls
  | _, _ => False
theorem InPi.length : ∀ {h : List Int} {Ls : List (List Int)}, InPi h Ls → h.length = Ls.length
  | [], [], _ => rfl
  | x :: h, L :: Ls, q => by rw [List.length_cons, List.length_cons, InPi.length q.2]
  | [], _ :: _, q => q.elim
  | _ :: _, [], q => q.elim
theorem InPi.get : ∀ {h : List Int} {Ls : List (List Int)}, InPi h Ls → ∀ i, i < Ls.length → h.getD i 0 ∈ Ls.getD i []
  | [], [], _, i, hi => absurd hi (Nat.not_lt_zero _)
  | x :: h, L :: Ls, q, 0, _ => q.1
  | x :: h, L :: Ls, q, i + 1, hi => by
    rw [List.getD_cons_succ, List.getD_cons_succ]
    exact InPi.get q.2 i (by simpa using hi)
  | [], _ :: _, q, _, _ => q.elim
  | _ :: _, [], q, _, _ => q.elim
theorem InPi.mono : ∀ {h : List Int} {Ls Ms : List (List Int)}, InPi h Ls → Ls.length = Ms.length → (∀ i, ∀ x ∈ Ls.getD i [], x ∈ Ms.getD i []) → InPi h Ms
  | [], [], [], _, _, _ => trivial
  | x :: h, L :: Ls, M :: Ms, q, e, g => ⟨g 0 x q.1, InPi.mono q.2 (by simpa using e) fun i y hy => by
      have := g (i + 1) y; rw [List.getD_cons_succ, List.getD_cons_succ] at this; exact this hy⟩
  | [], [], _ :: _, _, e, _ => by simp at e
  | _, _ :: _, [], _, e, _ => by simp at e
  | [], _ :: _, _, q, _, _ => q.elim
  | _ :: _, [], _, q, _, _ => q.elim
theorem InPi.of : ∀ {h : List Int} {Ls : List (List Int)}, h.length = Ls.length → (∀ i, i < Ls.length → h.getD i 0 ∈ Ls.getD i []) → InPi h Ls
  | [], [], _, _ => trivial
  | x :: h, L :: Ls, e, g => ⟨g 0 (by simp), InPi.of (by simpa using e) fun i hi => by
      have := g (i + 1) (by simpa using hi); rw [List.getD_cons_succ, List.getD_cons_succ] at this; exact this⟩
  | [], _ :: _, e, _ => by simp at e
  | _ :: _, [], e, _ => by simp at e
theorem ms_zero : ∀ (Ws : List (List (Int × Int))) (f : List Int → Int), (∀ h, InPi h (Ws.map fun W => W.map (·.1)) → f h = 0) → ms Ws f = 0
  | [], f, h => h [] trivial
  | W :: Ws, f, h => sum_map_zero _ _ fun sw hsw => by
    rw [ms_zero Ws _ fun h' q => h (sw.1 :: h') ⟨List.mem_map.mpr ⟨sw, hsw, rfl⟩, q⟩, Int.mul_zero]
theorem ms_add : ∀ (Ws : List (List (Int × Int))) (f g : List Int → Int), ms Ws (fun h => f h + g h) = ms Ws f + ms Ws g
  | [], f, g => rfl
  | W :: Ws, f, g => by
    show (W.map _).sum = (W.map _).sum + (W.map _).sum
    rw [← sum_map_add]
    congr 1
    refine List.map_congr_left fun sw _ => ?_
    rw [ms_add Ws]; grind
theorem ms_mul (c : Int) : ∀ (Ws : List (List (Int × Int))) (f : List Int → Int), ms Ws (fun h => c * f h) = c * ms Ws f
  | [], f => rfl
  | W :: Ws, f => by
    show (W.map _).sum = c * (W.map _).sum
    rw [← sum_map_mul]
    congr 1
    refine List.map_congr_left fun sw _ => ?_
    rw [ms_mul c Ws]; grind
theorem ms_congr {Ws : List (List (Int × Int))} {f g : List Int → Int} (h : ∀ x, InPi x (Ws.map fun W => W.map (·.1)) → f x = g x) : ms Ws f = ms Ws g := by
  have : ms Ws (fun x => f x + (-1) * g x) = 0 := ms_zero _ _ fun x hx => by rw [h x hx]; omega
  rw [ms_add, ms_mul] at this
  omega
theorem ms_S (Ws : List (List (Int × Int))) : ∀ (l : List (Pw × Int)), ms Ws (fun h => S l (mono h)) = S l fun p => ms Ws fun h => mono h p
  | [] => ms_zero _ _ fun _ _ => rfl
  | q :: l => by
    rw [S_cons, ← ms_S Ws l, ← ms_mul, ← ms_add]
    rfl
/-- the product of sums of powers -/
def ppsi : List (List (Int × Int)) → Pw → Int
  | W :: Ws, k :: p => psi W k.toNat * ppsi Ws p
  | _, _ => 1
theorem ms_mono : ∀ (Ws : List (List (Int × Int))) (p : Pw), Ws.length = p.length → (ms Ws fun h => mono h p) = ppsi Ws p
  | [], [], _ => rfl
  | W :: Ws, k :: p, e => by
    show (W.map fun sw => sw.2 * ms Ws fun h => sw.1 ^ k.toNat * mono h p).sum = psi W k.toNat * ppsi Ws p
    rw [← ms_mono Ws p (by simpa using e)]
    unfold psi
    rw [Int.mul_comm, ← sum_map_mul]
    congr 1
    refine List.map_congr_left fun sw _ => ?_
    rw [ms_mul]; grind
  | [], _ :: _, e => by simp at e
  | _ :: _, [], e => by simp at e
/-- for each place so many of its list, and weights -/
theorem pick : ∀ (p : Pw) (Ls : List (List Int)), p.length = Ls.length → (∀ k ∈ p, 0 ≤ k) → (∀ L ∈ Ls, L.Nodup) → (∀ i, i < Ls.length → p.getD i 0 < (Ls.getD i []).length) →
    ∃ Ws : List (List (Int × Int)), Ws.length = p.length ∧ (∀ h, InPi h (Ws.map fun W => W.map (·.1)) → InPi h Ls) ∧ ppsi Ws p ≠ 0 ∧
      ∀ q : Pw, q.length = p.length → (∀ k ∈ q, 0 ≤ k) → q.sum ≤ p.sum → q ≠ p → ppsi Ws q = 0
  | [], [], _, _, _, _ => ⟨[], rfl, fun _ h => h, by decide, fun q hq _ _ hn => absurd (List.length_eq_zero_iff.mp hq) hn⟩
  | k :: p, L :: Ls, e, hp, hn, hl => by
    obtain ⟨Ws, w1, w2, w3, w4⟩ := pick p Ls (by simpa using e) (fun j hj => hp j (List.mem_cons_of_mem _ hj)) (fun M hM => hn M (List.mem_cons_of_mem _ hM)) fun i hi => by
      have := hl (i + 1) (by simpa using hi)
      rw [List.getD_cons_succ, List.getD_cons_succ] at this
      exact this
    have hk : 0 ≤ k := hp k List.mem_cons_self
    have hkl : k < L.length := by have := hl 0 (by simp); simpa using this
    have hlen : (L.take (k.toNat + 1)).length = k.toNat + 1 := by rw [List.length_take]; omega
    obtain ⟨W, v1, v2, v3⟩ := weights (L.take (k.toNat + 1)) (by intro z; rw [z] at hlen; simp at hlen) ((hn L List.mem_cons_self).sublist (List.take_sublist _ _))
    rw [hlen] at v2 v3
    refine ⟨W :: Ws, by simp [w1], ?_, ?_, ?_⟩
    · intro h
      rw [List.map_cons, v1]
      cases h with
      | nil => exact fun z => z.elim
      | cons x h => exact fun z => ⟨List.mem_of_mem_take z.1, w2 h z.2⟩
    · exact Int.mul_ne_zero v3 w3
    · intro q hq hpos hs hne
      cases q with
      | nil => simp at hq
      | cons j q =>
        show psi W j.toNat * ppsi Ws q = 0
        have hj : 0 ≤ j := hpos j List.mem_cons_self
        by_cases c : j < k
        · rw [v2 j.toNat (by omega), Int.zero_mul]
        · rw [List.sum_cons, List.sum_cons] at hs
          by_cases d : q = p
          · subst d
            have : j = k := by omega
            subst this
            exact absurd rfl hne
          · rw [w4 q (by simpa using hq) (fun i hi => hpos i (List.mem_cons_of_mem _ hi)) (by omega) d, Int.mul_zero]
  | [], _ :: _, e, _, _, _ => by simp at e
  | _ :: _, [], e, _, _, _ => by simp at e
theorem prod_ne {xs : List Int} : ∀ {ts : List (Nat × Nat)}, prod ts xs ≠ 0 → ∀ t ∈ ts, xs.getD t.1 0 ≠ xs.getD t.2 0
  | [], _, t, ht => nomatch ht
  | u :: ts, h, t, ht => by
    rw [prod_cons] at h
    rcases List.mem_cons.mp ht with e | ht
    · subst e
      intro z
      rw [z, Int.sub_self, Int.zero_mul] at h
      exact h rfl
    · exact prod_ne (fun z => h (by rw [z, Int.mul_zero])) t ht
theorem S_one {κ : Type} [DecidableEq κ] {φ : κ → Int} {p : κ} {c : Int} : ∀ {l : List (κ × Int)}, Nd l → (p, c) ∈ l → (∀ q ∈ l, q.1 ≠ p → φ q.1 = 0) → S l φ = c * φ p
  | [], _, h, _ => nomatch h
  | r :: l, nd, h, g => by
    obtain ⟨n1, n2⟩ := Nd_cons.mp nd
    rw [S_cons]
    rcases List.mem_cons.mp h with e | h'
    · subst e
      have : S l φ = 0 := sum_map_zero _ _ fun q hq => by rw [g q (List.mem_cons_of_mem _ hq) (n1 q hq), Int.mul_zero]
      rw [this]; show c * φ p + 0 = _; omega
    · have hne : r.1 ≠ p := fun z => n1 _ h' z.symm
      rw [g r List.mem_cons_self hne, S_one n2 h' fun q hq => g q (List.mem_cons_of_mem _ hq)]
      omega
/-- where there is a term paper there always is a choice -/
theorem alon {n : Nat} {ts : List (Nat × Nat)} (ht : ∀ t ∈ ts, t.1 < n ∧ t.2 < n) {p : Pw} {c : Int} (hp : (p, c) ∈ terms n ts) {Ls : List (List Int)} (hl : Ls.length = n) (hn : ∀ L ∈ Ls, L.Nodup)
    (hs : ∀ i, i < n → p.getD i 0 < (Ls.getD i []).length) : ∃ h, InPi h Ls ∧ ∀ t ∈ ts, h.getD t.1 0 ≠ h.getD t.2 0 := by
  obtain ⟨a1, a2, a3, a4⟩ := terms_all ht
  obtain ⟨po, cne⟩ := a4 _ hp
  have po : POk n ts.length p := po
  have cne : c ≠ 0 := cne
  obtain ⟨Ws, w1, w2, w3, w4⟩ := pick p Ls (by rw [po.len, hl]) po.pos hn fun i hi => hs i (by omega)
  have hW : Ws.length = n := w1.trans po.len
  have key : ms Ws (fun h => prod ts h) = c * ppsi Ws p := by
    have e1 : ms Ws (fun h => prod ts h) = ms Ws fun h => S (terms n ts) (mono h) := ms_congr fun x hx => by
      rw [terms_put ht]
      have := hx.length
      rw [List.length_map] at this
      omega
    rw [e1, ms_S]
    have e2 : S (terms n ts) (fun q => ms Ws fun h => mono h q) = S (terms n ts) (ppsi Ws) := S_congr fun q hq => ms_mono _ _ (by rw [hW, (a4 q hq).1.len])
    rw [e2]
    refine S_one a1 hp fun q hq hne => ?_
    obtain ⟨qo, _⟩ := a4 q hq
    exact w4 q.1 (by rw [qo.len, po.len]) qo.pos (by rw [qo.sum, po.sum]; exact Int.le_refl _) hne
  have hne : ms Ws (fun h => prod ts h) ≠ 0 := by rw [key]; exact Int.mul_ne_zero cne w3
  apply Classical.byContradiction
  intro no
  refine hne (ms_zero _ _ fun h hh => ?_)
  apply Classical.byContradiction
  intro hnz
  exact no ⟨h, w2 h hh, prod_ne hnz⟩

/-! ### where there is an order there is a term paper -/
def wt (r : Nat → Nat) : Pw → Int
  | [] => 0
  | x :: p => r 0 * x + wt (fun i => r (i + 1)) p
theorem wt_raise : ∀ (r : Nat → Nat) {p : Pw} {i : Nat}, i < p.length → wt r (raise p i) = wt r p + r i
  | r, [], _, h => absurd h (Nat.not_lt_zero _)
  | r, x :: p, 0, _ => by
    show r 0 * (x + 1) + wt _ p = r 0 * x + wt _ p + r 0
    grind
  | r, x :: p, i + 1, h => by
    show r 0 * x + wt _ (raise p i) = r 0 * x + wt _ p + r (i + 1)
    rw [wt_raise _ (by simpa using h)]; omega
def hi (r : Nat → Nat) (t : Nat × Nat) : Nat := if r t.1 < r t.2 then t.2 else t.1
def lo (r : Nat → Nat) (t : Nat × Nat) : Nat := if r t.1 < r t.2 then t.1 else t.2
def adv (r : Nat → Nat) (q : Pw) (ts : List (Nat × Nat)) : Pw := ts.foldl (fun q t => raise q (hi r t)) q
def top (r : Nat → Nat) (ts : List (Nat × Nat)) : Int := (ts.map fun t => (r (hi r t) : Int)).sum
section
variable {n : Nat} {r : Nat → Nat}
theorem adv_ok : ∀ (ts : List (Nat × Nat)) (q : Pw), (∀ t ∈ ts, t.1 < n ∧ t.2 < n) → q.length = n → (adv r q ts).length = n ∧ wt r (adv r q ts) = wt r q + top r ts ∧ ∀ v, v < n → (adv r q ts).getD v 0 = q.getD v 0 + ((ts.map (hi r)).count v : Nat)
  | [], q, _, hq => ⟨hq, by simp [adv, top], fun v _ => by simp [adv]⟩
  | t :: ts, q, ht, hq => by
    obtain ⟨a, b⟩ := ht t List.mem_cons_self
    have hh : hi r t < n := by unfold hi; split <;> assumption
    obtain ⟨h1, h2, h3⟩ := adv_ok ts (raise q (hi r t)) (fun t' h' => ht t' (List.mem_cons_of_mem _ h')) ((raise_length _ _).trans hq)
    refine ⟨h1, ?_, fun v hv => ?_⟩
    · show wt r (adv r (raise q (hi r t)) ts) = _
      rw [h2, wt_raise _ (by omega)]
      show _ = _ + ((r (hi r t) : Int) + top r ts)
      omega
    · show (adv r (raise q (hi r t)) ts).getD v 0 = _
      rw [h3 v hv, raise_get (by omega), List.map_cons, List.count_cons]
      by_cases e : hi r t = v
      · subst e; simp; omega
      · have e' : ¬ v = hi r t := fun z => e z.symm
        simp [e, e']
theorem far : ∀ (ts : List (Nat × Nat)) (q target : Pw), (∀ t ∈ ts, t.1 < n ∧ t.2 < n) → q.length = n → wt r q + top r ts < wt r target → G ts (fun p => if p = target then 1 else 0) q = 0
  | [], q, target, _, _, h => by
    show (if q = target then (1 : Int) else 0) = 0
    refine if_neg fun z => ?_
    subst z
    unfold top at h
    simp at h
  | t :: ts, q, target, ht, hq, h => by
    obtain ⟨a, b⟩ := ht t List.mem_cons_self
    have ht' : ∀ t ∈ ts, t.1 < n ∧ t.2 < n := fun t' h' => ht t' (List.mem_cons_of_mem _ h')
    have e : top r (t :: ts) = (r (hi r t) : Int) + top r ts := rfl
    have h1 : r t.1 ≤ r (hi r t) := by unfold hi; split <;> omega
    have h2 : r t.2 ≤ r (hi r t) := by unfold hi; split <;> omega
    show G ts _ (raise q t.1) - G ts _ (raise q t.2) = 0
    rw [far ts _ target ht' ((raise_length _ _).trans hq) (by rw [wt_raise _ (by omega)]; omega), far ts _ target ht' ((raise_length _ _).trans hq) (by rw [wt_raise _ (by omega)]; omega)]
    rfl
theorem near (hinj : ∀ i j, i < n → j < n → r i = r j → i = j) : ∀ (ts : List (Nat × Nat)) (q : Pw), (∀ t ∈ ts, t.1 < n ∧ t.2 < n ∧ t.1 ≠ t.2) → q.length = n →
    G ts (fun p => if p = adv r q ts then 1 else 0) q = 1 ∨ G ts (fun p => if p = adv r q ts then 1 else 0) q = -1
  | [], q, _, _ => .inl (by show (if q = q then (1 : Int) else 0) = 1; simp)
  | t :: ts, q, ht, hq => by
    obtain ⟨a, b, c⟩ := ht t List.mem_cons_self
    have ht' : ∀ t ∈ ts, t.1 < n ∧ t.2 < n ∧ t.1 ≠ t.2 := fun t' h' => ht t' (List.mem_cons_of_mem _ h')
    have ht2 : ∀ t ∈ ts, t.1 < n ∧ t.2 < n := fun t h => ⟨(ht' t h).1, (ht' t h).2.1⟩
    have hne : r t.1 ≠ r t.2 := fun z => c (hinj _ _ a b z)
    have key : ∀ i j, i < n → j < n → r i < r j → G ts (fun p => if p = adv r (raise q j) ts then 1 else 0) (raise q i) = 0 := fun i j hi hj hr => by
      refine far (r := r) ts _ _ ht2 ((raise_length _ _).trans hq) ?_
      rw [(adv_ok ts (raise q j) ht2 ((raise_length _ _).trans hq)).2.1, wt_raise _ (by omega), wt_raise _ (by omega)]
      omega
    show G ts (fun p => if p = adv r (raise q (hi r t)) ts then 1 else 0) (raise q t.1) - G ts (fun p => if p = adv r (raise q (hi r t)) ts then 1 else 0) (raise q t.2) = 1 ∨
      G ts (fun p => if p = adv r (raise q (hi r t)) ts then 1 else 0) (raise q t.1) - G ts (fun p => if p = adv r (raise q (hi r t)) ts then 1 else 0) (raise q t.2) = -1
    by_cases d : r t.1 < r t.2
    · have e : hi r t = t.2 := if_pos d
      rw [e, key _ _ a b d]
      rcases near hinj ts (raise q t.2) ht' ((raise_length _ _).trans hq) with z | z
      · rw [z]; exact .inr (by decide)
      · rw [z]; exact .inl (by decide)
    · have e : hi r t = t.1 := if_neg d
      rw [e, key _ _ b a (by omega)]
      rcases near hinj ts (raise q t.1) ht' ((raise_length _ _).trans hq) with z | z
      · rw [z]; exact .inl (by decide)
      · rw [z]; exact .inr (by decide)
end
/-- an order by ranks: each place's size is greater than how many ties lead from it to a lesser rank -/
theorem rank_term {n : Nat} {ts : List (Nat × Nat)} (ht : ∀ t ∈ ts, t.1 < n ∧ t.2 < n ∧ t.1 ≠ t.2) (r : Nat → Nat) (hinj : ∀ i j, i < n → j < n → r i = r j → i = j) {sizes : List Int}
    (hs : ∀ v, v < n → ((ts.map (hi r)).count v : Int) < sizes.getD v 0) : ∃ p c, (p, c) ∈ terms n ts ∧ ∀ v, v < n → p.getD v 0 < sizes.getD v 0 := by
  have ht2 : ∀ t ∈ ts, t.1 < n ∧ t.2 < n := fun t h => ⟨(ht t h).1, (ht t h).2.1⟩
  obtain ⟨t1, t2, t3, t4⟩ := terms_all ht2
  have hz : (zeros n).length = n := (POk.zeros n).len
  have h : aget (terms n ts) (adv r (zeros n) ts) ≠ 0 := by
    rw [aget_S t1, t2]
    rcases near hinj ts (zeros n) ht hz with z | z <;> rw [z] <;> decide
  refine ⟨_, _, mem_of_aget h, fun v hv => ?_⟩
  rw [(adv_ok ts (zeros n) ht2 hz).2.2 v hv]
  have : (zeros n).getD v 0 = 0 := by simp [zeros, List.getD_eq_getElem?_getD, List.getElem?_replicate, hv]
  rw [this]
  have := hs v hv
  omega
end HL

set_option Elab.async false
set_option linter.all false
set_option maxRecDepth 100000
set_option maxHeartbeats 4000000
/-! dicts whose keys are pairs of a tuple of whole numbers and a whole number -/
namespace HL
open PySem PySem.Spec L2

/-- a key: powers, and whether an odd number -/
abbrev NKey := List Int × Int
abbrev numK (p : List Int) : NestedKey := .tup (p.map .num)
def nk (k : NKey) : NestedKey := .tup [numK k.1, .num k.2]
theorem numKs_inj : ∀ {a b : List Int}, a.map NestedKey.num = b.map NestedKey.num → a = b
  | [], [], _ => rfl
  | [], _ :: _, e => by simp at e
  | _ :: _, [], e => by simp at e
  | x :: a, y :: b, e => by
    simp only [List.map_cons, List.cons.injEq, NestedKey.num.injEq] at e
    rw [e.1, numKs_inj e.2]
theorem nk_inj {a b : NKey} (h : nk a = nk b) : a = b := by
  simp only [nk, NestedKey.tup.injEq, List.cons.injEq, NestedKey.num.injEq, and_true] at h
  exact Prod.ext (numKs_inj h.1) h.2
theorem num_flat : ∀ p : List Int, NestedKey.depthAll (p.map .num) = 0
  | [] => rfl
  | x :: p => by
    show max (NestedKey.depth (.num x)) (NestedKey.depthAll (p.map .num)) = 0
    rw [num_flat p]
    rfl
theorem nk_depth (k : NKey) : (nk k).depth ≤ 8 := by
  show max (NestedKey.depthAll (k.1.map .num) + 1) (max 0 0) + 1 ≤ 8
  rw [num_flat]
  decide

/-- the key k stands at b -/
def NKAt (H : Hp) (b : Addr) (k : NKey) : Prop := ∃ q, H b = some (.tup [.ref q, .int k.2]) ∧ H q = some (.tup (k.1.map V.int))
theorem NKAt.same {H H' : Hp} {b : Addr} {k : NKey} (x : NKAt H b k) (e : ∀ c xs, H c = some (.tup xs) → H' c = some (.tup xs)) : NKAt H' b k := by
  obtain ⟨q, h1, h2⟩ := x
  exact ⟨q, e _ _ h1, e _ _ h2⟩
theorem nums_all {h : Heap} : ∀ {p : List Int} {us : List Value}, Vals (p.map V.int) us → NestedAll h (p.map .num) us
  | [], us, r => by rw [List.map_nil] at r; cases r; exact .nil
  | x :: p, us, r => by
    rw [List.map_cons] at r
    cases r with
    | cons r1 r2 =>
      obtain ⟨t, e⟩ := (show ∃ t, _ = Value.int x t from r1)
      subst e
      exact .cons (.int x t) (nums_all r2)
theorem NKAt.is {P : Program} {w : World} {H : Hp} {h : Heap} {b : Addr} {k : NKey} (ok : HOk P w H h) (x : NKAt H b k) : (nestedKind P w).is h (nk k) b := by
  obtain ⟨q, h1, h2⟩ := x
  obtain ⟨_, its, r, o, e1, e2, n, e3⟩ := (show ObjOk P w H h b (.tup [.ref q, .int k.2]) from ok b _ h1)
  obtain ⟨_, jts, r', o', f1, f2, n', f3⟩ := (show ObjOk P w H h q (.tup (k.1.map V.int)) from ok q _ h2)
  obtain ⟨u, v, ei, ru, rv⟩ := vals2 r
  subst ei
  cases (show u = Value.ref q from ru)
  obtain ⟨t, ev⟩ := (show ∃ t, v = Value.int k.2 t from rv)
  subst ev
  refine ⟨.tup e1 e2 e3 (.cons (.tup f1 f2 f3 (by simpa using nums_all r')) (.cons (.int _ _) .nil)), nk_depth k⟩

/-- the dict's rows: key, where the key's tuple stands, the value -/
abbrev NRow := NKey × Addr × Int
abbrev NRel : List NRow → List (NestedKey × Addr × Value) → Prop := Paired fun p q => q.1 = nk p.1 ∧ q.2.1 = p.2.1 ∧ RelV (.int p.2.2) q.2.2
def DNo (P : Program) (w : World) (a : Addr) (rs : List NRow) : HO := .ext fun h => rs.length ≤ sizeLine ∧ (a == sysModules) = false ∧ ∃ xs, NRel rs xs ∧
  ∃ o es ep, h.get? a = some o ∧ o.ExactDict ∧ o.data = .dict es ep ∧ es.toList = xs.map (entryOfKey (nestedKind P w)) ∧ (xs.map (·.1)).Nodup
def rowKv (rs : List NRow) : List (NKey × Int) := rs.map fun r => (r.1, r.2.2)
/-- at a stands a dict of kvs: written, or locked by a walk -/
def NDAt (P : Program) (w : World) (H : Hp) (a : Addr) (kvs : List (NKey × Int)) : Prop := ∃ rs, Rd H a (DNo P w a rs) ∧ rowKv rs = kvs ∧ ∀ r ∈ rs, NKAt H r.2.1 r.1
theorem dno_ok {P : Program} {w : World} {H : Hp} {h : Heap} {a : Addr} {rs : List NRow} (z : rs.length ≤ sizeLine) (lo : (a == sysModules) = false) {xs : List (NestedKey × Addr × Value)} (r : NRel rs xs)
    (d : ∃ o es ep, h.get? a = some o ∧ o.ExactDict ∧ o.data = .dict es ep ∧ es.toList = xs.map (entryOfKey (nestedKind P w)) ∧ (xs.map (·.1)).Nodup) : ObjOk P w H h a (DNo P w a rs) := by
  refine ⟨⟨z, lo, xs, r, d⟩, ?_, ?_⟩
  · obtain ⟨o, _, _, e, _⟩ := d
    exact ⟨o, e⟩
  · rintro h1 h2 ⟨z', lo', ys, r', o, es, ep, e, c⟩ k
    exact ⟨z', lo', ys, r', o, es, ep, k o e, c⟩
theorem NRel.mem {rs : List NRow} {xs : List (NestedKey × Addr × Value)} (r : NRel rs xs) : ∀ x ∈ xs, ∃ p ∈ rs, x.1 = nk p.1 ∧ x.2.1 = p.2.1 ∧ RelV (.int p.2.2) x.2.2 := by
  unfold NRel at r
  induction r with
  | nil => intro x hx; exact nomatch hx
  | @cons a b as bs h t ih =>
    intro x hx
    rcases List.mem_cons.mp hx with e | hx
    · subst e; exact ⟨a, List.mem_cons_self, h⟩
    · obtain ⟨p, hp, q⟩ := ih x hx
      exact ⟨p, List.mem_cons_of_mem _ hp, q⟩
theorem nd_of {P : Program} {w : World} {H : Hp} {h : Heap} {a : Addr} {rs : List NRow} (ok : HOk P w H h) (e : Rd H a (DNo P w a rs)) (hk : ∀ r ∈ rs, NKAt H r.2.1 r.1) :
    rs.length ≤ sizeLine ∧ (a == sysModules) = false ∧ ∃ xs, NRel rs xs ∧ h.DictOfH (nestedKind P w) a xs := by
  obtain ⟨⟨z, lo, xs, r, o, es, ep, e1, e2, e3, e4, e5⟩, _⟩ := (show ObjOk P w H h a (DNo P w a rs) from e.ok ok)
  refine ⟨z, lo, xs, r, o, es, ep, e1, e2, e3, e4, fun x hx => ?_, e5⟩
  obtain ⟨p, hp, q1, q2, _⟩ := r.mem x hx
  rw [q1, q2]
  exact (hk p hp).is ok
/-- what is found at a key -/
theorem NRel.find {rs : List NRow} {xs : List (NestedKey × Addr × Value)} (r : NRel rs xs) (k : NKey) :
    (∃ v u, rs.find? (fun p => decide (p.1 = k)) = some v ∧ atKey xs (nk k) = some u ∧ RelV (.int v.2.2) u.2) ∨ (rs.find? (fun p => decide (p.1 = k)) = none ∧ atKey xs (nk k) = none) := by
  unfold NRel at r
  induction r with
  | nil => exact .inr ⟨rfl, rfl⟩
  | @cons p q ps qs h t ih =>
    obtain ⟨h1, h2, h3⟩ := h
    by_cases e : p.1 = k
    · refine .inl ⟨p, q.2, ?_, ?_, h3⟩
      · rw [List.find?_cons, decide_eq_true e]
      · have : q.1 = nk k := h1.trans (by rw [e])
        simp [atKey, List.find?_cons, this]
    · have ne : ¬ q.1 = nk k := fun z => e (nk_inj (h1.symm.trans z))
      have e1 : (p :: ps).find? (fun p => decide (p.1 = k)) = ps.find? (fun p => decide (p.1 = k)) := by rw [List.find?_cons, decide_eq_false e]
      have e2 : atKey (q :: qs) (nk k) = atKey qs (nk k) := by simp [atKey, List.find?_cons, ne]
      rw [e1, e2]
      exact ih
theorem find_row (rs : List NRow) (k : NKey) : (rowKv rs).find? (fun kv => decide (kv.1 = k)) = (rs.find? fun p => decide (p.1 = k)).map fun r => (r.1, r.2.2) := by
  unfold rowKv
  rw [List.find?_map]
  rfl
theorem aget_row (rs : List NRow) (k : NKey) : aget (rowKv rs) k = ((rs.find? fun p => decide (p.1 = k)).map (·.2.2)).getD 0 := by
  unfold aget
  rw [find_row, Option.map_map]
  rfl
/-- in its place, or at the end -/
def putRow (rs : List NRow) (k : NKey) (b : Addr) (v : Int) : List NRow :=
  if (rs.find? fun p => decide (p.1 = k)).isSome = true then rs.map fun p => if p.1 = k then (p.1, p.2.1, v) else p else rs ++ [(k, b, v)]
theorem putRow_kv (rs : List NRow) (k : NKey) (b : Addr) (v : Int) : rowKv (putRow rs k b v) = aput (rowKv rs) k v := by
  unfold putRow aput
  have e : ((rowKv rs).any fun kv => decide (kv.1 = k)) = (rs.find? fun p => decide (p.1 = k)).isSome := by
    rw [← Option.isSome_map (f := fun r : NRow => (r.1, r.2.2)), ← find_row, List.isSome_find?]
  rw [e]
  split
  · unfold rowKv
    rw [List.map_map, List.map_map]
    refine List.map_congr_left fun p _ => ?_
    simp only [Function.comp]
    split <;> rfl
  · unfold rowKv
    rw [List.map_append]; rfl
theorem putRow_len (rs : List NRow) (k : NKey) (b : Addr) (v : Int) : (putRow rs k b v).length ≤ rs.length + 1 := by
  unfold putRow
  split <;> simp
theorem putRow_mem {rs : List NRow} {k : NKey} {b : Addr} {v : Int} {H : Hp} (hk : ∀ r ∈ rs, NKAt H r.2.1 r.1) (hb : NKAt H b k) : ∀ r ∈ putRow rs k b v, NKAt H r.2.1 r.1 := by
  intro r hr
  unfold putRow at hr
  split at hr
  · obtain ⟨p, hp, e⟩ := List.mem_map.mp hr
    subst e
    split
    · exact hk p hp
    · exact hk p hp
  · rcases List.mem_append.mp hr with hr | hr
    · exact hk r hr
    · rw [List.mem_singleton.mp hr]; exact hb
theorem NRel.put {rs : List NRow} {xs : List (NestedKey × Addr × Value)} (r : NRel rs xs) (k : NKey) (b : Addr) {v : Int} {u : Value} (ru : RelV (.int v) u) : NRel (putRow rs k b v) (storedH xs (nk k) b u) := by
  unfold putRow storedH
  have e : (rs.find? fun p => decide (p.1 = k)).isSome = (atKey xs (nk k)).isSome := by
    rcases r.find k with ⟨v, u, a, b, _⟩ | ⟨a, b⟩ <;> rw [a, b] <;> rfl
  rw [← e]
  by_cases c : (rs.find? fun p => decide (p.1 = k)).isSome = true
  · rw [if_pos c, if_pos c]
    clear c e
    unfold NRel at r ⊢
    induction r with
    | nil => exact .nil
    | @cons p q ps qs h t ih =>
      rw [List.map_cons, List.map_cons]
      refine .cons ?_ ih
      obtain ⟨h1, h2, h3⟩ := h
      unfold putAt
      by_cases e : p.1 = k
      · rw [if_pos e, if_pos (h1.trans (by rw [e]))]; exact ⟨h1, h2, ru⟩
      · rw [if_neg e, if_neg fun z => e (nk_inj (h1.symm.trans z))]; exact ⟨h1, h2, h3⟩
  · rw [if_neg c, if_neg c]
    exact Paired.snoc r ⟨rfl, rfl, ru⟩

section
variable {X : Cx} {pins : List (Addr × Obj)} {σ : St} {H : Hp} {s : Shared} {a b : Addr} {k : NKey} {A : Around} {E : Value → Shared → Prop} {rs : List NRow}
theorem n_getItem {Q : Value → Shared → Prop} {c : Int} (hu : A.units + 64 < cLine) (I : Inv X pins σ H s) (e : Rd H a (DNo X.prog X.w a rs)) (hk : ∀ r ∈ rs, NKAt H r.2.1 r.1) (hb : NKAt H b k) (hc : (k, c) ∈ rowKv rs) (nd : Nd (rowKv rs))
    (h : ∀ w' s', Inv X pins σ H s' → RelV (.int c) w' → Q w' s') : wpAny (model X.prog X.w) A (getItem (.ref a) (.ref b)) Q E s := by
  obtain ⟨_, _, xs, r, dd⟩ := nd_of I.hok e hk
  have room : (nestedKind X.prog X.w).room A.in1 := by show A.units + 1 + 8 < cLine; omega
  rcases r.find k with ⟨v, u, f1, f2, f3⟩ | ⟨f1, f2⟩
  · have ec : v.2.2 = c := by
      have := aget_mem nd hc
      rw [aget_row, f1] at this
      exact this
    rw [ec] at f3
    exact wpAny_getItem_heap room (hb.is I.hok) dd f2 (h _ _ (I.tok _) f3)
  · exfalso
    obtain ⟨p, hp, ep⟩ := List.mem_map.mp hc
    have := List.find?_eq_none.mp f1 p hp
    injection ep with e1 e2
    exact this (decide_eq_true e1)
theorem n_get {Q : Value → Shared → Prop} {z : Value} (hu : A.units + 64 < cLine) (I : Inv X pins σ H s) (e : Rd H a (DNo X.prog X.w a rs)) (hk : ∀ r ∈ rs, NKAt H r.2.1 r.1) (hb : NKAt H b k) (rz : RelV (.int 0) z)
    (h : ∀ w' s', Inv X pins σ H s' → RelV (.int (aget (rowKv rs) k)) w' → Q w' s') : wpAny (model X.prog X.w) A (call (.builtin "dict.get") [.ref a, .ref b, z]) Q E s := by
  obtain ⟨_, lo, xs, r, dd⟩ := nd_of I.hok e hk
  have room : (nestedKind X.prog X.w).room A.in1 := by show A.units + 1 + 8 < cLine; omega
  refine getOr_keyed (knd := nestedKind X.prog X.w) (k := nk k) room (hb.is I.hok) lo ⟨xs, dd, rfl⟩ ?_
  refine h _ _ (I.tok _) ?_
  rw [valueAt_pairsH, aget_row]
  rcases r.find k with ⟨v, u, f1, f2, f3⟩ | ⟨f1, f2⟩
  · rw [f1, f2]; exact f3
  · rw [f1, f2]; exact rz
theorem n_setItem {Q : Unit → Shared → Prop} {v : Int} {u : Value} (hu : A.units + 64 < cLine) (I : Inv X pins σ H s) (e : H a = some (DNo X.prog X.w a rs)) (hk : ∀ r ∈ rs, NKAt H r.2.1 r.1) (hb : NKAt H b k) (hl : rs.length < sizeLine) (rv : RelV (.int v) u)
    (h : ∀ s', Inv X pins σ (upd H a (DNo X.prog X.w a (putRow rs k b v))) s' → Q () s') : wpAny (model X.prog X.w) A (setItem (.ref a) (.ref b) u) Q E s := by
  obtain ⟨_, lo, xs, r, dd⟩ := nd_of I.hok (.inl e) hk
  have room : (nestedKind X.prog X.w).room A.in1 := by show A.units + 1 + 8 < cLine; omega
  have hz : xs.length ≤ sizeLine := by rw [← Paired.length r]; omega
  have hp := putRow_len rs k b v
  refine wpAny_setItem_heap (hsz := hz) room (hb.is I.hok) dd fun h' dd' hs => h _ ?_
  obtain ⟨q, es, ep, hq, h2, h3, h4, _, h5⟩ := dd'
  exact d_write I (by rw [e]; exact True.intro) hs ⟨q, hq⟩ (dno_ok (by omega) lo (r.put k b rv) ⟨q, es, ep, hq, h2, h3, h4, h5⟩)
end
theorem dn_ne_tup {P : Program} {w : World} {a : Addr} {rs : List NRow} {xs : List V} : HO.tup xs ≠ DNo P w a rs := fun z => nomatch z

/-! ### readings and rules -/
section
variable (P : Program) (w : World)
/-- x.get(y, 0) -/
def tNGet (td ty tx : TE) : TE := fun σ H Q => td σ H fun x H1 => ∃ a kvs, x = .ref a ∧ NDAt P w H1 a kvs ∧ ty σ H1 fun y H2 => tx σ H2 fun z H3 => ∃ b k kvs, y = .ref b ∧ z = .int 0 ∧ NKAt H3 b k ∧ NDAt P w H3 a kvs ∧ Q (.int (aget kvs k)) H3
/-- x[y] -/
def tNIx (td ty : TE) : TE := fun σ H Q => td σ H fun x H1 => ty σ H1 fun y H2 => ∃ a b k c kvs, x = .ref a ∧ y = .ref b ∧ NKAt H2 b k ∧ NDAt P w H2 a kvs ∧ Nd kvs ∧ (k, c) ∈ kvs ∧ Q (.int c) H2
/-- x[y] = v -/
def sNPut (td ty tv : TE) : TS := fun D σ H => tv σ H fun v H1 => td σ H1 fun x H2 => ty σ H2 fun y H3 => ∃ a b k c rs, x = .ref a ∧ y = .ref b ∧ v = .int c ∧ NKAt H3 b k ∧ H3 a = some (DNo P w a rs) ∧ (∀ r ∈ rs, NKAt H3 r.2.1 r.1) ∧ rs.length < sizeLine ∧
  D.nx σ (upd H3 a (DNo P w a (putRow rs k b c)))
/-- {} -/
def tNNew : TE := fun _ H Q => ∀ p, H p = none → Q (.ref p) (upd H p (DNo P w p []))
/-- {k: v} -/
def tNOne (tk tv : TE) : TE := fun σ H Q => ∀ p, H p = none → tk σ (upd H p (DNo P w p [])) fun x H1 => tv σ H1 fun y H2 => ∃ b k c, x = .ref b ∧ y = .int c ∧ NKAt H2 b k ∧ H2 p = some (DNo P w p []) ∧ Q (.ref p) (upd H2 p (DNo P w p [(k, b, c)]))
end
theorem nd_isDict {X : Cx} {pins : List (Addr × Obj)} {σ : St} {H : Hp} {s : Shared} {a : Addr} {rs : List NRow} (I : Inv X pins σ H s) (e : Rd H a (DNo X.prog X.w a rs)) : s.TypeIs (.ref a) "dict" ∧ (∀ b, Value.ref a = .ref b → ∃ ob, s.heap.get? b = some ob ∧ ob.dict = none) := by
  obtain ⟨⟨z, lo, xs, r, o, es, ep, e1, e2, _⟩, _⟩ := (show ObjOk X.prog X.w H s.heap a (DNo X.prog X.w a rs) from e.ok I.hok)
  refine ⟨⟨o, e1, e2.1⟩, fun b q => ?_⟩
  cases q
  exact ⟨o, e1, e2.2.1⟩
theorem dn_empty {P : Program} {w : World} {H : Hp} (h : Heap) (hb : sysModules < h.objs.size) : ObjOk P w H (h.push { cls := .type "dict", data := .dict #[] }) h.objs.size (DNo P w h.objs.size []) :=
  dno_ok (Nat.zero_le _) (beq_eq_false_iff_ne.mpr (Ne.symm (Nat.ne_of_lt hb))) .nil ⟨_, #[], 0, Heap.get?_push_size _ rfl, ⟨rfl, rfl, rfl⟩, rfl, rfl, List.nodup_nil⟩
section
variable {X : Cx} {o i e f k v value : Expr} {apos cpos pos pos' : Pos} {td ty tx tk tv : TE}
theorem pe_nget (hu : X.A.units + 64 < cLine) (ho : PE X o td) (he : PE X e ty) (hf : PE X f tx) (m : M2 X o "get" apos e f cpos) : PE X (.Call (.Attribute o "get" apos) [e, f] [] cpos) (tNGet X.prog X.w td ty tx) := by
  refine ⟨fun pins s σ H Q I h => ?_⟩
  refine wpAny_Call_method m.base m.few m.line PySem.F.plainAttrs_dict PySem.F.slot_dict_get PySem.F.type_dict_get (thn (ho.run pins s σ H _ I h) fun u s1 ⟨x, H1, I1, rx, a, kvs, ex, d, q1⟩ => ?_)
  subst ex
  obtain rfl : u = Value.ref a := rx
  obtain ⟨rs, d1, _, _⟩ := d
  obtain ⟨t1, t2⟩ := nd_isDict I1 d1
  refine ⟨t1, t2, ?_⟩
  rw [m.trees]
  refine Calls.callWith_builtin rfl (Calls.evalArgs_plain (Calls.spliced_cons (thn (he.run pins s1 σ H1 _ I1 q1) fun iv s2 ⟨y, H2, I2, ry, q2⟩ =>
    Calls.spliced_cons (thn (hf.run pins s2 σ H2 _ I2 q2) fun fv s3 ⟨z, H3, I3, rz, b, k, kvs, ey, ez, hb, d3, q3⟩ => Calls.spliced_nil ?_))))
  subst ey ez
  obtain ⟨rs, e1, e2, e3⟩ := d3
  cases (show iv = Value.ref b from ry)
  subst e2
  exact n_get hu I3 e1 e3 hb rz fun w' s4 I4 rw' => ⟨_, H3, I4, rw', q3⟩
theorem pe_nix (hu : X.A.units + 64 < cLine) (ho : PE X o td) (hi : PE X i ty) (hs : NoSl i) : PE X (.Subscript o i pos) (tNIx X.prog X.w td ty) := by
  refine ⟨fun pins s σ H Q I h => ?_⟩
  refine subD_of PySem.F.slot_dict_getitem.lookup hs (thn (ho.run pins s σ H _ I h) fun u s1 ⟨x, H1, I1, rx, q1⟩ => thn (hi.run pins s1 σ H1 _ I1 q1) fun iv s2 ⟨y, H2, I2, ry, a, b, k, c, kvs, ex, ey, hb, d, nd, hc, q2⟩ => ?_)
  subst ex ey
  obtain rfl : u = Value.ref a := rx
  cases (show iv = Value.ref b from ry)
  obtain ⟨rs, e1, e2, e3⟩ := d
  subst e2
  exact ⟨(nd_isDict I2 e1).1, n_getItem hu I2 e1 e3 hb hc nd fun w' s3 I3 rw' => ⟨_, H2, I3, rw', q2⟩⟩
theorem ps_nput (hu : X.A.units + 64 < cLine) (ho : PE X o td) (hi : PE X i ty) (hv : PE X value tv) (hs : swapsWith value (some (.Subscript o i pos')) pos.line X.env = pure false) :
    PS X (.Assign [.Subscript o i pos'] value pos) (sNPut X.prog X.w td ty tv) := by
  refine ⟨fun pins s σ H D I h => ?_⟩
  refine wpAny_Assign_Subscript (thn (hv.run pins s σ H _ I h) fun r s1 ⟨v, H1, I1, rv, q1⟩ => thn (ho.run pins s1 σ H1 _ I1 q1) fun u s2 ⟨x, H2, I2, rx, q2⟩ => thn (hi.run pins s2 σ H2 _ I2 q2) fun iv s3 ⟨y, H3, I3, ry, a, b, k, c, rs, ex, ey, ev, hb, e, hk, hl, q3⟩ => ?_) hs
  subst ex ey ev
  obtain rfl : u = Value.ref a := rx
  cases (show iv = Value.ref b from ry)
  exact n_setItem hu I3 e hk hb hl rv fun s4 I4 => ⟨σ, _, I4, q3⟩
theorem pe_nnew : PE X (.Dict [] [] pos) (tNNew X.prog X.w) := ⟨fun pins s σ H Q I h =>
  wpAny_Dict_empty ⟨.ref s.heap.objs.size, _, I.laid (a := s.heap.objs.size) (o := DNo X.prog X.w s.heap.objs.size []) (t' := s.toks) (fun _ _ q => Heap.get?_push_of_some _ q) (Nat.le_refl _) (dn_empty s.heap I.big), rfl, h _ (I.hok.fresh (Nat.le_refl _))⟩⟩
theorem pe_none1 (hu : X.A.units + 64 < cLine) (hk : PE X k tk) (hv : PE X v tv) : PE X (.Dict [some k] [v] pos) (tNOne X.prog X.w tk tv) := by
  refine ⟨fun pins s σ H Q I q => ?_⟩
  have hn := I.hok.fresh (Nat.le_refl s.heap.objs.size)
  have I1 := I.laid (a := s.heap.objs.size) (o := DNo X.prog X.w s.heap.objs.size []) (h' := s.heap.push { cls := .type "dict", data := .dict #[] }) (t' := s.toks) (fun _ _ q => Heap.get?_push_of_some _ q) (Nat.le_refl _) (dn_empty s.heap I.big)
  have pp : PPs X pos [some k] [v] [(tk, tv)] := pps_cons hk hv pps_nil
  have run := pp.run pins _ σ _ (fun ps H2 => match ps with
    | [(x, y)] => ∃ b kk c, x = .ref b ∧ y = .int c ∧ NKAt H2 b kk ∧ H2 s.heap.objs.size = some (DNo X.prog X.w s.heap.objs.size []) ∧ Q (.ref s.heap.objs.size) (upd H2 s.heap.objs.size (DNo X.prog X.w s.heap.objs.size [(kk, b, c)]))
    | _ => False) I1 (q _ hn)
  have hl : (pairTrees [some k] [v] X.env pos).length = 1 := pairTrees_length [some k] [v] X.env pos rfl rfl
  have h0 : pairTrees [some k] [v] X.env pos ≠ [] := fun z => by rw [z] at hl; cases hl
  rw [arm_eval_Dict, zip_pairTrees [some k] [v] X.env pos rfl rfl, dictDisplay_pairs _ h0 (by omega)]
  refine wpAny_bind (wpAny_standAt (wpAny_bind ?_))
  refine wpAny_subDictH (knd := nestedKind X.prog X.w) (by show X.A.units + 8 < cLine; omega) (by omega) (thn run ?_)
  rintro vs s2 ⟨ps, H2, I2, rel, q2⟩
  match ps, rel, q2 with
  | [(x, y)], rel, q2 =>
    obtain ⟨b, kk, c, rfl, rfl, hb, e2, q3⟩ := q2
    cases rel with
    | @cons _ pr _ ws h t =>
      cases t
      obtain ⟨u1, u2⟩ := pr
      obtain ⟨h1, h2⟩ := h
      cases (show u1 = Value.ref b from h1)
      obtain ⟨_, lo, xs, r, dd⟩ := nd_of (rs := []) I2.hok (.inl e2) (fun _ hr => nomatch hr)
      cases r
      refine ⟨[(nk kk, b, u2)], ⟨rfl, rfl, hb.is I2.hok, True.intro⟩, dd, fun h' tk' dd' hs => wpAny_pure ?_⟩
      obtain ⟨q, es, ep, hq, g2, g3, g4, _, g5⟩ := dd'
      have hr : NRel [(kk, b, c)] [(nk kk, b, u2)] := .cons ⟨rfl, rfl, h2⟩ .nil
      have lo' : (s.heap.objs.size == sysModules) = false := lo
      have one : ([(kk, b, c)] : List NRow).length ≤ sizeLine := by show 1 ≤ sizeLine; decide
      exact ⟨.ref s.heap.objs.size, _, d_write I2 (by rw [e2]; exact True.intro) hs ⟨q, hq⟩ (dno_ok one lo' hr ⟨q, es, ep, hq, g2, g3, g4, g5⟩), rfl, q3⟩
end
end HL

set_option Elab.async false
set_option linter.all false
set_option maxRecDepth 100000
set_option maxHeartbeats 4000000
namespace HL
open PySem PySem.Spec L2

/-! ### a walk over such a dict's keys -/
theorem frzN {X : Cx} {pins : List (Addr × Obj)} {σ : L2.St} {H : Hp} {s : Shared} {d : Addr} {o : Obj} {rs : List NRow} (I : Inv X pins σ H s) (h : H d = some (.frz o (DNo X.prog X.w d rs))) :
    (d == sysModules) = false ∧ s.heap.get? d = some o ∧ o.ExactDict ∧ ∃ (es : Array DictEntry) (ep : Nat), o.data = .dict es ep ∧ es.size = rs.length ∧
      ∀ (i : Nat) (r : NRow), rs[i]? = some r → ∃ (en : DictEntry), es[i]? = some en ∧ en.key = .ref r.2.1 := by
  obtain ⟨hd, ⟨z, hs, xs, pr, o', es, ep, ho, hx, hdt, he, _⟩, _⟩ := I.hok d _ h
  rw [hd] at ho
  cases ho
  refine ⟨hs, hd, hx, es, ep, hdt, ?_, fun i r e => ?_⟩
  · have l1 : es.size = xs.length := size_of_entries he
    have l2 : rs.length = xs.length := Paired.length pr
    omega
  · obtain ⟨b, hb, e1, e2, _⟩ := paired_get pr e
    have q := entry_at he i
    rw [hb] at q
    refine ⟨_, q, ?_⟩
    show Value.ref b.2.1 = _
    rw [e2]
/-- the keys of the locked dict at d, in their order -/
def ItN (P : Program) (w : World) (d : Addr) (o : Obj) (rs : List NRow) : It :=
  ⟨fun i H => H d = some (.frz o (DNo P w d rs)) ∧ i < rs.length, fun i H x H' => H' = H ∧ ∃ r, rs[i]? = some r ∧ x = .ref r.2.1, fun i H => H d = some (.frz o (DNo P w d rs)) ∧ rs.length ≤ i⟩
theorem turn_keysN {P : Program} {w : World} {K : PySem.W.Frag} {tg : Expr} {d : Addr} {o : Obj} {es : Array DictEntry} {ep : Nat} {rs : List NRow} (it : Addr) (hod : o.data = .dict es ep) :
    Turn P w K tg (ItN P w d o rs) [it] it (fun i h => h.IsKeyIter it d i rs.length ep) where
  mem := by simp
  obj := fun i h st b hb => by
    have e : b = it := by simpa using hb
    subst e
    obtain ⟨oi, e, c, dd⟩ := st
    exact ⟨oi, e, fun v z => by rw [dd] at z; cases z⟩
  keep := fun i h h' st k => st.at fun oi e => k it (by simp) oi e
  item := by
    intro X hP hw hK hc i pins s σ H E I hf st hg
    subst hP hw hK
    obtain ⟨hd, hi⟩ := hg
    obtain ⟨f0, f1, f2, f3, f4, f5⟩ := hf it (by simp)
    obtain ⟨hs, hgd, hx, es', ep', hdt, hsz, ent⟩ := frzN I hd
    obtain ⟨rfl, rfl⟩ := dict_ep hod hdt
    obtain ⟨r, hr⟩ : ∃ p, rs[i]? = some p := ⟨rs[i], List.getElem?_eq_getElem hi⟩
    obtain ⟨en, hen, hkey⟩ := ent i r hr
    refine next_key_item st hgd hdt hsz hen fun h' st' sb => ?_
    have I1 : Inv X pins σ H { s with heap := h' } := I.turned (t' := s.toks) (fun b ob hb e => (sb.2 b hb).trans e) f0 f1 f3 f4 f5
    obtain ⟨oi, e, c, dd⟩ := id st'
    exact ⟨en.key, rfl, go_of (s := { s with heap := h' }) e c dd (by decide) ⟨.ref r.2.1, H, I1, hkey, ⟨rfl, r, hr, rfl⟩, st', fun b hb => (hf b hb).1⟩⟩
  done := by
    intro X hP hw hK hc i pins s σ H E I hf st hg
    subst hP hw hK
    obtain ⟨hd, hi⟩ := hg
    obtain ⟨f0, f1, f2, f3, f4, f5⟩ := hf it (by simp)
    obtain ⟨hs, hgd, hx, es', ep', hdt, hsz, ent⟩ := frzN I hd
    obtain ⟨rfl, rfl⟩ := dict_ep hod hdt
    exact next_key_end (I.ok.hd hc) st hgd hdt hsz hi fun h' eb => ⟨rfl, I.turned (t' := s.toks) (fun b ob hb e => eb b ob hb e) f0 f1 f3 f4 f5⟩
  self := fun A i s Q E st h => by
    refine wpAny_pyIter_slot st.typeIs PySem.F.slot_dict_keyiterator_iter (wpAny_call_entry PySem.F.slot_dict_keyiterator_iter st.typeIs PySem.F.entry_dict_keyiterator_iter ?_ (PySem.F.args_dict_keyiterator_iter_1 _))
    show wpAny _ _ (ret (.ref it)) _ _ s
    exact wpAny_pure ⟨_, rfl, "dict_keyiterator", _, st.typeIs, PySem.F.slot_dict_keyiterator_next.lookup, h⟩
def iKeysN (P : Program) (w : World) (td : TE) : TI := fun σ H R => td σ H fun x H1 => ∃ d o rs, x = .ref d ∧ H1 d = some (.frz o (DNo P w d rs)) ∧ R (ItN P w d o rs) H1
theorem pi_keysN {X : Cx} {tg e : Expr} {td : TE} (he : PE X e td) : PI X tg e (iKeysN X.prog X.w td) := by
  refine ⟨fun pins s σ H R I h => ?_⟩
  refine thn (he.run pins s σ H _ I h) fun u s1 ⟨x, H1, I1, rx, d, o, rs, ex, hd, q⟩ => ?_
  subst ex
  obtain rfl : u = Value.ref d := rx
  obtain ⟨hs, hgd, hx, es, ep, hdt, hsz, ent⟩ := frzN I1 hd
  refine iter_keys hs hgd hx hdt (pi_one (tk := s1.toks) I1 _ (turn_keysN _ hdt) ⟨_, Heap.get?_push_size _ rfl, rfl, ?_⟩ q)
  rw [hsz] <;> rfl
theorem walk_keysN {P : Program} {w : World} {d : Addr} {o : Obj} {rs : List NRow} : Walk (ItN P w d o rs) rs.length (fun H => H d = some (.frz o (DNo P w d rs))) (fun i H x H' => H' = H ∧ ∃ r, rs[i]? = some r ∧ x = .ref r.2.1) :=
  ⟨fun _ _ hi h => ⟨h, hi⟩, fun _ h => ⟨h, Nat.le_refl _⟩, fun _ _ _ _ _ _ y => y⟩

/-! ### dicts whose keys are tuples of whole numbers -/
def emb (kv : List Int × Int) : List L2.Key × V := (kv.1.map Sum.inl, .int kv.2)
abbrev TupAt (H : Hp) (b : Addr) (p : List Int) : Prop := H b = some (.tup (p.map V.int))
theorem inl_kV (p : List Int) : (p.map (Sum.inl : Int → L2.Key)).map kV = p.map V.int := by
  rw [List.map_map]; rfl
theorem inl_inj : ∀ {a b : List Int}, a.map (Sum.inl : Int → L2.Key) = b.map Sum.inl → a = b
  | [], [], _ => rfl
  | [], _ :: _, e => by simp at e
  | _ :: _, [], e => by simp at e
  | x :: a, y :: b, e => by
    simp only [List.map_cons, List.cons.injEq, Sum.inl.injEq] at e
    rw [e.1, inl_inj e.2]
theorem emb_iff {kv : List Int × Int} {p : List Int} : (emb kv).1 = p.map Sum.inl ↔ kv.1 = p := ⟨fun h => inl_inj h, fun h => by rw [← h]; rfl⟩
theorem valV_emb (kvs : List (List Int × Int)) (p : List Int) : valV (kvs.map emb) (p.map Sum.inl) = (kvs.find? fun kv => decide (kv.1 = p)).map fun kv => V.int kv.2 := by
  induction kvs with
  | nil => rfl
  | cons q r ih =>
    rw [List.map_cons, List.find?_cons]
    by_cases e : q.1 = p
    · rw [valV_pos (emb_iff.mpr e), decide_eq_true e]; rfl
    · rw [valV_neg (fun z => e (emb_iff.mp z)), decide_eq_false e]; exact ih
theorem valV_aget (kvs : List (List Int × Int)) (p : List Int) : (valV (kvs.map emb) (p.map Sum.inl)).getD (.int 0) = .int (aget kvs p) := by
  rw [valV_emb]
  unfold aget
  cases kvs.find? fun kv => decide (kv.1 = p) <;> rfl
theorem valV_mem {kvs : List (List Int × Int)} {p : List Int} {c : Int} (nd : Nd kvs) (h : (p, c) ∈ kvs) : valV (kvs.map emb) (p.map Sum.inl) = some (.int c) := by
  have h1 := aget_mem nd h
  rw [valV_emb]
  unfold aget at h1
  cases e : kvs.find? fun kv => decide (kv.1 = p) with
  | none =>
    have := List.find?_eq_none.mp e _ h
    simp at this
  | some q =>
    rw [e] at h1
    have h2 : q.2 = c := h1
    rw [← h2]; rfl
theorem putK_emb (kvs : List (List Int × Int)) (p : List Int) (v : Int) : putK (kvs.map emb) (p.map Sum.inl) (.int v) = (aput kvs p v).map emb := by
  unfold putK aput
  have e : ((kvs.map emb).any fun kv => decide (kv.1 = p.map Sum.inl)) = kvs.any fun kv => decide (kv.1 = p) := by
    rw [List.any_map]
    congr 1
    funext kv
    simp only [Function.comp]
    exact decide_eq_decide.mpr emb_iff
  rw [e]
  split
  · rw [List.map_map, List.map_map]
    refine List.map_congr_left fun q _ => ?_
    simp only [Function.comp]
    by_cases c : q.1 = p
    · rw [if_pos (emb_iff.mpr c), if_pos c]; rfl
    · rw [if_neg (fun z => c (emb_iff.mp z)), if_neg c]
  · rw [List.map_append]; rfl

/-! {k: v} -/
def tTOne (tk tv : TE) : TE := fun σ H Q => ∀ p, H p = none → tk σ (upd H p (.dT [])) fun x H1 => tv σ H1 fun y H2 => ∃ b k c, x = .ref b ∧ y = .int c ∧ TupAt H2 b k ∧ H2 p = some (.dT []) ∧ Q (.ref p) (upd H2 p (.dT [emb (k, c)]))
theorem key_at {P : Program} {w : World} {H : Hp} {h : Heap} {b : Addr} {k : List Int} (ok : HOk P w H h) (e : TupAt H b k) : (tupleKind (mixKind P w)).is h (k.map Sum.inl) b := key_of ok (by rw [inl_kV]; exact e)
theorem pe_tone {X : Cx} {k v : Expr} {pos : Pos} {tk tv : TE} (hu : X.A.units + 64 < cLine) (hk : PE X k tk) (hv : PE X v tv) : PE X (.Dict [some k] [v] pos) (tTOne tk tv) := by
  refine ⟨fun pins s σ H Q I q => ?_⟩
  have hn := I.hok.fresh (Nat.le_refl s.heap.objs.size)
  have I1 := I.laid (a := s.heap.objs.size) (o := .dT []) (h' := s.heap.push { cls := .type "dict", data := .dict #[] }) (t' := s.toks) (fun _ _ q => Heap.get?_push_of_some _ q) (Nat.le_refl _) (dt_empty s.heap I.big)
  have pp : PPs X pos [some k] [v] [(tk, tv)] := pps_cons hk hv pps_nil
  have run := pp.run pins _ σ _ (fun ps H2 => match ps with
    | [(x, y)] => ∃ b kk c, x = .ref b ∧ y = .int c ∧ TupAt H2 b kk ∧ H2 s.heap.objs.size = some (.dT []) ∧ Q (.ref s.heap.objs.size) (upd H2 s.heap.objs.size (.dT [emb (kk, c)]))
    | _ => False) I1 (q _ hn)
  have hl : (pairTrees [some k] [v] X.env pos).length = 1 := pairTrees_length [some k] [v] X.env pos rfl rfl
  have h0 : pairTrees [some k] [v] X.env pos ≠ [] := fun z => by rw [z] at hl; cases hl
  rw [arm_eval_Dict, zip_pairTrees [some k] [v] X.env pos rfl rfl, dictDisplay_pairs _ h0 (by omega)]
  refine wpAny_bind (wpAny_standAt (wpAny_bind ?_))
  refine wpAny_subDictH (knd := tupleKind (mixKind X.prog X.w)) (by show X.A.units < cLine; omega) (by omega) (thn run ?_)
  rintro vs s2 ⟨ps, H2, I2, rel, q2⟩
  match ps, rel, q2 with
  | [(x, y)], rel, q2 =>
    obtain ⟨b, kk, c, rfl, rfl, hb, e2, q3⟩ := q2
    cases rel with
    | @cons _ pr _ ws h t =>
      cases t
      obtain ⟨u1, u2⟩ := pr
      obtain ⟨h1, h2⟩ := h
      cases (show u1 = Value.ref b from h1)
      obtain ⟨_, lo, xs, r, dd⟩ := dt_of I2.hok e2
      cases r
      refine ⟨[(kk.map Sum.inl, b, u2)], ⟨rfl, rfl, key_at I2.hok hb, True.intro⟩, dd, fun h' tk' dd' hs => wpAny_pure ?_⟩
      obtain ⟨q, es, ep, hq, g2, g3, g4, _, g5⟩ := dd'
      have hb' : upd H2 s.heap.objs.size (.dT [emb (kk, c)]) b = some (.tup ((kk.map (Sum.inl : Int → L2.Key)).map kV)) := by
        rw [upd_ne (ne_of hb e2 (fun z => nomatch z)), inl_kV]; exact hb
      have one : ([emb (kk, c)] : List (List L2.Key × V)).length ≤ sizeLine := by show 1 ≤ sizeLine; decide
      exact ⟨.ref s.heap.objs.size, _, d_write (ob := .dT [emb (kk, c)]) I2 (by rw [e2]; exact True.intro) hs ⟨q, hq⟩ ⟨one, lo, [(kk.map Sum.inl, b, u2)], .cons ⟨rfl, hb', h2⟩ .nil, q, es, ep, hq, g2, g3, g4, g5⟩, rfl, q3⟩
/-! dict([(k, v), ..]) -/
structure PRow where
  t : Addr
  b : Addr
  k : List Int
  c : Int
def rDictT (K : PySem.W.Frag) : List V → Hp → VK → Prop := fun vs H Q => ∃ (l : Addr) (rs : List PRow), vs = [.ref l] ∧ SqL K H l (rs.map fun r => V.ref r.t) ∧ (∀ r ∈ rs, H r.t = some (.tup [.ref r.b, .int r.c]) ∧ TupAt H r.b r.k) ∧ (rs.map (·.k)).Nodup ∧
  ∀ p, H p = none → Q (.ref p) (upd H p (.dT (rs.map fun r => emb (r.k, r.c))))
theorem prow_vals {X : Cx} {pins : List (Addr × Obj)} {σ : L2.St} {H : Hp} {s : Shared} (I : Inv X pins σ H s) : ∀ (rs : List PRow), (∀ r ∈ rs, H r.t = some (.tup [.ref r.b, .int r.c]) ∧ TupAt H r.b r.k) →
    ∃ us : List Value, Paired (fun (r : PRow) u => RelV (.int r.c) u ∧ s.heap.IsTuple r.t #[.ref r.b, u]) rs us
  | [], _ => ⟨[], .nil⟩
  | r :: rs, h => by
    obtain ⟨us, p⟩ := prow_vals I rs fun q hq => h q (List.mem_cons_of_mem _ hq)
    obtain ⟨h1, h2⟩ := h r List.mem_cons_self
    obtain ⟨_, its, rv, o, e1, e2, n, e3⟩ := (show ObjOk X.prog X.w H s.heap r.t (.tup [.ref r.b, .int r.c]) from I.hok _ _ h1)
    obtain ⟨u, v, ei, ru, rw'⟩ := vals2 rv
    subst ei
    cases (show u = Value.ref r.b from ru)
    exact ⟨v :: us, .cons ⟨rw', ⟨o, e1, e2, n, e3⟩⟩ p⟩
theorem cr_dictT {X : Cx} (hc : X.calm = true) (hu : X.A.units + 64 < cLine) : CallR X (.type "dict") (rDictT X.K) := by
  intro pins s σ H vs us Q I rv h
  obtain ⟨l, rs, rfl, hl, hr, hnd, q⟩ := h
  obtain ⟨u, rfl, ru⟩ := rv.one
  cases (show u = Value.ref l from ru)
  obtain ⟨its, r1, pl, hz⟩ := I.list hl
  obtain ⟨ws, pw⟩ := prow_vals I rs hr
  have ei : its = rs.map fun r => Value.ref r.t := by
    have : ∀ {rs : List PRow} {its : List Value}, Vals (rs.map fun r => V.ref r.t) its → its = rs.map fun r => Value.ref r.t := by
      intro rs
      induction rs with
      | nil => intro its h; cases h; rfl
      | cons r rs ih =>
        intro its h
        rw [List.map_cons] at h
        cases h with
        | cons a b => cases a; rw [List.map_cons, ih b]
    exact this r1
  subst ei
  obtain ⟨o, n, ho, hcl, hdi, hda⟩ := pl
  rw [List.length_map] at hz
  have hlw : rs.length = ws.length := Paired.length pw
  -- the pairs, by their addresses
  let ps : List (Value × Value) := (rs.zip ws).map fun x => (Value.ref x.1.b, x.2)
  let Ts : Nat → Addr := fun j => ((rs[j]?).map (·.t)).getD 0
  have hps : ps.length = rs.length := by simp [ps, hlw]
  have hitem : ∀ (j : Nat) (k v : Value), ps[j]? = some (k, v) → ∃ r, rs[j]? = some r ∧ ws[j]? = some v ∧ k = .ref r.b := by
    intro j k v e
    simp only [ps, List.getElem?_map, Option.map_eq_some_iff] at e
    obtain ⟨⟨r, w⟩, e1, e2⟩ := e
    obtain ⟨a1, a2⟩ := List.getElem?_zip_eq_some.mp e1
    injection e2 with e3 e4
    exact ⟨r, a1, by rw [← e4]; exact a2, e3.symm⟩
  have hok : PlainSeq "list" s.heap l (rs.map fun r => Value.ref r.t).toArray ∧ PairItems s.heap (rs.map fun r => Value.ref r.t).toArray Ts ps := by
    refine ⟨⟨o, n, ho, hcl, hdi, hda⟩, by simp [hps], fun j k v e => ?_⟩
    obtain ⟨r, a1, a2, rfl⟩ := hitem j k v e
    obtain ⟨w', a3, a4, a5⟩ := paired_get pw a1
    rw [a2] at a3; cases a3
    refine ⟨by simp [a1, Ts], .inl ?_⟩
    have : Ts j = r.t := by simp [Ts, a1]
    rw [this]; exact a5
  have hpH : PairsHaveH (tupleKind (mixKind X.prog X.w)) ps.length (PairRel ps) ((rs.zip ws).map fun x => (x.1.k.map Sum.inl, x.1.b, x.2)) := by
    refine ⟨by simp [ps], fun j k v e => ?_⟩
    obtain ⟨r, a1, a2, rfl⟩ := hitem j k v e
    have z : (rs.zip ws)[j]? = some (r, v) := List.getElem?_zip_eq_some.mpr ⟨a1, a2⟩
    exact ⟨r.k.map Sum.inl, r.b, by rw [List.getElem?_map, z]; rfl, rfl⟩
  have keysnd : (((rs.zip ws).map fun x => ((x.1.k.map Sum.inl : List L2.Key), x.1.b, x.2)).map (·.1)).Nodup := by
    have e : ((rs.zip ws).map fun x => ((x.1.k.map Sum.inl : List L2.Key), x.1.b, x.2)).map (·.1) = rs.map fun r => (r.k.map Sum.inl : List L2.Key) := by
      rw [List.map_map]
      have : (rs.zip ws).map (fun x => x.1) = rs := List.map_fst_zip (by omega)
      calc _ = ((rs.zip ws).map fun x => x.1).map fun r => (r.k.map Sum.inl : List L2.Key) := by rw [List.map_map]; rfl
        _ = _ := by rw [this]
    rw [e]
    have : (rs.map fun r => (r.k.map Sum.inl : List L2.Key)) = (rs.map (·.k)).map fun k => (k.map Sum.inl : List L2.Key) := by rw [List.map_map]; rfl
    rw [this]
    exact List.Pairwise.map _ (fun a b hne e => hne (inl_inj e)) hnd
  have keysis : ∀ x ∈ (rs.zip ws).map (fun x => ((x.1.k.map Sum.inl : List L2.Key), x.1.b, x.2)), ∃ r ∈ rs, x.1 = r.k.map Sum.inl ∧ x.2.1 = r.b := by
    intro x hx
    obtain ⟨y, hy, rfl⟩ := List.mem_map.mp hx
    exact ⟨y.1, (List.of_mem_zip hy).1, rfl, rfl⟩
  refine call_dict_pairsH (knd := tupleKind (mixKind X.prog X.w)) (PairArg.list l (rs.map fun r => Value.ref r.t).toArray Ts ps) (I.ok.hd hc) (by show X.A.units + 1 + 1 < cLine; omega) hok hpH ?_ (by rw [hps]; exact hz) fun h' tk dd hk => ?_
  · intro h' hk x hx
    obtain ⟨r, hr1, e1, e2⟩ := keysis x hx
    rw [e1, e2]
    obtain ⟨ob, vs, n', b1, b2, b3, b4⟩ := key_at (P := X.prog) (w := X.w) I.hok (hr r hr1).2
    exact ⟨ob, vs, n', hk _ _ (fun z => by have := Heap.lt_size b1; rw [z] at this; exact Nat.lt_irrefl _ this) (by simp) b1, b2, b3, b4⟩
  · rw [storedAllH_nil_of_nodup _ keysnd] at dd
    obtain ⟨ob, es, ep, g1, g2, g3, g4, _, g5⟩ := dd
    have hn := I.hok.fresh (Nat.le_refl s.heap.objs.size)
    have lo : (s.heap.objs.size == sysModules) = false := beq_eq_false_iff_ne.mpr (Nat.ne_of_gt I.big)
    refine ⟨.ref s.heap.objs.size, _, I.laid (t' := tk) (o := .dT (rs.map fun r => emb (r.k, r.c))) (fun b u e => hk b u (by simp) e) (Nat.le_refl _) ⟨by rw [List.length_map]; exact hz, lo, (rs.zip ws).map (fun x => ((x.1.k.map Sum.inl : List L2.Key), x.1.b, x.2)), ?_, ob, es, ep, g1, g2, g3, g4, g5⟩, rfl, q _ hn⟩
    have pr : ∀ {rs : List PRow} {ws : List Value}, Paired (fun (r : PRow) u => RelV (.int r.c) u ∧ s.heap.IsTuple r.t #[.ref r.b, u]) rs ws → (∀ r ∈ rs, H r.t = some (.tup [.ref r.b, .int r.c]) ∧ TupAt H r.b r.k) →
        ∀ o : HO, Paired (fun (p : List L2.Key × V) (q : List L2.Key × Addr × Value) => p.1 = q.1 ∧ upd H s.heap.objs.size o q.2.1 = some (.tup (p.1.map kV)) ∧ RelV p.2 q.2.2) (rs.map fun r => emb (r.k, r.c)) ((rs.zip ws).map fun x => ((x.1.k.map Sum.inl : List L2.Key), x.1.b, x.2)) := by
      intro rs ws p
      induction p with
      | nil => intro _ _; exact .nil
      | @cons r u rs ws h t ih =>
        intro hr o
        rw [List.map_cons, List.zip_cons_cons, List.map_cons]
        refine .cons ⟨rfl, ?_, h.1⟩ (ih (fun q hq => hr q (List.mem_cons_of_mem _ hq)) o)
        have hb := (hr r List.mem_cons_self).2
        show upd H s.heap.objs.size o r.b = some (.tup ((r.k.map (Sum.inl : Int → L2.Key)).map kV))
        rw [upd_ne (ne_of_none hb hn), inl_kV]; exact hb
    exact pr pw hr _
end HL

set_option Elab.async false
set_option linter.all false
set_option maxRecDepth 100000
set_option maxHeartbeats 4000000
namespace HL
open PySem PySem.Spec L2
open PyProof.Rows (IntsAre IsTup)
section
variable {X : Cx}
theorem dpAll_ints {K : PySem.W.Frag} {H : Hp} : ∀ p : List Int, DpAll K H (p.map V.int) (p.map PyData.int)
  | [] => .nil
  | x :: p => .cons (.int x) (dpAll_ints p)
theorem dp_tup {K : PySem.W.Frag} {H : Hp} {b : Addr} {p : List Int} (h : SqT K H b (p.map V.int)) : Dp K H (.ref b) (.tuple (p.map PyData.int)) := .tup h (dpAll_ints p)
theorem dpAll_tups {K : PySem.W.Frag} {H : Hp} : ∀ (rs : List (Addr × List Int)), (∀ r ∈ rs, TupAt H r.1 r.2) → DpAll K H (rs.map fun r => V.ref r.1) (rs.map fun r => PyData.tuple (r.2.map PyData.int))
  | [], _ => .nil
  | r :: rs, h => .cons (dp_tup (.inl (.inl (h r List.mem_cons_self)))) (dpAll_tups rs fun q hq => h q (List.mem_cons_of_mem _ hq))

/-! sum of a tuple of whole numbers -/
def rSumT (K : PySem.W.Frag) : List V → Hp → VK → Prop := fun vs H Q => ∃ (a : Addr) (ns : List Int), vs = [V.ref a] ∧ SqT K H a (ns.map V.int) ∧ Q (.int ns.sum) H
theorem preSum_list (ns : List Int) : preSum (fun i => ns.getD i 0) ns.length = ns.sum := by
  have : ∀ k, k ≤ ns.length → preSum (fun i => ns.getD i 0) k = (ns.take k).sum := by
    intro k
    induction k with
    | zero => intro _; rfl
    | succ k ih =>
      intro hk
      rw [preSum, ih (by omega)]
      have e : ns[k]? = some ns[k] := List.getElem?_eq_getElem (by omega)
      rw [sum_take e, List.getD_eq_getElem?_getD, e]
      rfl
  rw [this _ (Nat.le_refl _), List.take_length]
theorem cr_sumT (hc : X.calm = true) : CallR X (.builtin "sum") (rSumT X.K) := by
  intro pins s σ H vs us Q I r h
  obtain ⟨a, ns, rfl, hs, q⟩ := h
  obtain ⟨its, rv, pl, _⟩ := I.tuple hs
  rw [Vals.ref1 r]
  have hi : IntsAre its ns := rv.ints
  have hlen : its.length = ns.length := hi.length
  obtain ⟨o, ho, hcl, n, hd⟩ := pl
  have hT : s.heap.IsTuple a its.toArray := ⟨o, ho, hcl, n, hd⟩
  have hlt : a < s.heap.objs.size := Heap.lt_size ho
  refine call_sum_walkAnyS (wpAny_pyIter_tuple hT ?_)
  refine ⟨s.heap.objs.size, _, _, _, _, _, _, fun i => ns.getD i 0, rfl, (Walks.tuple (A := X.A.in1) (I.ok.hd hc) _ a (Nat.ne_of_lt hlt) its.toArray).toS, ⟨⟨_, Heap.get?_push_size _ rfl, rfl, rfl⟩, hT.push _⟩, fun b hb => ?_, fun i v hv => ?_, fun s' t' hm => ?_⟩
  · show b < (s.heap.push _).objs.size
    rw [Heap.size_push]
    rcases List.mem_cons.mp hb with e | hb
    · rw [e]; exact Nat.lt_succ_self _
    · rw [List.mem_singleton.mp hb]; exact Nat.lt_succ_of_lt hlt
  · have h1 : its[i]? = some v := by simpa using hv
    have h2 : i < ns.length := by rw [← hlen]; exact (List.getElem?_eq_some_iff.mp h1).1
    obtain ⟨u, hu, ru⟩ := rv.get (i := i) (x := .int ns[i]) (by rw [List.getElem?_map, List.getElem?_eq_getElem h2]; rfl)
    rw [h1] at hu
    cases hu
    obtain ⟨t, e⟩ := ru
    refine ⟨t, ?_⟩
    show v = Value.int (ns.getD i 0) t
    rw [e, List.getD_eq_getElem?_getD, List.getElem?_eq_getElem h2]
    rfl
  · have hk : ∀ b o, s.heap.get? b = some o → s'.heap.get? b = some o := fun b o e =>
      hm.heap b o (fun hI => absurd (Heap.lt_size e) (by rw [List.mem_singleton.mp hI]; exact Nat.lt_irrefl _)) (Heap.get?_push_of_some _ e)
    rw [Moved.eq_with hm]
    have e : its.toArray.size = ns.length := by rw [List.size_toArray, hlen]
    rw [e, preSum_list]
    exact ⟨.int ns.sum, H, I.kept hk, ⟨_, rfl⟩, q⟩

/-! sum(d.values()) -/
def tSumVals (td : TE) : TE := fun σ H Q => td σ H fun x H1 => ∃ (a : Addr) (kvs : List (List Int × Int)), x = V.ref a ∧ Rd H1 a (.dT (kvs.map emb)) ∧ Q (.int ((kvs.map (·.2)).sum)) H1
variable {o : Expr} {p pos apos mpos : Pos} {td : TE}
theorem pe_sumVals (hc : X.calm = true) (hg : Gl X "sum") (hm : X.mg "sum" = none) (hd : PE X o td) (hbase : attributeBase o "values" X.env (eval o X.env) = eval o X.env := by rfl) (hline : (apos.endLine == mpos.line) = true := by rfl)
    (hse : starEach [Expr.Call (.Attribute o "values" apos) [] [] mpos] X.env = [(false, eval (Expr.Call (.Attribute o "values" apos) [] [] mpos) X.env)] := by rfl) :
    PE X (.Call (.Name "sum" p) [.Call (.Attribute o "values" apos) [] [] mpos] [] pos) (tSumVals td) := by
  refine ⟨fun pins s σ H Q I h => ?_⟩
  refine wpAny_Call_Name_kw (ld_blt I hg hm (u := .builtin "sum") (by first | rfl | decide +kernel) ?_ (by first | decide +kernel | decide) (by first | decide +kernel | decide))
  rw [hse]
  refine PySem.callWith_builtin1 (wpAny_Call_method0_late hbase hline (thn (hd.run pins s σ H _ I h) fun v s1 ⟨x, H1, I1, r1, a, kvs, ex, ha, q⟩ => ?_))
  subst ex
  obtain rfl : v = Value.ref a := r1
  obtain ⟨z, hsys, xs, pr, ob, es, ep, ho, hx, hdat, he, _⟩ := (show ObjOk X.prog X.w H1 s1.heap a (.dT (kvs.map emb)) from ha.ok I1.hok)
  refine ⟨"dict", "dict.values", PySem.F.plainAttrs_dict, PySem.F.slot_dict_values, PySem.F.type_dict_values, ⟨ob, ho, hx.1⟩, fun b e => ?_, Calls.callWith_builtin rfl (PySem.evalArgs_none ?_)⟩
  · cases e
    exact ⟨ob, ho, hx.2.1⟩
  have hraw : s1.heap.DictRaw a es ep := ⟨ob, ho, hx, hdat⟩
  refine call_meetsIn PySem.F.slot_dict_values ⟨ob, ho, hx.1⟩ PySem.F.entry_dict_values (PySem.F.args_dict_values_1 _) (meets_dict_values_raw a hsys) ⟨⟨es, ep, hraw⟩, ?_⟩
  have hlt : a < s1.heap.objs.size := Heap.lt_size ho
  have k1 : ∀ b u, s1.heap.get? b = some u → (s1.heap.push { cls := .type "dict_values", data := .fields #[.ref a] }).get? b = some u := fun b u e => Heap.get?_push_of_some _ e
  have raw1 := hraw.push { cls := .type "dict_values", data := .fields #[.ref a] }
  have hsz : (s1.heap.push { cls := .type "dict_values", data := .fields #[.ref a] }).objs.size = s1.heap.objs.size + 1 := Heap.size_push _ _
  have hlen : es.size = kvs.length := by
    have l1 : es.size = xs.length := size_of_entries he
    have l2 : (kvs.map emb).length = xs.length := Paired.length pr
    rw [List.length_map] at l2
    omega
  have hval : ∀ (i : Nat) (v : Value), (∃ hi : i < es.size, v = es[i].val) → ∃ t, v = Value.int ((kvs.map (·.2)).getD i 0) t := fun i v ⟨hi, hv⟩ => by
    have hk : i < kvs.length := by omega
    obtain ⟨b, hb, e1, e2, e3⟩ := paired_get pr (i := i) (a := emb kvs[i]) (by rw [List.getElem?_map, List.getElem?_eq_getElem hk]; rfl)
    have q := entry_at he i
    rw [hb, Array.getElem?_eq_getElem hi] at q
    have q' : es[i] = entryOfKey (tupleKind (mixKind X.prog X.w)) b := Option.some.inj q
    obtain ⟨t, e4⟩ := e3
    refine ⟨t, ?_⟩
    rw [hv, q']
    show b.2.2 = _
    rw [e4, List.getD_eq_getElem?_getD, List.getElem?_map, List.getElem?_eq_getElem hk]
    rfl
  refine call_sum_walkAnyS (wpAny_pyIter_values_raw (v := s1.heap.objs.size) (d := a) ⟨_, Heap.get?_push_size _ rfl, rfl, rfl⟩ raw1 ?_)
  refine ⟨_, _, _, _, _, _, _, fun i => (kvs.map (·.2)).getD i 0, rfl, (Walks.rawValues (A := X.A.in1) (I1.ok.hd hc) (s1.heap.push { cls := .type "dict_values", data := .fields #[.ref a] }).objs.size a (by rw [hsz]; exact Nat.ne_of_lt (Nat.lt_succ_of_lt hlt)) es ep).toS,
    ⟨⟨_, Heap.get?_push_size _ rfl, rfl, rfl⟩, raw1.push _⟩, fun b hb => ?_, hval, fun s' t' hm' => ?_⟩
  · show b < (Heap.push _ _).objs.size
    rw [Heap.size_push]
    rcases List.mem_cons.mp hb with e | hb
    · rw [e]; exact Nat.lt_succ_self _
    · rw [List.mem_singleton.mp hb, hsz]; exact Nat.lt_succ_of_lt (Nat.lt_succ_of_lt hlt)
  · have hk : ∀ b o, s1.heap.get? b = some o → s'.heap.get? b = some o := fun b o e =>
      hm'.heap b o (fun hI => absurd (Heap.lt_size e) (by rw [List.mem_singleton.mp hI, hsz]; exact Nat.not_lt.mpr (Nat.le_succ _))) (Heap.get?_push_of_some _ (Heap.get?_push_of_some _ e))
    rw [Moved.eq_with hm']
    have e : preSum (fun i => (kvs.map (·.2)).getD i 0) es.size = (kvs.map (·.2)).sum := by
      have := preSum_list (kvs.map (·.2))
      rw [List.length_map] at this
      rw [hlen]; exact this
    rw [e]
    exact ⟨.int _, H1, I1.kept hk, ⟨_, rfl⟩, q⟩

/-! min of a list of tuples of whole numbers -/
def rMinT (K : PySem.W.Frag) : List V → Hp → VK → Prop := fun vs H Q => ∃ (l : Addr) (rs : List (Addr × List Int)), vs = [V.ref l] ∧ SqL K H l (rs.map fun r => V.ref r.1) ∧ (∀ r ∈ rs, TupAt H r.1 r.2) ∧ rs ≠ [] ∧ ∀ r ∈ rs, Q (.ref r.1) H
theorem refs_vals : ∀ {rs : List (Addr × List Int)} {us : List Value}, Vals (rs.map fun r => V.ref r.1) us → us = rs.map fun r => Value.ref r.1
  | [], _, h => by cases h; rfl
  | r :: rs, _, h => by
    rw [List.map_cons] at h
    cases h with
    | cons a b => cases a; rw [List.map_cons, refs_vals b]
theorem depth_tups : ∀ rs : List (Addr × List Int), PyData.depthAll (rs.map fun r => PyData.tuple (r.2.map PyData.int)) ≤ 1
  | [] => Nat.zero_le _
  | r :: rs => by
    show max (PyData.depthAll (r.2.map PyData.int) + 1) (PyData.depthAll (rs.map fun r => PyData.tuple (r.2.map PyData.int))) ≤ 1
    rw [PySem.W.depth_ints]
    exact Nat.max_le.mpr ⟨Nat.le_refl _, depth_tups rs⟩
theorem cr_minT (hc : X.calm = true) (hu : X.A.units + 64 < cLine) : CallR X (.builtin "min") (rMinT X.K) := by
  intro pins s σ H vs us Q I r h
  obtain ⟨l, rs, rfl, hs, ht, hne, q⟩ := h
  obtain ⟨its, rv, pl, _⟩ := I.list hs
  rw [Vals.ref1 r]
  obtain ⟨as, hr⟩ := Dp.readsAll I _ _ its (dpAll_tups rs ht) rv
  have ei := refs_vals rv
  subst ei
  obtain ⟨r0, rs', rfl⟩ : ∃ r0 rs', rs = r0 :: rs' := by
    cases rs with
    | nil => exact absurd rfl hne
    | cons a b => exact ⟨a, b, rfl⟩
  have hdep : X.A.units + 1 + PyData.depthAll ((r0 :: rs').map fun r => PyData.tuple (r.2.map PyData.int)) < cLine := by
    have := depth_tups (r0 :: rs')
    omega
  refine PySem.W.min_list_data (I.ok.hd hc) pl.isList hr ⟨fun x hx y hy => ?_, fun x hx => ?_⟩ hdep fun i v h' tk bs hv _ hk => ?_
  · obtain ⟨a, _, rfl⟩ := List.mem_map.mp (show x ∈ (r0 :: rs').map fun r => PyData.tuple (r.2.map PyData.int) from hx)
    obtain ⟨b, _, rfl⟩ := List.mem_map.mp (show y ∈ (r0 :: rs').map fun r => PyData.tuple (r.2.map PyData.int) from hy)
    exact PySem.W.alike_ints a.2 b.2
  · obtain ⟨a, _, rfl⟩ := List.mem_map.mp (show x ∈ (r0 :: rs').map fun r => PyData.tuple (r.2.map PyData.int) from hx)
    exact fun z => nomatch z
  · have hv' : ((r0 :: rs').map fun r => Value.ref r.1)[i]? = some v := by simpa using hv
    rw [List.getElem?_map] at hv'
    obtain ⟨b, hb, e⟩ := Option.map_eq_some_iff.mp hv'
    rw [← e]
    exact ⟨.ref b.1, H, I.kept hk, rfl, q b (List.mem_of_getElem? hb)⟩

/-! sorted of a dict whose keys are tuples of whole numbers -/
def rSortedD : List V → Hp → VK → Prop := fun vs H Q => ∃ (a : Addr) (kvs : List (List Int × Int)), vs = [V.ref a] ∧ Rd H a (.dT (kvs.map emb)) ∧ (∀ kv ∈ kvs, kv.1 ≠ []) ∧
  ∀ (bs : List Addr) (p : Addr), (∀ b ∈ bs, ∃ kv ∈ kvs, TupAt H b kv.1) → H p = none → Q (.ref p) (upd H p (.lst (bs.map V.ref)))
theorem keys_tups {P : Program} {w : World} {H : Hp} {h : Heap} (ok : HOk P w H h) {kvs : List (List Int × Int)} {xs : List (List L2.Key × Addr × Value)} (r : KT H (kvs.map emb) xs) :
    ∀ x ∈ xs, ∃ kv ∈ kvs, TupAt H x.2.1 kv.1 := by
  induction kvs generalizing xs with
  | nil => cases r; intro x hx; exact nomatch hx
  | cons kv kvs ih =>
    rw [List.map_cons] at r
    cases r with
    | cons a b =>
      intro x hx
      rcases List.mem_cons.mp hx with e | hx
      · subst e
        refine ⟨kv, List.mem_cons_self, ?_⟩
        have := a.2.1
        rw [show (emb kv).1.map kV = kv.1.map V.int from inl_kV _] at this
        exact this
      · obtain ⟨q, hq, e⟩ := ih b x hx
        exact ⟨q, List.mem_cons_of_mem _ hq, e⟩
theorem items_shape : ∀ {p : List Int} {us : List Value} (i : Nat), Vals (p.map V.int) us → ∃ l, PyProof.Rows.tupItems (fun _ => false) i us = some l
  | [], _, i, h => by cases h; exact ⟨[], rfl⟩
  | x :: p, _, i, h => by
    rw [List.map_cons] at h
    cases h with
    | @cons _ u _ us a b =>
      obtain ⟨t, e⟩ := (show ∃ t, u = Value.int x t from a)
      subst e
      obtain ⟨l, hl⟩ := items_shape (i + 1) b
      refine ⟨Sum.inl x :: l, ?_⟩
      show (if false = true then none else (PyProof.Rows.tupItems (fun _ => false) (i + 1) us).map (Sum.inl x :: ·)) = _
      rw [hl]; rfl
theorem tup_shape {P : Program} {w : World} {H : Hp} {h : Heap} (ok : HOk P w H h) {b : Addr} {p : List Int} (e : TupAt H b p) (hp : p ≠ []) :
    (∃ l, PyProof.Rows.G.tupKeyC h (fun _ => false) (.ref b) = some l) ∧ ∃ f, PyProof.Rows.TupOf h (fun _ => false) (.ref b) f := by
  obtain ⟨_, its, r, o, e1, e2, n, e3⟩ := (show ObjOk P w H h b (.tup (p.map V.int)) from ok b _ e)
  obtain ⟨l, hl⟩ := items_shape 0 r
  refine ⟨⟨l, ?_⟩, ?_⟩
  · unfold PyProof.Rows.G.tupKeyC PyProof.Rows.G.isTupObj PyProof.Rows.tupKey
    simp only [e1, e2, e3, hl]
    rfl
  · cases p with
    | nil => exact absurd rfl hp
    | cons x p =>
      rw [List.map_cons] at r
      cases r with
      | @cons _ u _ us a b =>
        obtain ⟨t, e⟩ := (show ∃ t, u = Value.int x t from a)
        subst e
        exact ⟨_, _, o, _, n, rfl, e1, e2, e3, rfl, fun _ => ⟨x, t, rfl⟩, fun z => nomatch z⟩
theorem tups_shape {h : Heap} : ∀ vs : List Value, (∀ v ∈ vs, ∃ f, PyProof.Rows.TupOf h (fun _ => false) v f) → ∃ fs, PyProof.Rows.TupsOf h (fun _ => false) vs fs
  | [], _ => ⟨[], .nil⟩
  | v :: vs, g => by
    obtain ⟨f, hf⟩ := g v List.mem_cons_self
    obtain ⟨fs, hfs⟩ := tups_shape vs fun u hu => g u (List.mem_cons_of_mem _ hu)
    exact ⟨f :: fs, .cons hf hfs⟩
theorem refs_list : ∀ us : List Value, (∀ u ∈ us, ∃ b, u = Value.ref b) → ∃ bs : List Addr, us = bs.map Value.ref
  | [], _ => ⟨[], rfl⟩
  | u :: us, g => by
    obtain ⟨b, e⟩ := g u List.mem_cons_self
    obtain ⟨bs, es⟩ := refs_list us fun x hx => g x (List.mem_cons_of_mem _ hx)
    exact ⟨b :: bs, by rw [e, es]; rfl⟩
theorem cr_sortedD (hc : X.calm = true) : CallR X (.builtin "sorted") rSortedD := by
  intro pins s σ H vs us Q I r h
  obtain ⟨a, kvs, rfl, hd, hne, q⟩ := h
  rw [Vals.ref1 r]
  obtain ⟨z, lo, xs, pr, o, es, ep, ho, hx, hdt, he, _⟩ := (show ObjOk X.prog X.w H s.heap a (.dT (kvs.map emb)) from hd.ok I.hok)
  have l1 : es.size = xs.length := size_of_entries he
  have l2 : (kvs.map emb).length = xs.length := Paired.length pr
  have h16 : es.size ≤ sizeLine := by rw [l1, ← l2]; exact z
  refine Calls.call_function_entry PyProof.Rows.kind_sorted PyProof.Rows.plain_sorted PyProof.Rows.entry_sorted (PyProof.Rows.args_sorted1 _) ?_
  unfold Builtin.«sorted»
  refine wpAny_bind (m := checkCount "sorted" 1 1 _) (wpAny_pure ?_)
  refine wpAny_bind (PySem.W.kdu_collect (A := X.A.in1) (kdl_raw lo hx hdt) (I.ok.hd hc) ho h16 fun h' tk acc hk hacc => ?_)
  have hal : acc.toList.length = es.size := by rw [Array.length_toList]; exact hacc.1
  have hmem : ∀ v ∈ acc.toList, ∃ b, v = Value.ref b ∧ ∃ kv ∈ kvs, TupAt H b kv.1 := fun v hv => by
    obtain ⟨j, hj⟩ := List.mem_iff_getElem?.mp hv
    obtain ⟨en, e1, e2⟩ := hacc.2 j v (by rw [← Array.getElem?_toList]; exact hj)
    have qe := entry_at he j
    rw [e1] at qe
    cases hb : xs[j]? with
    | none => rw [hb] at qe; exact nomatch (show some en = none from qe)
    | some x =>
      rw [hb] at qe
      have e3 : en = entryOfKey (tupleKind (mixKind X.prog X.w)) x := Option.some.inj qe
      refine ⟨x.2.1, by rw [e2, e3]; rfl, keys_tups I.hok pr x (List.mem_of_getElem? hb)⟩
  have I1 : Inv X pins σ H { s with heap := h', toks := tk } := I.kept hk
  refine wpAny_bind (wpAny_newList ?_ (by rw [hal]; exact h16))
  have hoL : (h'.push (PyProof.Rows.seqObj "list" acc.toList.toArray 0)).get? h'.objs.size = some (PyProof.Rows.seqObj "list" acc.toList.toArray 0) := Heap.get?_push_size _ rfl
  have I2 : Inv X pins σ H { s with heap := h'.push (PyProof.Rows.seqObj "list" acc.toList.toArray 0), toks := tk } := I1.kept (t' := tk) fun b u e => Heap.get?_push_of_some _ e
  show wpAny _ _ _ _ _ { s with heap := h'.push (PyProof.Rows.seqObj "list" acc.toList.toArray 0), toks := tk }
  obtain ⟨fs, hfs⟩ := tups_shape (h := h'.push (PyProof.Rows.seqObj "list" acc.toList.toArray 0)) acc.toList fun v hv => by
    obtain ⟨b, e, kv, hkv, t⟩ := hmem v hv
    subst e
    exact (tup_shape I2.hok t (hne kv hkv)).2
  refine wpAny_bind (wpAny_holding (wpAny_call_entry PyProof.Rows.slot_list_sort ⟨_, hoL, rfl⟩ PyProof.Rows.entry_list_sort
    (PyProof.Rows.G.list_sort_tups (s := { s with heap := h'.push (PyProof.Rows.seqObj "list" acc.toList.toArray 0), toks := tk }) hoL hfs (fun v hv => ?_) (by rw [hal]; exact h16) fun st' hp _ _ => ⟨_, rfl, ?_⟩)
    (PyProof.Rows.args_list_sort _)))
  · obtain ⟨b, e, kv, hkv, t⟩ := hmem v hv
    subst e
    exact (tup_shape I2.hok t (hne kv hkv)).1
  · have hp' : ((PyProof.Rows.arrOf st').map (·.2)).toList.Perm acc.toList := by
      have h1 := hp.toList
      rw [PyProof.Rows.pairsOf_toList] at h1
      have h2 := h1.map Prod.snd
      rw [List.map_snd_zip (Nat.le_refl _)] at h2
      rw [Array.toList_map]
      exact h2
    obtain ⟨bs, eb⟩ := refs_list ((PyProof.Rows.arrOf st').map (·.2)).toList fun u hu => by
      obtain ⟨b, e, _⟩ := hmem u (hp'.mem_iff.mp hu)
      exact ⟨b, e⟩
    obtain ⟨e', he'⟩ := PyProof.Rows.sortedHeap_at (vs := acc.toList) (out := (PyProof.Rows.arrOf st').map (·.2)) hoL
    have hbl : (bs.map V.ref).length ≤ sizeLine := by
      have h1 := hp'.length_eq
      rw [eb, List.length_map] at h1
      rw [List.length_map, h1, hal]; exact h16
    refine wpAny_pure ⟨_, rfl, .ref h'.objs.size, upd H h'.objs.size (.lst (bs.map V.ref)), I1.laid (t' := tk) (fun b u e => ?_) (Nat.le_refl _)
      (show ObjOk X.prog X.w _ _ _ (.lst (bs.map V.ref)) from ⟨hbl, ((PyProof.Rows.arrOf st').map (·.2)).toList, e', by rw [eb]; exact vals_refs bs, by rw [Array.toArray_toList]; exact he'⟩), rfl, q bs _ (fun b hb => ?_) (I1.hok.fresh (Nat.le_refl _))⟩
    · have hb : b < h'.objs.size := Heap.lt_size e
      rw [PyProof.Rows.sortedHeap_old (Nat.ne_of_lt hb) (by rw [PyProof.Rows.size_push']; exact Nat.lt_succ_of_lt hb)]
      exact Heap.get?_push_of_some _ e
    · obtain ⟨c, e, r⟩ := hmem (.ref b) (hp'.mem_iff.mp (by rw [eb]; exact List.mem_map.mpr ⟨b, hb, rfl⟩))
      cases e
      exact r

/-! t.index(n) -/
theorem flat_ints (ys : List Int) : (ys.map V.int).all flatV = true := by
  rw [List.all_map]
  exact List.all_eq_true.mpr fun _ _ => rfl
theorem mt_tup_indexI : MtR X "tuple.index" (fun x xs H Q => ∃ p, ∃ ys : List Int, ∃ z j, x = .ref p ∧ xs = [.int z] ∧ SqT X.K H p (ys.map V.int) ∧ ys[j]? = some z ∧ (∀ m, m < j → ys[m]? ≠ some z) ∧ Q (.int (j : Nat)) H) := by
  intro pins s σ H x xs v us Q I rx rs h
  obtain ⟨p, ys, z, j, rfl, rfl, hq, hy, hno, q⟩ := h
  cases rx
  obtain ⟨u, rfl, t, rfl⟩ := vals1 rs
  obtain ⟨its, r, ⟨⟨cls, dd, dt, sl⟩, ho, hc, n, hd⟩, hz⟩ := I.tuple hq
  simp only at hc hd
  subst hc hd
  have hl : its.toArray.size = ys.length := by rw [List.size_toArray, ← r.length, List.length_map]
  have hj : j < its.toArray.size := by rw [hl]; exact (List.getElem?_eq_some_iff.mp hy).1
  have at' : ∀ (m : Nat) (hm : m < its.toArray.size), ∃ y t', ys[m]? = some y ∧ its.toArray[m] = Value.int y t' := fun m hm => by
    have hm' : m < ys.length := by rw [← hl]; exact hm
    obtain ⟨w, hw, t', hw'⟩ := r.get (i := m) (x := .int ys[m]) (by simp [hm'])
    refine ⟨ys[m], t', List.getElem?_eq_getElem hm', ?_⟩
    have e := (List.getElem?_eq_some_iff.mp hw).2
    rw [← hw', ← e]
    simp
  refine call_meets PySem.F.slot_tuple_index ⟨_, ho, rfl⟩ PySem.F.entry_tuple_index (PySem.F.args_tuple_index_2 _ _) (TI.tuple_indexAt p its.toArray n dd sl (.int z t) (eqU (.int z)) j hj ?_ ?_)
    ⟨ho, fun w hw => mem_eqAt (x := .int z) ⟨t, rfl⟩ rfl r (flat_ints ys) w (by simpa using hw), ⟨.int (j : Nat), H, I.tok _, ⟨_, rfl⟩, q⟩⟩
  · obtain ⟨y, t', h1, h2⟩ := at' j hj
    rw [hy] at h1
    cases h1
    rw [h2]
    show (z == z) = true
    exact beq_self_eq_true z
  · intro m hm hmj
    obtain ⟨y, t', h1, h2⟩ := at' m hm
    rw [h2]
    show (y == z) = false
    exact beq_eq_false_iff_ne.mpr fun e => hno m hmj (by rw [h1, e])
end
end HL

set_option Elab.async false
set_option linter.all false
set_option maxRecDepth 100000
set_option maxHeartbeats 4000000
namespace HL
section
open PySem PySem.Spec L2 PyProof.Rows
theorem tuple_mul1 (l : Addr) (items : Array Value) (n : Nat) (dd : Option Addr) (sl : Array (Option Value)) (u : Tok) :
    Meets (Builtin.«tuple.__mul__» ⟨[.ref l, .int 1 u], []⟩) (fun _ R s => s.heap.get? l = some { cls := .type "tuple", dict := dd, data := .seq items n, slots := sl } ∧
      R (.ok (.ret (Value.ref l))) s) :=
  .of_wp fun prog w A R s h => by
    obtain ⟨hp, g, d, tk, os⟩ := s
    obtain ⟨hl, h⟩ := h
    have f1 := AutoSeq1.idx_int
    wp_walk using wpAny_loadPart' hl
    exact ⟨_, rfl, h⟩
/-- a tuple times a whole number from 1 on -/
def rRep1 (K : PySem.W.Frag) : R2 := fun x y H Q => ∃ l xs, x = .ref l ∧ y = .int 1 ∧ SqT K H l xs ∧ Q (.ref l) H
theorem op_rep1 {X : Cx} : OpR X (binaryOp .Mult) (rRep1 X.K) := by
  intro pins s σ H x y v u Q I rx ry h
  obtain ⟨l, xs, rfl, rfl, hT, q⟩ := h
  cases rx
  obtain ⟨t, rfl⟩ := ry
  obtain ⟨its, r, ⟨⟨cls, dd, data, sl⟩, ho, hc, n, hd⟩, hs⟩ := I.tuple hT
  simp only at hc hd
  subst hc hd
  exact wpAny_binaryOp_repeat_ref (T := "tuple") (U := "int") (by decide) ⟨_, ho, rfl⟩ (fun s' => typeIs_int s' 1 t) noFill_tuple_mul PySem.F.fills_int_mul PySem.F.slot_int_rmul repeat_tuple PySem.F.slot_int_index.lookup
    (call_meets PySem.F.slot_int_rmul (typeIs_int s 1 t) PySem.F.entry_int_rmul (PySem.F.args_int_rmul_2 _ _) (int_rmul_tuple 1 t l its.toArray n dd sl)
      ⟨ho, rfl, ⟨_, ho, rfl⟩, call_meets PySem.F.slot_tuple_mul ⟨_, ho, rfl⟩ PySem.F.entry_tuple_mul (PySem.F.args_tuple_mul_2 _ _) (tuple_mul1 l its.toArray n dd sl t) ⟨ho, ⟨.ref l, H, I, rfl, q⟩⟩⟩)
end
open PySem PySem.Spec L2
def rRepN (K : PySem.W.Frag) : R2 := fun x y H Q => ∃ (l : Addr) (z : Int) (n : Nat), x = .ref l ∧ y = .int (n : Int) ∧ H l = some (.tup [.int z]) ∧ 1 ≤ n ∧ n ≤ 100 ∧
  ∀ p H', (∀ b o, H b = some o → H' b = some o) → H' p = some (.tup ((List.replicate n z).map V.int)) → Q (.ref p) H'
theorem flat_rep (z : Int) : ∀ n : Nat, (List.replicate n [V.int z]).flatten = (List.replicate n z).map V.int
  | 0 => rfl
  | n + 1 => by rw [List.replicate_succ, List.flatten_cons, flat_rep z n, List.replicate_succ]; rfl
theorem op_repN {X : Cx} : OpR X (binaryOp .Mult) (rRepN X.K) := by
  intro pins s σ H x y v u Q I rx ry h
  obtain ⟨l, z, n, rfl, rfl, hl, h1, h2, q⟩ := h
  by_cases e : n = 1
  · subst e
    exact op_rep1 pins s σ H _ _ v u Q I rx ry ⟨l, [.int z], rfl, rfl, .inl (.inl hl), q l H (fun _ _ h => h) hl⟩
  · refine op_repT pins s σ H _ _ v u Q I rx ry ⟨l, n, [.int z], rfl, rfl, .inl (.inl hl), by simp, by omega, by omega, by simp, fun p hp => q p _ (fun b o ho => ?_) ?_⟩
    · rw [upd_ne (ne_of_none ho hp)]; exact ho
    · rw [upd_same, Int.toNat_natCast, flat_rep]
end HL

set_option Elab.async false
set_option linter.all false
set_option maxRecDepth 100000
set_option maxHeartbeats 4000000
namespace HL
open PySem PySem.Spec L2
/-- a new thing is locked from here on -/
def tFrz (t : TE) : TE := fun σ H Q => t σ H fun v H1 => ∃ d u, v = .ref d ∧ H1 d = some u ∧ Mut (some u) ∧ ∀ od, Q v (upd H1 d (.frz od u))
theorem pe_frz {X : Cx} {e : Expr} {t : TE} (h : PE X e t) : PE X e (tFrz t) := by
  refine ⟨fun pins s σ H Q I hw => ?_⟩
  refine thn (h.run pins s σ _ _ I hw) fun v s1 ⟨x, H1, I1, r, d, u, ex, hd, mu, q⟩ => ?_
  obtain ⟨od, I2⟩ := I1.lock hd mu
  exact ⟨x, _, I2, r, q od⟩
/-! slices and sums of tuples -/
theorem cut_whole {xs : List V} {lo hi : Option Int} (h : HT.sIx xs.length 0 lo = 0 ∧ HT.sIx xs.length xs.length hi = xs.length) : cutV xs lo hi = xs := by
  unfold cutV
  rw [h.1, h.2, List.drop_zero, Nat.sub_zero, List.take_length]
def rSlS : V → Option Int → Option Int → Hp → VK → Prop := fun x lo hi H Q => ∃ a xs, x = .ref a ∧ H a = some (.tup xs) ∧ ∀ H' p, (∀ b o, H b = some o → H' b = some o) → H' p = some (.tup (cutV xs lo hi)) → Q (.ref p) H'
theorem sl_s {X : Cx} : SlR X rSlS := by
  intro pins s σ H x v vl vu lo hi sl Q I rx hs pl pu h
  obtain ⟨a, xs, rfl, ha, q⟩ := h
  refine sl_tupA pins s σ H _ v vl vu lo hi sl Q I rx hs pl pu ⟨a, xs, rfl, .inl (.inl ha), fun c => ?_, fun _ p hp => ?_⟩
  · exact q H a (fun _ _ h => h) (by rw [cut_whole c]; exact ha)
  · exact q _ p (fun b o hb => by rw [upd_ne (ne_of_none hb hp)]; exact hb) upd_same
def rCatS : R2 := fun x y H Q => ∃ a b xs ys, x = .ref a ∧ y = .ref b ∧ H a = some (.tup xs) ∧ H b = some (.tup ys) ∧ xs.length + ys.length ≤ 100000 ∧ ∀ H' p, (∀ c o, H c = some o → H' c = some o) → H' p = some (.tup (xs ++ ys)) → Q (.ref p) H'
theorem op_catS {X : Cx} : OpR X (binaryOp .Add) rCatS := by
  intro pins s σ H x y v u Q I rx ry h
  obtain ⟨a, b, xs, ys, rfl, rfl, ha, hb, hl, q⟩ := h
  refine op_catA pins s σ H _ _ v u Q I rx ry ⟨a, b, xs, ys, rfl, rfl, .inl (.inl ha), .inl (.inl hb), Nat.le_trans hl (by decide), fun e => ?_, fun _ e => ?_, fun _ _ p hp => ?_⟩
  · subst e; exact q H b (fun _ _ h => h) hb
  · subst e; refine q H a (fun _ _ h => h) ?_; rw [List.append_nil]; exact ha
  · exact q _ p (fun c o hc => by rw [upd_ne (ne_of_none hc hp)]; exact hc) upd_same
theorem cut_take (xs : List V) (i : Nat) : cutV xs none (some (i : Int)) = xs.take i := by
  unfold cutV
  rw [HT.sIx_none, HT.sIx_nat, List.drop_zero, Nat.sub_zero]
  by_cases h : i ≤ xs.length
  · rw [Nat.min_eq_left h]
  · rw [Nat.min_eq_right (by omega), List.take_length, List.take_of_length_le (by omega)]
theorem cut_drop (xs : List V) (i : Nat) : cutV xs (some (i : Int)) none = xs.drop i := by
  unfold cutV
  rw [HT.sIx_none, HT.sIx_nat]
  by_cases h : i ≤ xs.length
  · rw [Nat.min_eq_left h, List.take_of_length_le (by rw [List.length_drop]; exact Nat.le_refl _)]
  · rw [Nat.min_eq_right (by omega), List.drop_length, List.drop_of_length_le (by omega)]; simp
end HL

set_option Elab.async false
set_option linter.all false
set_option maxRecDepth 100000
set_option maxHeartbeats 4000000
namespace HL
open PySem PySem.Spec L2
open PyProof.Rows (envOfC)

/-! ### heaps -/
theorem same_new {H : Hp} {p : Addr} {o : HO} (h : H p = none) : Same H (upd H p o) := fun b x e => by
  rw [upd_ne (ne_of_none e h)]
  exact e
/-- an object that H does not know is changed -/
theorem same_mut {H H' : Hp} {p : Addr} {o : HO} (e : Same H H') (h : H p = none) : Same H (upd H' p o) := fun b x hb => by
  rw [upd_ne (ne_of_none hb h)]
  exact e b x hb
theorem same_seqT {K : PySem.W.Frag} {H H' : Hp} {a : Addr} {xs : List V} (e : Same H H') (h : SqT K H a xs) : SqT K H' a xs := by
  rcases h with (h | ⟨o, h⟩) | h
  · exact .inl (.inl (e _ _ h))
  · exact .inl (.inr ⟨o, e _ _ h⟩)
  · exact .inr h
theorem sqT {K : PySem.W.Frag} {H : Hp} {a : Addr} {xs : List V} (h : H a = some (.tup xs)) : SqT K H a xs := .inl (.inl h)
theorem sqL {K : PySem.W.Frag} {H : Hp} {a : Addr} {xs : List V} (h : H a = some (.lst xs)) : SqL K H a xs := .inl (.inl h)
theorem small5 {n : Nat} (h : n ≤ 100000) : n ≤ sizeLine := Nat.le_trans h (by decide)
theorem lt5 {n : Nat} (h : n ≤ 100000) : n < sizeLine := Nat.lt_of_le_of_lt h (by decide)
theorem Paired.imp {α β : Type} {F G : α → β → Prop} {l : List α} {m : List β} (h : Paired F l m) (f : ∀ a b, F a b → G a b) : Paired G l m := L2.Paired.mapP h f
theorem paired_at {α β : Type} {F : α → β → Prop} {l : List α} {m : List β} (h : Paired F l m) {i : Nat} {b : β} (e : m[i]? = some b) : ∃ a, l[i]? = some a ∧ F a b := by
  induction h generalizing i with
  | nil => simp at e
  | @cons a b' l m r t ih =>
    cases i with
    | zero => simp only [List.getElem?_cons_zero, Option.some.injEq] at e; subst e; exact ⟨a, rfl, r⟩
    | succ i => simp only [List.getElem?_cons_succ] at e ⊢; exact ih e
theorem paired_map {α β : Type} {f : α → β} : ∀ {l : List α} {m : List β}, Paired (fun a b => b = f a) l m → m = l.map f
  | _, _, .nil => rfl
  | _, _, .cons h t => by rw [List.map_cons, ← paired_map t, h]

/-- the tuples stay -/
def TSame (H H' : Hp) : Prop := ∀ b xs, H b = some (.tup xs) → H' b = some (.tup xs)
theorem Same.t {H H' : Hp} (e : Same H H') : TSame H H' := fun b xs h => e b _ h
theorem TSame.refl (H : Hp) : TSame H H := fun _ _ h => h
theorem TSame.trans {H H1 H2 : Hp} (a : TSame H H1) (b : TSame H1 H2) : TSame H H2 := fun c o h => b c o (a c o h)
theorem tsame_mut {H : Hp} {p : Addr} {o o' : HO} (h : H p = some o) (hn : ∀ xs, o ≠ .tup xs) : TSame H (upd H p o') := fun b xs hb => by
  rw [upd_ne (ne_of hb h fun z => hn xs z.symm)]
  exact hb

/-! ### a def of the text and its promise -/
def DefAt (K : PySem.W.Frag) (mg : Str → Option Value) (x : Str) (st : Stmt) (ps : List Str) : Prop := ∃ f fd, Fun K x x st f fd ∧ mg x = some (.ref f) ∧ Binds K fd ps []
structure Cal (P : Program) (w : World) (K : PySem.W.Frag) (mg : Str → Option Value) (base : Heap) (k : Nat) (x : Str) (sp : Sp) : Prop where
  ex : ∃ f fd ps, FnOk P w K mg base CX0 k f fd ps sp ∧ mg x = some (.ref f) ∧ PySem.W.keepIn K (.ref f) = true ∧ Binds K fd ps []
theorem cal_of {P : Program} {w : World} {K : PySem.W.Frag} {mg : Str → Option Value} {base : Heap} {x : Str} {st : Stmt} {ps N : List Str} {k : Nat} {sp : Sp} (D : DefAt K mg x st ps) (S : FnScope N ps (defScope st)) (len : ∀ vs H Q E, sp vs H Q E → vs.length = ps.length)
    (hbody : ∀ (f : Addr) (cdv : Value) (A : Around) (outer : List Env) (s : Shared) (H : Hp) (vs : List V) (Q : VK) (E : XK), Room k (A.deeper (envOfC x (defScope st) s.heap.objs.size f cdv)) → sp vs H Q E →
      ∃ t, PSs (cxOf CX0 P w K mg base N x (defScope st) f cdv A outer s H E).nox (defBody st) t ∧ t { nx := fun _ H' => Q .non H', rt := Q } (start N vs) H) : Cal P w K mg base (k + 1) x sp := by
  obtain ⟨f, fd, F, g, b⟩ := D
  exact ⟨f, fd, ps, F.ok S len (fun cdv A outer s H vs Q E hr h => hbody f cdv A outer s H vs Q E hr h), g, F.kp, b⟩
theorem Cal.mono {P : Program} {w : World} {K : PySem.W.Frag} {mg : Str → Option Value} {base : Heap} {x : Str} {j k : Nat} {sp : Sp} (c : Cal P w K mg base j x sp) (h : j ≤ k) : Cal P w K mg base k x sp := by
  obtain ⟨f, fd, ps, F, r⟩ := c.ex
  exact ⟨f, fd, ps, F.mono h, r⟩
section
variable {X : Cx} {x : Str} {sp : Sp} {k j : Nat} {e : Expr} {es : List Expr} {p pos : Pos} {t : TA}
theorem pe_k (c : Cal X.prog X.w X.K X.mg X.base k x sp) (hr : Room j X.A) (ha : PA X (e :: es) t) (hk : k ≤ j := by decide) (hg : Gl X x := by rfl)
    (hdb : (x == ("__debug__" : Str)) = false := by decide) (he : starEach (e :: es) X.env = (false, eval e X.env) :: starEach es X.env := by rfl) (hpl : (backTo pos (starEach es X.env)).any (·.1) = false := by rfl) :
    PE X (.Call (.Name x p) (e :: es) [] pos) (tCall sp [] E0 t) := by
  obtain ⟨f, fd, ps, F, hm, kp, b⟩ := c.ex
  exact pe_call F (hr.mono hk) hg hm kp b .nil pass0 ha hdb he hpl
end

/-! ### comprehensions -/
section
variable {J : It} {n : Nat} {G : Hp → Prop} {Y : Nat → Hp → V → Hp → Prop}
/-- each kept turn makes a value with R; nothing that stood is changed -/
theorem lc_rel (w : Walk J n G Y) {g : TG} {tt : TT} {te : TE} {vs : List Nat} {σ : L2.St} {H1 : Hp} {D : Addr} {Qd : Hp → Prop} (hD : H1 D = none) (hn : n ≤ 100000) (keep : Nat → Bool) (R : Nat → V → Hp → Prop)
    (mono : ∀ i v H H', R i v H → TSame H H' → R i v H') (hG : ∀ H, Same H1 H → G H)
    (turn : ∀ i x H H', i < n → Same H1 H → Y i H x H' → ∀ (K1 : V → Hp → Prop) (K2 : Hp → Prop), (∀ y H4, keep i = true → Same H H4 → R i y H4 → K1 y H4) → (∀ H4, keep i = false → Same H H4 → K2 H4) →
      g x (wipe σ vs) H' fun σ2 H2 => wipe σ2 vs = wipe σ vs ∧ tt σ2 H2 fun b H3 => if b = true then te σ2 H3 K1 else K2 H3)
    (hd : ∀ H ys, Same H1 H → H D = some (.lst ys) → Paired (fun i y => R i y H) ((List.range n).filter keep) ys → Qd H) :
    ∃ W : Nat → Nat → Hp → Prop, (∃ m, W 0 m (upd H1 D (.lst []))) ∧ ∀ i m H, W i m H →
      (J.stop i H ∧ Qd H) ∨ (J.go i H ∧ ∃ Nx : Hp → Prop, (∀ H', Nx H' → ∃ m', m' < m ∧ W (i + 1) m' H') ∧ ∀ x H', J.yld i H x H' → g x (wipe σ vs) H' fun σ2 H2 => wipe σ2 vs = wipe σ vs ∧ tt σ2 H2 fun b H3 =>
        if b = true then te σ2 H3 fun y H4 => ∃ acc, H4 D = some (.lst acc) ∧ acc.length < sizeLine ∧ Nx (upd H4 D (.lst (acc ++ [y]))) else Nx H3) := by
  refine lc_it w (fun i H => i ≤ n ∧ ∃ ys, Same H1 H ∧ H D = some (.lst ys) ∧ Paired (fun i y => R i y H) ((List.range i).filter keep) ys) ⟨Nat.zero_le _, [], same_new hD, upd_same, .nil⟩ (fun i H _ h => ?_) (fun i x H H' hi h y => ?_) (fun H h => ?_)
  · obtain ⟨_, ys, s, _⟩ := h
    exact hG H s
  · obtain ⟨_, ys, s, hl, pr⟩ := h
    refine turn i x H H' hi s y _ _ (fun z H4 hk s4 r => ?_) (fun H4 hk s4 => ?_)
    · have hlen : ys.length ≤ n := by
        rw [← Paired.length pr]
        refine Nat.le_trans (List.length_filter_le _ _) ?_
        rw [List.length_range]; omega
      have st : Same H1 (upd H4 D (.lst (ys ++ [z]))) := same_mut (s.trans s4) hD
      refine ⟨ys, s4 _ _ hl, lt5 (by omega), hi, ys ++ [z], st, upd_same, ?_⟩
      rw [List.range_succ, List.filter_append, List.filter_cons, if_pos hk, List.filter_nil]
      have ts : TSame H4 (upd H4 D (.lst (ys ++ [z]))) := tsame_mut (s4 _ _ hl) fun _ z => nomatch z
      exact Paired.snoc (Paired.imp pr fun j v q => mono _ _ _ _ q ((Same.t s4).trans ts)) (mono _ _ _ _ r ts)
    · refine ⟨hi, ys, s.trans s4, s4 _ _ hl, ?_⟩
      rw [List.range_succ, List.filter_append, List.filter_cons, if_neg (by rw [hk]; exact Bool.false_ne_true), List.filter_nil, List.append_nil]
      exact Paired.imp pr fun j v q => mono _ _ _ _ q (Same.t s4)
  · obtain ⟨_, ys, s, hl, pr⟩ := h
    exact hd H ys s hl pr
end
end HL

set_option Elab.async false
set_option linter.all false
set_option maxRecDepth 100000
set_option maxHeartbeats 4000000
/-! the text: where each def stands, its slots -/
namespace HL
open PySem PySem.Spec L2
def topS (i : Nat) : Stmt := PySem.Challenge.pw_huelists_k35_whole_terms.main.body.getD i (.Pass ⟨0, 0, 0, 0⟩)
abbrev s_is_from_nought : Stmt := topS 11
theorem sc_is_from_nought : FnScope ["thing"] ["thing"] (defScope s_is_from_nought) := ⟨rfl, rfl, rfl, by decide +kernel, rfl, by decide +kernel, by decide +kernel⟩
abbrev s_is_upto : Stmt := topS 12
theorem sc_is_upto : FnScope ["thing", "least", "most"] ["thing", "least", "most"] (defScope s_is_upto) := ⟨rfl, rfl, rfl, by decide +kernel, rfl, by decide +kernel, by decide +kernel⟩
abbrev s_is_tie : Stmt := topS 13
theorem sc_is_tie : FnScope ["thing", "places", "one"] ["thing", "places"] (defScope s_is_tie) := ⟨rfl, rfl, rfl, by decide +kernel, rfl, by decide +kernel, by decide +kernel⟩
abbrev s_rises : Stmt := topS 14
theorem sc_rises : FnScope ["thing", "at"] ["thing"] (defScope s_rises) := ⟨rfl, rfl, rfl, by decide +kernel, rfl, by decide +kernel, by decide +kernel⟩
abbrev s_is_web : Stmt := topS 15
theorem sc_is_web : FnScope ["thing", "tie"] ["thing"] (defScope s_is_web) := ⟨rfl, rfl, rfl, by decide +kernel, rfl, by decide +kernel, by decide +kernel⟩
abbrev s_need_web : Stmt := topS 16
theorem sc_need_web : FnScope ["web"] ["web"] (defScope s_need_web) := ⟨rfl, rfl, rfl, by decide +kernel, rfl, by decide +kernel, by decide +kernel⟩
abbrev s_is_list : Stmt := topS 17
theorem sc_is_list : FnScope ["thing", "hue"] ["thing"] (defScope s_is_list) := ⟨rfl, rfl, rfl, by decide +kernel, rfl, by decide +kernel, by decide +kernel⟩
abbrev s_are_lists_of : Stmt := topS 18
theorem sc_are_lists_of : FnScope ["thing", "web", "one"] ["thing", "web"] (defScope s_are_lists_of) := ⟨rfl, rfl, rfl, by decide +kernel, rfl, by decide +kernel, by decide +kernel⟩
abbrev s_need_lists : Stmt := topS 19
theorem sc_need_lists : FnScope ["web", "lists"] ["web", "lists"] (defScope s_need_lists) := ⟨rfl, rfl, rfl, by decide +kernel, rfl, by decide +kernel, by decide +kernel⟩
abbrev s_are_sizes : Stmt := topS 20
theorem sc_are_sizes : FnScope ["thing", "web", "one"] ["thing", "web"] (defScope s_are_sizes) := ⟨rfl, rfl, rfl, by decide +kernel, rfl, by decide +kernel, by decide +kernel⟩
abbrev s_need_sizes : Stmt := topS 21
theorem sc_need_sizes : FnScope ["web", "sizes"] ["web", "sizes"] (defScope s_need_sizes) := ⟨rfl, rfl, rfl, by decide +kernel, rfl, by decide +kernel, by decide +kernel⟩
abbrev s_tied_to : Stmt := topS 22
theorem sc_tied_to : FnScope ["web", "place", "one", "other"] ["web", "place"] (defScope s_tied_to) := ⟨rfl, rfl, rfl, by decide +kernel, rfl, by decide +kernel, by decide +kernel⟩
abbrev s_need_few : Stmt := topS 25
theorem sc_need_few : FnScope ["web"] ["web"] (defScope s_need_few) := ⟨rfl, rfl, rfl, by decide +kernel, rfl, by decide +kernel, by decide +kernel⟩
abbrev s_raised : Stmt := topS 26
theorem sc_raised : FnScope ["powers", "place"] ["powers", "place"] (defScope s_raised) := ⟨rfl, rfl, rfl, by decide +kernel, rfl, by decide +kernel, by decide +kernel⟩
abbrev s_terms_of : Stmt := topS 27
theorem sc_terms_of : FnScope ["web", "found", "one", "other", "later", "powers", "place", "sign", "there"] ["web"] (defScope s_terms_of) := ⟨rfl, rfl, rfl, by decide +kernel, rfl, by decide +kernel, by decide +kernel⟩
abbrev s_terms : Stmt := topS 28
theorem sc_terms : FnScope ["web"] ["web"] (defScope s_terms) := ⟨rfl, rfl, rfl, by decide +kernel, rfl, by decide +kernel, by decide +kernel⟩
abbrev s_are_powers : Stmt := topS 29
theorem sc_are_powers : FnScope ["thing", "web", "one"] ["thing", "web"] (defScope s_are_powers) := ⟨rfl, rfl, rfl, by decide +kernel, rfl, by decide +kernel, by decide +kernel⟩
abbrev s_need_powers : Stmt := topS 30
theorem sc_need_powers : FnScope ["web", "powers"] ["web", "powers"] (defScope s_need_powers) := ⟨rfl, rfl, rfl, by decide +kernel, rfl, by decide +kernel, by decide +kernel⟩
abbrev s_term : Stmt := topS 31
theorem sc_term : FnScope ["web", "powers"] ["web", "powers"] (defScope s_term) := ⟨rfl, rfl, rfl, by decide +kernel, rfl, by decide +kernel, by decide +kernel⟩
abbrev s_lesser : Stmt := topS 32
theorem sc_lesser : FnScope ["powers", "sizes", "power", "size"] ["powers", "sizes"] (defScope s_lesser) := ⟨rfl, rfl, rfl, by decide +kernel, rfl, by decide +kernel, by decide +kernel⟩
abbrev s_is_term_paper : Stmt := topS 33
theorem sc_is_term_paper : FnScope ["thing", "web", "sizes"] ["thing", "web", "sizes"] (defScope s_is_term_paper) := ⟨rfl, rfl, rfl, by decide +kernel, rfl, by decide +kernel, by decide +kernel⟩
abbrev s_term_for : Stmt := topS 34
theorem sc_term_for : FnScope ["web", "sizes", "some", "powers"] ["web", "sizes"] (defScope s_term_for) := ⟨rfl, rfl, rfl, by decide +kernel, rfl, by decide +kernel, by decide +kernel⟩
abbrev s_runs_many : Stmt := topS 35
theorem sc_runs_many : FnScope ["web", "powers", "found", "one", "other", "later", "here", "odd", "there"] ["web", "powers"] (defScope s_runs_many) := ⟨rfl, rfl, rfl, by decide +kernel, rfl, by decide +kernel, by decide +kernel⟩
abbrev s_fits : Stmt := topS 37
theorem sc_fits : FnScope ["web", "begun", "hue", "place", "other"] ["web", "begun", "hue"] (defScope s_fits) := ⟨rfl, rfl, rfl, by decide +kernel, rfl, by decide +kernel, by decide +kernel⟩
abbrev s_many_of : Stmt := topS 38
theorem sc_many_of : FnScope ["web", "lists", "begun", "hue"] ["web", "lists", "begun"] (defScope s_many_of) := ⟨rfl, rfl, rfl, by decide +kernel, rfl, by decide +kernel, by decide +kernel⟩
abbrev s_first_of : Stmt := topS 39
theorem sc_first_of : FnScope ["web", "lists", "found", "some", "hue"] ["web", "lists"] (defScope s_first_of) := ⟨rfl, rfl, rfl, by decide +kernel, rfl, by decide +kernel, by decide +kernel⟩
abbrev s_first_choice : Stmt := topS 40
theorem sc_first_choice : FnScope ["web", "lists"] ["web", "lists"] (defScope s_first_choice) := ⟨rfl, rfl, rfl, by decide +kernel, rfl, by decide +kernel, by decide +kernel⟩
abbrev s_peeled : Stmt := topS 42
theorem sc_peeled : FnScope ["web", "sizes", "left", "gone", "more", "some", "place", "other"] ["web", "sizes"] (defScope s_peeled) := ⟨rfl, rfl, rfl, by decide +kernel, rfl, by decide +kernel, by decide +kernel⟩
abbrev s_order_for : Stmt := topS 43
theorem sc_order_for : FnScope ["web", "sizes", "gone", "left"] ["web", "sizes"] (defScope s_order_for) := ⟨rfl, rfl, rfl, by decide +kernel, rfl, by decide +kernel, by decide +kernel⟩
abbrev s_need_small : Stmt := topS 46
theorem sc_need_small : FnScope ["web"] ["web"] (defScope s_need_small) := ⟨rfl, rfl, rfl, by decide +kernel, rfl, by decide +kernel, by decide +kernel⟩
abbrev s_sets_of : Stmt := topS 47
theorem sc_sets_of : FnScope ["many", "size", "found", "turn", "longer", "some", "hue"] ["many", "size"] (defScope s_sets_of) := ⟨rfl, rfl, rfl, by decide +kernel, rfl, by decide +kernel, by decide +kernel⟩
abbrev s_part_web : Stmt := topS 48
theorem sc_part_web : FnScope ["web", "places", "ties", "one", "other"] ["web", "places"] (defScope s_part_web) := ⟨rfl, rfl, rfl, by decide +kernel, rfl, by decide +kernel, by decide +kernel⟩
abbrev s_bar_here : Stmt := topS 49
theorem sc_bar_here : FnScope ["web", "sizes", "lists", "some", "one", "found"] ["web", "sizes", "lists"] (defScope s_bar_here) := ⟨rfl, rfl, rfl, by decide +kernel, rfl, by decide +kernel, by decide +kernel⟩
abbrev s_bar_of : Stmt := topS 50
theorem sc_bar_of : FnScope ["web", "sizes", "places", "few", "found", "lists", "place"] ["web", "sizes"] (defScope s_bar_of) := ⟨rfl, rfl, rfl, by decide +kernel, rfl, by decide +kernel, by decide +kernel⟩
abbrev s_need_asked : Stmt := topS 51
theorem sc_need_asked : FnScope ["web", "sizes"] ["web", "sizes"] (defScope s_need_asked) := ⟨rfl, rfl, rfl, by decide +kernel, rfl, by decide +kernel, by decide +kernel⟩
abbrev s_always : Stmt := topS 52
theorem sc_always : FnScope ["web", "sizes"] ["web", "sizes"] (defScope s_always) := ⟨rfl, rfl, rfl, by decide +kernel, rfl, by decide +kernel, by decide +kernel⟩
abbrev s_bar_for : Stmt := topS 53
theorem sc_bar_for : FnScope ["web", "sizes"] ["web", "sizes"] (defScope s_bar_for) := ⟨rfl, rfl, rfl, by decide +kernel, rfl, by decide +kernel, by decide +kernel⟩
abbrev s_cell : Stmt := topS 55
theorem sc_cell : FnScope ["_law_script", "_law_k"] ["_law_script", "_law_k"] (defScope s_cell) := ⟨rfl, rfl, rfl, by decide +kernel, rfl, by decide +kernel, by decide +kernel⟩
abbrev s_mix : Stmt := topS 56
theorem sc_mix : FnScope ["_law_cell_here", "_law_k", "_law_some", "_law_stir"] ["_law_cell_here", "_law_k"] (defScope s_mix) := ⟨rfl, rfl, rfl, by decide +kernel, rfl, by decide +kernel, by decide +kernel⟩
abbrev s_box : Stmt := topS 57
theorem sc_box : FnScope ["_law_script", "_law_k", "_law_cell_here", "_law_number", "_law_j"] ["_law_script", "_law_k"] (defScope s_box) := ⟨rfl, rfl, rfl, by decide +kernel, rfl, by decide +kernel, by decide +kernel⟩
abbrev s_take : Stmt := topS 58
theorem sc_take : FnScope ["_law_box_here", "_law_many", "_law_left", "_law_digit"] ["_law_box_here", "_law_many"] (defScope s_take) := ⟨rfl, rfl, rfl, by decide +kernel, rfl, by decide +kernel, by decide +kernel⟩
abbrev s_pairs : Stmt := topS 59
theorem sc_pairs : FnScope ["_law_many", "_law_found", "_law_one", "_law_other"] ["_law_many"] (defScope s_pairs) := ⟨rfl, rfl, rfl, by decide +kernel, rfl, by decide +kernel, by decide +kernel⟩
abbrev s_drawn_web : Stmt := topS 60
theorem sc_drawn_web : FnScope ["_law_box_here", "_law_most", "_law_many", "_law_way", "_law_often", "_law_pairs_here", "_law_pair", "_law_place"] ["_law_box_here", "_law_most"] (defScope s_drawn_web) := ⟨rfl, rfl, rfl, by decide +kernel, rfl, by decide +kernel, by decide +kernel⟩
abbrev s_drawn_sizes : Stmt := topS 61
theorem sc_drawn_sizes : FnScope ["_law_box_here", "_law_web", "_law_most", "_law_way", "_law_found", "_law_place", "_law_ties"] ["_law_box_here", "_law_web", "_law_most"] (defScope s_drawn_sizes) := ⟨rfl, rfl, rfl, by decide +kernel, rfl, by decide +kernel, by decide +kernel⟩
abbrev s_tied : Stmt := topS 62
theorem sc_tied : FnScope ["_law_web", "_law_place", "_law_found", "_law_one", "_law_other"] ["_law_web", "_law_place"] (defScope s_tied) := ⟨rfl, rfl, rfl, by decide +kernel, rfl, by decide +kernel, by decide +kernel⟩
abbrev s_few_ties : Stmt := topS 63
theorem sc_few_ties : FnScope ["_law_web"] ["_law_web"] (defScope s_few_ties) := ⟨rfl, rfl, rfl, by decide +kernel, rfl, by decide +kernel, by decide +kernel⟩
abbrev s_put : Stmt := topS 64
theorem sc_put : FnScope ["_law_told", "_law_numbers", "_law_found", "_law_powers", "_law_part", "_law_at", "_law_turn"] ["_law_told", "_law_numbers"] (defScope s_put) := ⟨rfl, rfl, rfl, by decide +kernel, rfl, by decide +kernel, by decide +kernel⟩
abbrev s_product : Stmt := topS 65
theorem sc_product : FnScope ["_law_web", "_law_numbers", "_law_found", "_law_one", "_law_other"] ["_law_web", "_law_numbers"] (defScope s_product) := ⟨rfl, rfl, rfl, by decide +kernel, rfl, by decide +kernel, by decide +kernel⟩
abbrev s_law : Stmt := topS 66
theorem sc_law : FnScope ["_law_script", "_law_k", "_law_box_here", "_law_web", "_law_told", "_law_numbers", "_law_powers", "_law_even", "_law_odd", "_law_sizes", "_law_paper", "_law_lists", "_law_size", "_law_some", "_law_place", "_law_hue"] ["_law_script"] (defScope s_law) := ⟨rfl, rfl, rfl, by decide +kernel, rfl, by decide +kernel, by decide +kernel⟩
/-- what the top leaves -/
structure TX (K : PySem.W.Frag) (mg : Str → Option Value) : Prop where
  d_is_from_nought : DefAt K mg "is_from_nought" s_is_from_nought ["thing"]
  d_is_upto : DefAt K mg "is_upto" s_is_upto ["thing", "least", "most"]
  d_is_tie : DefAt K mg "is_tie" s_is_tie ["thing", "places"]
  d_rises : DefAt K mg "rises" s_rises ["thing"]
  d_is_web : DefAt K mg "is_web" s_is_web ["thing"]
  d_need_web : DefAt K mg "need_web" s_need_web ["web"]
  d_is_list : DefAt K mg "is_list" s_is_list ["thing"]
  d_are_lists_of : DefAt K mg "are_lists_of" s_are_lists_of ["thing", "web"]
  d_need_lists : DefAt K mg "need_lists" s_need_lists ["web", "lists"]
  d_are_sizes : DefAt K mg "are_sizes" s_are_sizes ["thing", "web"]
  d_need_sizes : DefAt K mg "need_sizes" s_need_sizes ["web", "sizes"]
  d_tied_to : DefAt K mg "tied_to" s_tied_to ["web", "place"]
  d_need_few : DefAt K mg "need_few" s_need_few ["web"]
  d_raised : DefAt K mg "raised" s_raised ["powers", "place"]
  d_terms_of : DefAt K mg "terms_of" s_terms_of ["web"]
  d_terms : DefAt K mg "terms" s_terms ["web"]
  d_are_powers : DefAt K mg "are_powers" s_are_powers ["thing", "web"]
  d_need_powers : DefAt K mg "need_powers" s_need_powers ["web", "powers"]
  d_term : DefAt K mg "term" s_term ["web", "powers"]
  d_lesser : DefAt K mg "lesser" s_lesser ["powers", "sizes"]
  d_is_term_paper : DefAt K mg "is_term_paper" s_is_term_paper ["thing", "web", "sizes"]
  d_term_for : DefAt K mg "term_for" s_term_for ["web", "sizes"]
  d_runs_many : DefAt K mg "runs_many" s_runs_many ["web", "powers"]
  d_fits : DefAt K mg "fits" s_fits ["web", "begun", "hue"]
  d_many_of : DefAt K mg "many_of" s_many_of ["web", "lists", "begun"]
  d_first_of : DefAt K mg "first_of" s_first_of ["web", "lists"]
  d_first_choice : DefAt K mg "first_choice" s_first_choice ["web", "lists"]
  d_peeled : DefAt K mg "peeled" s_peeled ["web", "sizes"]
  d_order_for : DefAt K mg "order_for" s_order_for ["web", "sizes"]
  d_need_small : DefAt K mg "need_small" s_need_small ["web"]
  d_sets_of : DefAt K mg "sets_of" s_sets_of ["many", "size"]
  d_part_web : DefAt K mg "part_web" s_part_web ["web", "places"]
  d_bar_here : DefAt K mg "bar_here" s_bar_here ["web", "sizes", "lists"]
  d_bar_of : DefAt K mg "bar_of" s_bar_of ["web", "sizes"]
  d_need_asked : DefAt K mg "need_asked" s_need_asked ["web", "sizes"]
  d_always : DefAt K mg "always" s_always ["web", "sizes"]
  d_bar_for : DefAt K mg "bar_for" s_bar_for ["web", "sizes"]
  d_cell : DefAt K mg "_law_cell" s_cell ["_law_script", "_law_k"]
  d_mix : DefAt K mg "_law_mix" s_mix ["_law_cell_here", "_law_k"]
  d_box : DefAt K mg "_law_box" s_box ["_law_script", "_law_k"]
  d_take : DefAt K mg "_law_take" s_take ["_law_box_here", "_law_many"]
  d_pairs : DefAt K mg "_law_pairs" s_pairs ["_law_many"]
  d_drawn_web : DefAt K mg "_law_drawn_web" s_drawn_web ["_law_box_here", "_law_most"]
  d_drawn_sizes : DefAt K mg "_law_drawn_sizes" s_drawn_sizes ["_law_box_here", "_law_web", "_law_most"]
  d_tied : DefAt K mg "_law_tied" s_tied ["_law_web", "_law_place"]
  d_few_ties : DefAt K mg "_law_few_ties" s_few_ties ["_law_web"]
  d_put : DefAt K mg "_law_put" s_put ["_law_told", "_law_numbers"]
  d_product : DefAt K mg "_law_product" s_product ["_law_web", "_law_numbers"]
  c_MOST_PLACES : ∃ t, mg "MOST_PLACES" = some (.int 6 t)
  c_MOST_HUE : ∃ t, mg "MOST_HUE" = some (.int 99 t)
  c_MOST_LONG : ∃ t, mg "MOST_LONG" = some (.int 8 t)
  c_MOST_TIES : ∃ t, mg "MOST_TIES" = some (.int 10 t)
  c_MOST_HERE : ∃ t, mg "MOST_HERE" = some (.int 5 t)
  b_abs : mg "abs" = none
  b_all : mg "all" = none
  b_bool : mg "bool" = none
  b_dict : mg "dict" = none
  b_divmod : mg "divmod" = none
  b_int : mg "int" = none
  b_isinstance : mg "isinstance" = none
  b_len : mg "len" = none
  b_list : mg "list" = none
  b_max : mg "max" = none
  b_min : mg "min" = none
  b_range : mg "range" = none
  b_set : mg "set" = none
  b_sorted : mg "sorted" = none
  b_sum : mg "sum" = none
  b_tuple : mg "tuple" = none
  b_zip : mg "zip" = none
end HL

set_option Elab.async false
set_option linter.all false
set_option maxRecDepth 100000
set_option maxHeartbeats 4000000
namespace HL
open PySem PySem.Spec L2
open PyProof.Rows (envOfC)
theorem bt_isinstance : bootBuiltins "isinstance" = some (.builtin "isinstance") := PyProof.Rows.boot_isinstance
theorem bt_int : bootBuiltins "int" = some (.type "int") := PyProof.Rows.boot_int
theorem bt_bool : bootBuiltins "bool" = some (.type "bool") := PyProof.Rows.boot_bool
theorem bt_tuple : bootBuiltins "tuple" = some (.type "tuple") := PyProof.Rows.boot_tuple
theorem bt_list : bootBuiltins "list" = some (.type "list") := PyProof.Rows.boot_list
theorem bt_dict : bootBuiltins "dict" = some (.type "dict") := PyProof.Rows.boot_dict
theorem bt_set : bootBuiltins "set" = some (.type "set") := PyProof.Rows.boot_set
theorem bt_len : bootBuiltins "len" = some (.builtin "len") := PySem.boot_len
theorem bt_all : bootBuiltins "all" = some (.builtin "all") := PyProof.Rows.boot_all
theorem bt_sum : bootBuiltins "sum" = some (.builtin "sum") := PyProof.Rows.boot_sum
theorem bt_min : bootBuiltins "min" = some (.builtin "min") := PyProof.Rows.boot_min
theorem bt_max : bootBuiltins "max" = some (.builtin "max") := PyProof.Rows.boot_max
theorem bt_abs : bootBuiltins "abs" = some (.builtin "abs") := PyProof.Rows.boot_abs
theorem bt_sorted : bootBuiltins "sorted" = some (.builtin "sorted") := PyProof.Rows.boot_sorted
theorem bt_divmod : bootBuiltins "divmod" = some (.builtin "divmod") := PyProof.Rows.boot_divmod
theorem kit_ii {K : PySem.W.Frag} : PySem.W.kitOne K (.type "int") (.type "int") = some true := kit_ty (by decide +kernel)
theorem kit_ib {K : PySem.W.Frag} : PySem.W.kitOne K (.type "int") (.type "bool") = some false := kit_ty (by decide +kernel)
theorem kit_tt {K : PySem.W.Frag} : PySem.W.kitOne K (.type "tuple") (.type "tuple") = some true := kit_ty (by decide +kernel)
/-- whether a value is of a built-in type, as isinstance tells -/
def IsK (K : PySem.W.Frag) (n : String) (x : V) (H : Hp) (b : Bool) : Prop := ∃ t, TyX K H x t ∧ PySem.W.kitOne K t (.type n) = some b
theorem isk_ii {K : PySem.W.Frag} {i : Int} {H : Hp} : IsK K "int" (.int i) H true := ⟨_, .base (.int i), kit_ii⟩
theorem isk_ib {K : PySem.W.Frag} {i : Int} {H : Hp} : IsK K "bool" (.int i) H false := ⟨_, .base (.int i), kit_ib⟩
theorem isk_tt {K : PySem.W.Frag} {p : Addr} {xs : List V} {H : Hp} (e : H p = some (.tup xs)) : IsK K "tuple" (.ref p) H true := ⟨_, .base (.tup e), kit_tt⟩
def rIsK (K : PySem.W.Frag) : List V → Hp → VK → Prop := fun vs H Q => ∃ x n b, vs = [x, .ty n] ∧ IsK K n x H b ∧ Q (.bl b) H
theorem call_isk {X : Cx} : CallR X (.builtin "isinstance") (rIsK X.K) := by
  intro pins s σ H xs us Q I r h
  obtain ⟨x, n, b, rfl, ⟨t, h1, h2⟩, q⟩ := h
  exact call_isi pins s σ H _ us Q I r ⟨x, .ty n, t, .type n, b, rfl, .ty n, h1, h2, q⟩
section
variable {X : Cx} {e : Expr} {p q pos : Pos} {te : TE}
theorem pe_ty {x : Str} {n : String} {pos : Pos} (hm : X.mg x = none) (hv : bootBuiltins x = some (.type n)) (hg : Gl X x := by rfl) (hn : x ≠ "__name__" := by decide) (hd : (x == ("__debug__" : Str)) = false := by decide) : PE X (.Name x pos) (tC (.ty n)) :=
  pe_bltn hg hm hv (show RelV (.ty n) (.type n) from rfl) hn hd
theorem pe_const {x : Str} {i : Int} {t : Tok} {pos : Pos} (hm : X.mg x = some (.int i t)) (hg : Gl X x := by rfl) (hd : (x == ("__debug__" : Str)) = false := by decide) : PE X (.Name x pos) (tC (.int i)) :=
  pe_glob hg hm (show RelV (.int i) (.int i t) from ⟨t, rfl⟩) hd
theorem pe_isi {x : Str} {n : String} (hmi : X.mg "isinstance" = none) (hm : X.mg x = none) (hv : bootBuiltins x = some (.type n)) (he : PE X e te) (hgi : Gl X "isinstance" := by rfl) (hg : Gl X x := by rfl) (hn : x ≠ "__name__" := by decide)
    (hd : (x == ("__debug__" : Str)) = false := by decide) (hs : starEach [e, .Name x q] X.env = (false, eval e X.env) :: starEach [.Name x q] X.env := by rfl) (hs2 : starEach [.Name x q] X.env = (false, eval (.Name x q) X.env) :: starEach [] X.env := by rfl)
    (hpl : (backTo pos (starEach [.Name x q] X.env)).any (·.1) = false := by rfl) :
    PE X (.Call (.Name "isinstance" p) [e, .Name x q] [] pos) (tCB (rIsK X.K) (tCons te (tCons (tC (.ty n)) tNil))) :=
  pe_callB (pos := pos) (p := p) (e := e) (es := [.Name x q]) (call_isk (X := X)) hgi hmi bt_isinstance (pa_cons he (pa_cons (pe_ty hm hv hg hn hd) pa_nil hs2) hs) (he := hs) (hpl := hpl)
end
/-! the rules with the written part named apart (within a comprehension) -/
section
variable {X : Cx} {K : PySem.W.Frag} (h : X.K = K)
include h
theorem kix_tup : IxR X (rIxT K) := h ▸ ix_tup
theorem kix_list : IxR X (rIxL K) := h ▸ ix_list
theorem kop_ltT (hu : X.A.units < cLine) : OpR X (compareOp .Lt) (rLtT K) := h ▸ op_ltT hu
theorem kop_in : OpR X (compareOp .In) (rIn K false) := h ▸ op_in_seq
theorem kop_catT : OpR X (binaryOp .Add) (rCatA K) := h ▸ op_catA
theorem kcall_len : CallR X (.builtin "len") (fun xs H Q => ∃ p ys, xs = [.ref p] ∧ (SqL K H p ys ∨ SqT K H p ys) ∧ Q (.int ys.length) H) := h ▸ call_len_seq
theorem kcr_all (hc : X.calm = true) : CallR X (.builtin "all") (rAll K) := h ▸ cr_all hc
theorem kcr_sumT (hc : X.calm = true) : CallR X (.builtin "sum") (rSumT K) := h ▸ cr_sumT hc
theorem kop_repN : OpR X (binaryOp .Mult) (rRepN K) := h ▸ op_repN
theorem ksl_tup : SlR X (rSlA K) := h ▸ sl_tupA
theorem kcall_isk : CallR X (.builtin "isinstance") (rIsK K) := h ▸ call_isk
theorem kmt_index : MtR X "tuple.index" (fun x xs H Q => ∃ p, ∃ ys : List Int, ∃ z j, x = .ref p ∧ xs = [.int z] ∧ SqT K H p (ys.map V.int) ∧ ys[j]? = some z ∧ (∀ m, m < j → ys[m]? ≠ some z) ∧ Q (.int (j : Nat)) H) := h ▸ mt_tup_indexI
theorem kpg_tup {es : List Expr} {k n : Nat} {pos : Pos} {t : TGs} (hc : X.calm = true) (hg : PGs X es t) (hn : (assignEach es X.env).length = n := by rfl) (hst : (assignEach es X.env).findIdx? (·.1) = none := by rfl) : PG X (.Tuple es k pos) (gTup K n t) := h ▸ pg_tup hc hg hn hst
end
section
variable {P : Program} {w : World} {K : PySem.W.Frag} {mg : Str → Option Value} {base : Heap}
def spUpto : Sp := fun vs H Q _ => ∃ i lo hi : Int, vs = [.int i, .int lo, .int hi] ∧ Q (.bl (decide (lo ≤ i ∧ i ≤ hi))) H
theorem ok_is_upto (T : TX K mg) : Cal P w K mg base 1 "is_upto" spUpto := by
  refine cal_of T.d_is_upto sc_is_upto (fun vs H Q E h => ?_) (fun f cdv A outer s H vs Q E hr h => ?_)
  · obtain ⟨i, lo, hi, rfl, _⟩ := h
    rfl
  · obtain ⟨i, lo, hi, rfl, q⟩ := h
    refine ⟨_, pss_one (ps_ret (pe_and (pe_isi T.b_isinstance T.b_int bt_int (pv 0))
      (pe_and (pe_not (pe_isi T.b_isinstance T.b_bool bt_bool (pv 0)))
      (pe_one (pe_chain op_le op_le (pv 1) (pv 0) (pv 2)))))), ?_⟩
    refine ⟨_, rfl, _, _, true, rfl, isk_ii, true, rfl, iteT ?_⟩
    refine ⟨_, rfl, _, _, false, rfl, isk_ib, false, rfl, true, rfl, iteT ?_⟩
    refine ⟨_, rfl, _, rfl, lo, i, rfl, rfl, decide (lo ≤ i), rfl, ite2 (fun h1 => ?_) (fun h1 => ?_)⟩
    · have h1 := of_decide_eq_true h1
      refine ⟨_, rfl, i, hi, rfl, rfl, ?_⟩
      have e : decide (lo ≤ i ∧ i ≤ hi) = decide (i ≤ hi) := by simp [h1]
      rw [e] at q
      exact q
    · have h1 : ¬ lo ≤ i := fun z => h1 (decide_eq_true z)
      have e : decide (lo ≤ i ∧ i ≤ hi) = false := by simp [h1]
      rw [e] at q
      exact q
end
end HL

set_option Elab.async false
set_option linter.all false
set_option maxRecDepth 100000
set_option maxHeartbeats 4000000
namespace HL
open PySem PySem.Spec L2
open PyProof.Rows (envOfC)
/-! ### what stands where -/
abbrev Tie := Nat × Nat
def PairV (H : Hp) (t : Tie) (v : V) : Prop := ∃ p, v = .ref p ∧ H p = some (.tup [.int t.1, .int t.2])
def TiesV (H : Hp) (ts : List Tie) (v : V) : Prop := ∃ p xs, v = .ref p ∧ H p = some (.tup xs) ∧ Paired (PairV H) ts xs
def WebV (H : Hp) (n : Nat) (ts : List Tie) (v : V) : Prop := ∃ p x, v = .ref p ∧ H p = some (.tup [.int n, x]) ∧ TiesV H ts x
def IntsV (H : Hp) (ns : List Int) (v : V) : Prop := ∃ p, v = .ref p ∧ H p = some (.tup (ns.map V.int))
def ListsV (H : Hp) (Ls : List (List Int)) (v : V) : Prop := ∃ p xs, v = .ref p ∧ H p = some (.tup xs) ∧ Paired (IntsV H) Ls xs
section
variable {H H' : Hp} (e : TSame H H')
include e
theorem PairV.t {t : Tie} {v : V} (h : PairV H t v) : PairV H' t v := let ⟨p, a, b⟩ := h; ⟨p, a, e _ _ b⟩
theorem TiesV.t {ts : List Tie} {v : V} (h : TiesV H ts v) : TiesV H' ts v := let ⟨p, xs, a, b, c⟩ := h; ⟨p, xs, a, e _ _ b, Paired.imp c fun _ _ z => PairV.t e z⟩
theorem WebV.t {n : Nat} {ts : List Tie} {v : V} (h : WebV H n ts v) : WebV H' n ts v := let ⟨p, x, a, b, c⟩ := h; ⟨p, x, a, e _ _ b, TiesV.t e c⟩
theorem IntsV.t {ns : List Int} {v : V} (h : IntsV H ns v) : IntsV H' ns v := let ⟨p, a, b⟩ := h; ⟨p, a, e _ _ b⟩
theorem ListsV.t {Ls : List (List Int)} {v : V} (h : ListsV H Ls v) : ListsV H' Ls v := let ⟨p, xs, a, b, c⟩ := h; ⟨p, xs, a, e _ _ b, Paired.imp c fun _ _ z => IntsV.t e z⟩
end
theorem hu64 {A : Around} {k : Nat} (hr : Room k A) : A.units + 64 < cLine := by have := hr.un; omega
theorem hu0 {A : Around} {k : Nat} (hr : Room k A) : A.units < cLine := by have := hr.un; omega
/-- a pair is less -/
def LtV (H : Hp) (x y : V) : Prop := (∃ i j : Int, x = .int i ∧ y = .int j ∧ i < j) ∨ ∃ a b ns ms, x = .ref a ∧ y = .ref b ∧ TupAt H a ns ∧ TupAt H b ms ∧ HT.lexLt ns ms = true
section
variable {P : Program} {w : World} {K : PySem.W.Frag} {mg : Str → Option Value} {base : Heap}
def spRises : Sp := fun vs H Q _ => ∃ p xs, vs = [.ref p] ∧ H p = some (.tup xs) ∧ xs.length ≤ 100 ∧ (∀ i x y, xs[i]? = some x → xs[i + 1]? = some y → LtV H x y) ∧ ∀ H', Same H H' → Q (.bl true) H'
theorem all_true {n : Nat} {ys : List V} {R : Nat → V → Prop} {l : List Nat} (h : Paired (fun i y => y = V.bl true) l ys) : ∃ bs : List Bool, ys = bs.map V.bl ∧ bs.all id = true := by
  have e := paired_map (f := fun _ => V.bl true) h
  refine ⟨l.map fun _ => true, by rw [e, List.map_map]; rfl, ?_⟩
  rw [List.all_map]
  exact List.all_eq_true.mpr fun _ _ => rfl
theorem ok_rises (T : TX K mg) : Cal P w K mg base 1 "rises" spRises := by
  refine cal_of T.d_rises sc_rises (fun vs H Q E h => ?_) (fun f cdv A outer s H vs Q E hr h => ?_)
  · obtain ⟨p, xs, rfl, _⟩ := h
    rfl
  · obtain ⟨p, xs, rfl, hp, hl, hlt, q⟩ := h
    refine ⟨_, (pss_one (ps_ret (pe_callB (kcr_all (K := K) rfl rfl) (by rfl) T.b_all bt_all (pa_cons (pe_lc (own := [("at", 1)]) rfl sc_rises.nd (pi_range2 (by rfl) T.b_range (pa_cons pe_int (pa_cons (pe_callB (kcall_len (K := K) rfl) (by rfl) T.b_len bt_len (pa_cons (pv 0) pa_nil)) pa_nil))) (blkOk_by (N := ["thing", "at"]) (sc := defScope s_rises) (by decide +kernel)) (fun _ _ _ _ _ => (pg_name (i := 1) sc_rises.nd rfl (Or.inl rfl))) (fun _ _ _ _ _ => pts_nil) (fun _ _ _ _ _ => (pe_cmpR (OpR.or op_lt (kop_ltT (K := K) rfl (hu0 hr))) (pe_ix (kix_tup (K := K) rfl) (pv 0) (pe_op op_sub (pv 1) pe_int) (fun _ _ => rfl)) (pe_ix (kix_tup (K := K) rfl) (pv 0) (pv 1) (fun _ _ => rfl)) (nomark _)))) pa_nil)))), ?_⟩
    refine ⟨_, rfl, p, xs, rfl, .inr (sqT hp), 1, (xs.length : Int), rfl, ⟨by decide, by decide, by omega, by omega⟩, fun D hD => ?_⟩
    refine lc_rel walk_range hD (by omega) (fun _ => true) (fun i y H => y = .bl true) (fun _ _ _ _ h _ => h) (fun _ _ => trivial) (fun i x H2 H3 hi sm hy K1 K2 k1 k2 => ?_) (fun H2 ys sm hl2 pr => ?_)
    · obtain ⟨rfl, rfl⟩ := hy
      have h1 : i + 1 < xs.length := by omega
      have g1 : xs[i]? = some xs[i] := List.getElem?_eq_getElem (by omega)
      have g2 : xs[i + 1]? = some xs[i + 1] := List.getElem?_eq_getElem h1
      have hp3 : SqT K H3 p xs := sqT (sm _ _ hp)
      have a1 : atI xs ((1 : Int) + (i : Nat) - 1) = some xs[i] := at_of (by omega) g1
      have a2 : atI xs ((1 : Int) + (i : Nat)) = some xs[i + 1] := at_of (by omega) g2
      have key : K1 (.bl true) H3 := k1 _ _ rfl (Same.refl _) rfl
      refine ⟨rfl, iteT (B := K2 H3) ⟨_, rfl, _, rfl, _, 1, rfl, rfl, p, xs, _, _, rfl, rfl, hp3, a1, _, rfl, _, rfl, p, xs, _, _, rfl, rfl, hp3, a2, ?_⟩⟩
      rcases hlt i _ _ g1 g2 with ⟨u, v, e1, e2, lt⟩ | ⟨a, b, ns, ms, e1, e2, t1, t2, lt⟩
      · refine .inl ⟨u, v, e1, e2, ?_⟩
        show K1 (.bl (decide (u < v))) H3
        rw [decide_eq_true lt]; exact key
      · refine .inr ⟨a, b, ns, ms, e1, e2, sqT (sm _ _ t1), sqT (sm _ _ t2), ?_⟩
        rw [lt]; exact key
    · obtain ⟨bs, e1, e2⟩ := all_true (n := 0) (R := fun _ _ => True) pr
      subst e1
      refine ⟨D, bs, rfl, sqL hl2, ?_⟩
      rw [e2]
      exact q _ sm

/-- ties of so many places: a web's, rising -/
structure WebOk (n : Nat) (ts : List Tie) : Prop where
  n1 : 1 ≤ n
  n5 : n ≤ 5
  tie : ∀ t ∈ ts, t.1 < t.2 ∧ t.2 < n
  len : ts.length ≤ 10
  rise : ∀ (i : Nat) (a b : Tie), ts[i]? = some a → ts[i + 1]? = some b → a.1 < b.1 ∨ (a.1 = b.1 ∧ a.2 < b.2)
theorem lex_pair {a b : Tie} (h : a.1 < b.1 ∨ (a.1 = b.1 ∧ a.2 < b.2)) : HT.lexLt [(a.1 : Int), (a.2 : Int)] [(b.1 : Int), (b.2 : Int)] = true := by
  unfold HT.lexLt
  by_cases c : a.1 = b.1
  · have c' : (a.1 : Int) = b.1 := by omega
    rw [if_pos c']
    unfold HT.lexLt
    have d : ¬ (a.2 : Int) = b.2 := by omega
    rw [if_neg d]
    exact decide_eq_true (by omega)
  · rw [if_neg (by omega)]
    exact decide_eq_true (by omega)
def spTie : Sp := fun vs H Q _ => ∃ (t : Tie) (v : V) (n : Nat), vs = [v, .int n] ∧ PairV H t v ∧ t.1 < t.2 ∧ t.2 < n ∧ ∀ H', Same H H' → Q (.bl true) H'
theorem ok_is_tie (T : TX K mg) : Cal P w K mg base 2 "is_tie" spTie := by
  refine cal_of T.d_is_tie sc_is_tie (fun vs H Q E h => ?_) (fun f cdv A outer s H vs Q E hr h => ?_)
  · obtain ⟨t, v, n, rfl, _⟩ := h
    rfl
  · obtain ⟨t, v, n, rfl, ⟨p, rfl, hp⟩, h1, h2, q⟩ := h
    refine ⟨_, (pss_cons (ps_if (PW.pt (pw_or (pt_not (pt_val (pe_isi T.b_isinstance T.b_tuple bt_tuple (pv 0)))) (pw_or1 (pt_cmpR op_ne (pe_callB (kcall_len (K := K) rfl) (by rfl) T.b_len bt_len (pa_cons (pv 0) pa_nil)) pe_int (nomark _))))) (pss_one (ps_ret pe_bl)) pss_nil) (pss_one (ps_ret (pe_and (pe_callB (kcr_all (K := K) rfl rfl) (by rfl) T.b_all bt_all (pa_cons (pe_lc (own := [("one", 2)]) rfl sc_is_tie.nd (pi_tup (pv 0)) (blkOk_by (N := ["thing", "places", "one"]) (sc := defScope s_is_tie) (by decide +kernel)) (fun _ _ _ _ _ => (pg_name (i := 2) sc_is_tie.nd rfl (Or.inl rfl))) (fun _ _ _ _ _ => pts_nil) (fun _ _ _ _ _ => (pe_k (ok_is_upto T) hr (pa_cons (pv 2) (pa_cons pe_int (pa_cons (pe_op op_sub (pv 1) pe_int) pa_nil)))))) pa_nil)) (pe_one (pe_cmpR op_lt (pe_ix (kix_tup (K := K) rfl) (pv 0) pe_int (fun _ _ => rfl)) (pe_ix (kix_tup (K := K) rfl) (pv 0) pe_int (fun _ _ => rfl)) (nomark _))))))), ?_⟩
    refine ⟨_, rfl, _, _, true, rfl, isk_tt hp, true, rfl, ?_⟩
    refine iteF ?_
    refine ⟨_, rfl, p, _, rfl, .inr (sqT hp), rfl, false, rfl, ?_⟩
    refine iteF ?_
    refine ⟨_, rfl, p, rfl, ⟨_, sqT hp⟩, fun D hD => ?_⟩
    refine lc_rel (walk_tup (xs := [V.int t.1, V.int t.2])) hD (show 2 ≤ 100000 by decide) (fun _ => true) (fun i y H => y = .bl true) (fun _ _ _ _ h _ => h) (fun H2 sm => same_seqT sm (sqT hp)) (fun i x H2 H3 hi sm hy K1 K2 k1 k2 => ?_) (fun H2 ys sm hl2 pr => ?_)
    · obtain ⟨rfl, hx⟩ := hy
      have key : K1 (.bl true) H3 := k1 _ _ rfl (Same.refl _) rfl
      have hx' : ∃ z : Nat, x = .int z ∧ (z : Int) ≤ (n : Int) - 1 := by
        match i, hx with
        | 0, hx => exact ⟨t.1, (Option.some.inj hx).symm, by omega⟩
        | 1, hx => exact ⟨t.2, (Option.some.inj hx).symm, by omega⟩
        | i + 2, hx => simp at hx
      obtain ⟨z, rfl, hz⟩ := hx'
      refine ⟨rfl, iteT (B := K2 H3) ⟨_, rfl, _, rfl, n, 1, rfl, rfl, z, 0, (n : Int) - 1, rfl, ?_⟩⟩
      rw [decide_eq_true (show (0 : Int) ≤ (z : Int) ∧ (z : Int) ≤ (n : Int) - 1 from ⟨by omega, hz⟩)]
      exact key
    · obtain ⟨bs, e1, e2⟩ := all_true (n := 0) (R := fun _ _ => True) pr
      subst e1
      refine ⟨D, bs, rfl, sqL hl2, ?_⟩
      rw [e2]
      refine ⟨true, rfl, iteT ?_⟩
      have hp2 := sm _ _ hp
      refine ⟨_, rfl, p, _, 0, _, rfl, rfl, sqT hp2, atI_nat (j := 0) rfl, _, rfl, p, _, 1, _, rfl, rfl, sqT hp2, atI_nat (j := 1) rfl, t.1, t.2, rfl, rfl, ?_⟩
      show Q (.bl (decide ((t.1 : Int) < (t.2 : Int)))) H2
      rw [decide_eq_true (show (t.1 : Int) < (t.2 : Int) by omega)]
      exact q _ sm
/-- is_web -/
def spWeb1 : Sp := fun vs H Q _ => ∃ n ts v, vs = [v] ∧ WebV H n ts v ∧ WebOk n ts ∧ ∀ H', Same H H' → Q (.bl true) H'
theorem ok_is_web (T : TX K mg) : Cal P w K mg base 3 "is_web" spWeb1 := by
  refine cal_of T.d_is_web sc_is_web (fun vs H Q E h => ?_) (fun f cdv A outer s H vs Q E hr h => ?_)
  · obtain ⟨n, ts, v, rfl, _⟩ := h
    rfl
  · obtain ⟨n, ts, v, rfl, ⟨p, x, rfl, hp, ⟨p2, xs, rfl, hp2, pr⟩⟩, ok, q⟩ := h
    obtain ⟨tM, c_MOST_PLACES⟩ := T.c_MOST_PLACES
    refine ⟨_, (pss_cons (ps_if (PW.pt (pw_or (pt_not (pt_val (pe_isi T.b_isinstance T.b_tuple bt_tuple (pv 0)))) (pw_or (pt_cmpR op_ne (pe_callB (kcall_len (K := K) rfl) (by rfl) T.b_len bt_len (pa_cons (pv 0) pa_nil)) pe_int (nomark _)) (pw_or1 (pt_not (pt_val (pe_k (ok_is_upto T) hr (pa_cons (pe_ix (kix_tup (K := K) rfl) (pv 0) pe_int (fun _ _ => rfl)) (pa_cons pe_int (pa_cons (pe_const c_MOST_PLACES) pa_nil)))))))))) (pss_one (ps_ret pe_bl)) pss_nil) (pss_cons (ps_if (PW.pt (pw_or (pt_not (pt_val (pe_isi T.b_isinstance T.b_tuple bt_tuple (pe_ix (kix_tup (K := K) rfl) (pv 0) pe_int (fun _ _ => rfl))))) (pw_or1 (pt_not (pt_val (pe_callB (kcr_all (K := K) rfl rfl) (by rfl) T.b_all bt_all (pa_cons (pe_lc (own := [("tie", 1)]) rfl sc_is_web.nd (pi_tup (pe_ix (kix_tup (K := K) rfl) (pv 0) pe_int (fun _ _ => rfl))) (blkOk_by (N := ["thing", "tie"]) (sc := defScope s_is_web) (by decide +kernel)) (fun _ _ _ _ _ => (pg_name (i := 1) sc_is_web.nd rfl (Or.inl rfl))) (fun _ _ _ _ _ => pts_nil) (fun _ _ _ _ _ => (pe_k (ok_is_tie T) hr (pa_cons (pv 1) (pa_cons (pe_ix (kix_tup (K := K) rfl) (pv 0) pe_int (fun _ _ => rfl)) pa_nil))))) pa_nil))))))) (pss_one (ps_ret pe_bl)) pss_nil) (pss_one (ps_ret (pe_k (ok_rises T) hr (pa_cons (pe_ix (kix_tup (K := K) rfl) (pv 0) pe_int (fun _ _ => rfl)) pa_nil)))))), ?_⟩
    refine ⟨_, rfl, _, _, true, rfl, isk_tt hp, true, rfl, ?_⟩
    refine iteF ?_
    refine ⟨_, rfl, p, _, rfl, .inr (sqT hp), rfl, false, rfl, ?_⟩
    refine iteF ?_
    refine ⟨_, rfl, p, _, 0, _, rfl, rfl, sqT hp, atI_nat (j := 0) rfl, (n : Int), 1, 6, rfl, true, ?_, ?_⟩
    · rw [decide_eq_true (show (1 : Int) ≤ (n : Int) ∧ (n : Int) ≤ 6 from ⟨by have := ok.n1; omega, by have := ok.n5; omega⟩)]
    refine iteF ?_
    refine ⟨_, rfl, p, _, 1, _, rfl, rfl, sqT hp, atI_nat (j := 1) rfl, _, _, true, rfl, isk_tt hp2, true, rfl, ?_⟩
    refine iteF ?_
    refine ⟨_, rfl, p, _, 1, _, rfl, rfl, sqT hp, atI_nat (j := 1) rfl, p2, rfl, ⟨_, sqT hp2⟩, fun D hD => ?_⟩
    have hlen : xs.length = ts.length := (Paired.length pr).symm
    refine lc_rel walk_tup hD (by rw [hlen]; have := ok.len; omega) (fun _ => true) (fun i y H => y = .bl true) (fun _ _ _ _ h _ => h) (fun H2 sm => same_seqT sm (sqT hp2)) (fun i x H2 H3 hi sm hy K1 K2 k1 k2 => ?_) (fun H2 ys sm hl2 pr2 => ?_)
    · obtain ⟨rfl, hx⟩ := hy
      obtain ⟨t, ht, hpv⟩ := paired_at pr hx
      obtain ⟨o1, o2⟩ := ok.tie t (List.mem_of_getElem? ht)
      exact ⟨rfl, iteT (B := K2 H3) ⟨_, rfl, _, rfl, p, _, 0, _, rfl, rfl, sqT (sm _ _ hp), atI_nat (j := 0) rfl, t, x, n, rfl, PairV.t (Same.t sm) hpv, o1, o2, fun H4 s4 => k1 _ _ rfl s4 rfl⟩⟩
    · obtain ⟨bs, e1, e2⟩ := all_true (n := 0) (R := fun _ _ => True) pr2
      subst e1
      refine ⟨D, bs, rfl, sqL hl2, true, by rw [e2], ?_⟩
      refine iteF ?_
      refine ⟨_, rfl, p, _, 1, _, rfl, rfl, sqT (sm _ _ hp), atI_nat (j := 1) rfl, p2, xs, rfl, sm _ _ hp2, by have := ok.len; omega, fun i x y hx hy => ?_, fun H3 s3 => q _ (sm.trans s3)⟩
      obtain ⟨a, ha, pa, rfl, ea⟩ := paired_at pr hx
      obtain ⟨b, hb, pb, rfl, eb⟩ := paired_at pr hy
      exact .inr ⟨pa, pb, [a.1, a.2], [b.1, b.2], rfl, rfl, sm _ _ ea, sm _ _ eb, lex_pair (ok.rise i a b ha hb)⟩
end
end HL

set_option Elab.async false
set_option linter.all false
set_option maxRecDepth 100000
set_option maxHeartbeats 4000000
namespace HL
open PySem PySem.Spec L2
open PyProof.Rows (envOfC)
section
variable {P : Program} {w : World} {K : PySem.W.Frag} {mg : Str → Option Value} {base : Heap}
def spNeedWeb : Sp := fun vs H Q _ => ∃ n ts v, vs = [v] ∧ WebV H n ts v ∧ WebOk n ts ∧ ∀ H', Same H H' → Q .non H'
theorem ok_need_web (T : TX K mg) : Cal P w K mg base 4 "need_web" spNeedWeb := by
  refine cal_of T.d_need_web sc_need_web (fun vs H Q E h => ?_) (fun f cdv A outer s H vs Q E hr h => ?_)
  · obtain ⟨n, ts, v, rfl, _⟩ := h
    rfl
  · obtain ⟨n, ts, v, rfl, hw, ok, q⟩ := h
    refine ⟨_, (pss_one (ps_if (pt_not (pt_val (pe_k (ok_is_web T) hr (pa_cons (pv 0) pa_nil)))) pss_never pss_nil)), ?_⟩
    refine ⟨_, rfl, n, ts, v, rfl, hw, ok, fun H' sm => ⟨true, rfl, ?_⟩⟩
    refine iteF ?_
    exact q H' sm
/-- a place's list -/
structure ListOk (L : List Int) : Prop where
  len : L.length ≤ 8
  bnd : ∀ x ∈ L, 0 ≤ x ∧ x ≤ 99
  rise : L.Pairwise (· < ·)
theorem rise_at {L : List Int} (h : L.Pairwise (· < ·)) {i : Nat} {x y : Int} (hx : L[i]? = some x) (hy : L[i + 1]? = some y) : x < y := by
  obtain ⟨h1, e1⟩ := List.getElem?_eq_some_iff.mp hx
  obtain ⟨h2, e2⟩ := List.getElem?_eq_some_iff.mp hy
  have := List.pairwise_iff_getElem.mp h i (i + 1) h1 h2 (Nat.lt_succ_self _)
  rw [e1, e2] at this
  exact this
theorem int_at {ns : List Int} {i : Nat} {x : V} (h : (ns.map V.int)[i]? = some x) : ∃ z, ns[i]? = some z ∧ x = .int z := by
  rw [List.getElem?_map] at h
  obtain ⟨z, h1, h2⟩ := Option.map_eq_some_iff.mp h
  exact ⟨z, h1, h2.symm⟩
def spList : Sp := fun vs H Q _ => ∃ L v, vs = [v] ∧ IntsV H L v ∧ ListOk L ∧ ∀ H', Same H H' → Q (.bl true) H'
theorem ok_is_list (T : TX K mg) : Cal P w K mg base 2 "is_list" spList := by
  refine cal_of T.d_is_list sc_is_list (fun vs H Q E h => ?_) (fun f cdv A outer s H vs Q E hr h => ?_)
  · obtain ⟨L, v, rfl, _⟩ := h
    rfl
  · obtain ⟨L, v, rfl, ⟨p, rfl, hp⟩, ok, q⟩ := h
    obtain ⟨t8, c_MOST_LONG⟩ := T.c_MOST_LONG
    obtain ⟨t9, c_MOST_HUE⟩ := T.c_MOST_HUE
    refine ⟨_, (pss_cons (ps_if (PW.pt (pw_or (pt_not (pt_val (pe_isi T.b_isinstance T.b_tuple bt_tuple (pv 0)))) (pw_or1 (pt_cmpR op_gt (pe_callB (kcall_len (K := K) rfl) (by rfl) T.b_len bt_len (pa_cons (pv 0) pa_nil)) (pe_const c_MOST_LONG) (nomark _))))) (pss_one (ps_ret pe_bl)) pss_nil) (pss_one (ps_ret (pe_and (pe_callB (kcr_all (K := K) rfl rfl) (by rfl) T.b_all bt_all (pa_cons (pe_lc (own := [("hue", 1)]) rfl sc_is_list.nd (pi_tup (pv 0)) (blkOk_by (N := ["thing", "hue"]) (sc := defScope s_is_list) (by decide +kernel)) (fun _ _ _ _ _ => (pg_name (i := 1) sc_is_list.nd rfl (Or.inl rfl))) (fun _ _ _ _ _ => pts_nil) (fun _ _ _ _ _ => (pe_k (ok_is_upto T) hr (pa_cons (pv 1) (pa_cons pe_int (pa_cons (pe_const c_MOST_HUE) pa_nil)))))) pa_nil)) (pe_one (pe_k (ok_rises T) hr (pa_cons (pv 0) pa_nil))))))), ?_⟩
    have hz : ((L.map V.int).length : Int) ≤ 8 := by rw [List.length_map]; have := ok.len; omega
    refine ⟨_, rfl, _, _, true, rfl, isk_tt hp, true, rfl, ?_⟩
    refine iteF ?_
    refine ⟨_, rfl, p, _, rfl, .inr (sqT hp), _, 8, rfl, rfl, false, ?_, ?_⟩
    · exact congrArg V.bl (decide_eq_false (by omega))
    refine iteF ?_
    refine ⟨_, rfl, p, rfl, ⟨_, sqT hp⟩, fun D hD => ?_⟩
    refine lc_rel walk_tup hD (by rw [List.length_map]; have := ok.len; omega) (fun _ => true) (fun i y H => y = .bl true) (fun _ _ _ _ h _ => h) (fun H2 sm => same_seqT sm (sqT hp)) (fun i x H2 H3 hi sm hy K1 K2 k1 k2 => ?_) (fun H2 ys sm hl2 pr => ?_)
    · obtain ⟨rfl, hx⟩ := hy
      obtain ⟨z, hz, rfl⟩ := int_at hx
      refine ⟨rfl, iteT (B := K2 H3) ⟨_, rfl, z, 0, 99, rfl, ?_⟩⟩
      rw [decide_eq_true (ok.bnd z (List.mem_of_getElem? hz))]
      exact k1 _ _ rfl (Same.refl _) rfl
    · obtain ⟨bs, e1, e2⟩ := all_true (n := 0) (R := fun _ _ => True) pr
      subst e1
      refine ⟨D, bs, rfl, sqL hl2, ?_⟩
      rw [e2]
      refine ⟨true, rfl, iteT ?_⟩
      refine ⟨_, rfl, p, _, rfl, sm _ _ hp, by rw [List.length_map]; have := ok.len; omega, fun i x y hx hy => ?_, fun H3 s3 => q _ (sm.trans s3)⟩
      obtain ⟨a, ha, rfl⟩ := int_at hx
      obtain ⟨b, hb, rfl⟩ := int_at hy
      exact .inl ⟨a, b, rfl, rfl, rise_at ok.rise ha hb⟩
def spListsOf : Sp := fun vs H Q _ => ∃ n ts Ls v u, vs = [v, u] ∧ ListsV H Ls v ∧ WebV H n ts u ∧ Ls.length = n ∧ n ≤ 5 ∧ (∀ L ∈ Ls, ListOk L) ∧ ∀ H', Same H H' → Q (.bl true) H'
theorem ok_are_lists_of (T : TX K mg) : Cal P w K mg base 3 "are_lists_of" spListsOf := by
  refine cal_of T.d_are_lists_of sc_are_lists_of (fun vs H Q E h => ?_) (fun f cdv A outer s H vs Q E hr h => ?_)
  · obtain ⟨n, ts, Ls, v, u, rfl, _⟩ := h
    rfl
  · obtain ⟨n, ts, Ls, v, u, rfl, ⟨p, xs, rfl, hp, pr⟩, ⟨p2, x2, rfl, hp2, _⟩, hl, hn, ok, q⟩ := h
    have hxs : xs.length = n := by rw [← Paired.length pr, hl]
    refine ⟨_, (pss_one (ps_ret (pe_and (pe_isi T.b_isinstance T.b_tuple bt_tuple (pv 0)) (pe_and (pe_cmpR op_eq (pe_callB (kcall_len (K := K) rfl) (by rfl) T.b_len bt_len (pa_cons (pv 0) pa_nil)) (pe_ix (kix_tup (K := K) rfl) (pv 1) pe_int (fun _ _ => rfl)) (nomark _)) (pe_one (pe_callB (kcr_all (K := K) rfl rfl) (by rfl) T.b_all bt_all (pa_cons (pe_lc (own := [("one", 2)]) rfl sc_are_lists_of.nd (pi_tup (pv 0)) (blkOk_by (N := ["thing", "web", "one"]) (sc := defScope s_are_lists_of) (by decide +kernel)) (fun _ _ _ _ _ => (pg_name (i := 2) sc_are_lists_of.nd rfl (Or.inl rfl))) (fun _ _ _ _ _ => pts_nil) (fun _ _ _ _ _ => (pe_k (ok_is_list T) hr (pa_cons (pv 2) pa_nil)))) pa_nil))))))), ?_⟩
    refine ⟨_, rfl, _, _, true, rfl, isk_tt hp, true, rfl, iteT ?_⟩
    refine ⟨_, rfl, p, _, rfl, .inr (sqT hp), _, rfl, p2, _, 0, _, rfl, rfl, sqT hp2, atI_nat (j := 0) rfl, rfl, true, ?_, iteT ?_⟩
    · rw [hxs, decide_eq_true rfl]
    refine ⟨_, rfl, p, rfl, ⟨_, sqT hp⟩, fun D hD => ?_⟩
    refine lc_rel walk_tup hD (by omega) (fun _ => true) (fun i y H => y = .bl true) (fun _ _ _ _ h _ => h) (fun H2 sm => same_seqT sm (sqT hp)) (fun i x H2 H3 hi sm hy K1 K2 k1 k2 => ?_) (fun H2 ys sm hl2 pr2 => ?_)
    · obtain ⟨rfl, hx⟩ := hy
      obtain ⟨L, hL, hv⟩ := paired_at pr hx
      exact ⟨rfl, iteT (B := K2 H3) ⟨_, rfl, L, x, rfl, IntsV.t (Same.t sm) hv, ok L (List.mem_of_getElem? hL), fun H4 s4 => k1 _ _ rfl s4 rfl⟩⟩
    · obtain ⟨bs, e1, e2⟩ := all_true (n := 0) (R := fun _ _ => True) pr2
      subst e1
      refine ⟨D, bs, rfl, sqL hl2, ?_⟩
      rw [e2]
      exact q _ sm
def spNeedLists : Sp := fun vs H Q _ => ∃ n ts Ls v u, vs = [u, v] ∧ ListsV H Ls v ∧ WebV H n ts u ∧ WebOk n ts ∧ Ls.length = n ∧ (∀ L ∈ Ls, ListOk L) ∧ ∀ H', Same H H' → Q .non H'
theorem ok_need_lists (T : TX K mg) : Cal P w K mg base 5 "need_lists" spNeedLists := by
  refine cal_of T.d_need_lists sc_need_lists (fun vs H Q E h => ?_) (fun f cdv A outer s H vs Q E hr h => ?_)
  · obtain ⟨n, ts, Ls, v, u, rfl, _⟩ := h
    rfl
  · obtain ⟨n, ts, Ls, v, u, rfl, hv, hw, wok, hl, ok, q⟩ := h
    refine ⟨_, (pss_cons (ps_expr (pe_k (ok_need_web T) hr (pa_cons (pv 0) pa_nil))) (pss_one (ps_if (pt_not (pt_val (pe_k (ok_are_lists_of T) hr (pa_cons (pv 1) (pa_cons (pv 0) pa_nil))))) pss_never pss_nil))), ?_⟩
    refine ⟨_, rfl, n, ts, u, rfl, hw, wok, fun H2 s2 => ?_⟩
    refine ⟨_, rfl, _, rfl, n, ts, Ls, v, u, rfl, ListsV.t (Same.t s2) hv, WebV.t (Same.t s2) hw, hl, wok.n5, ok, fun H3 s3 => ⟨true, rfl, ?_⟩⟩
    refine iteF ?_
    exact q _ (s2.trans s3)
/-- sizes of a web -/
structure SizesOk (n : Nat) (ss : List Int) : Prop where
  len : ss.length = n
  bnd : ∀ x ∈ ss, 0 ≤ x ∧ x ≤ 8
def spSizes : Sp := fun vs H Q _ => ∃ n ts ss v u, vs = [v, u] ∧ IntsV H ss v ∧ WebV H n ts u ∧ WebOk n ts ∧ SizesOk n ss ∧ ∀ H', Same H H' → Q (.bl true) H'
theorem ok_are_sizes (T : TX K mg) : Cal P w K mg base 5 "are_sizes" spSizes := by
  refine cal_of T.d_are_sizes sc_are_sizes (fun vs H Q E h => ?_) (fun f cdv A outer s H vs Q E hr h => ?_)
  · obtain ⟨n, ts, ss, v, u, rfl, _⟩ := h
    rfl
  · obtain ⟨n, ts, ss, v, u, rfl, ⟨p, rfl, hp⟩, hw, wok, ok, q⟩ := h
    obtain ⟨t8, c_MOST_LONG⟩ := T.c_MOST_LONG
    have hlen : (ss.map V.int).length = n := by rw [List.length_map, ok.len]
    refine ⟨_, (pss_cons (ps_expr (pe_k (ok_need_web T) hr (pa_cons (pv 1) pa_nil))) (pss_one (ps_ret (pe_and (pe_isi T.b_isinstance T.b_tuple bt_tuple (pv 0)) (pe_and (pe_cmpR op_eq (pe_callB (kcall_len (K := K) rfl) (by rfl) T.b_len bt_len (pa_cons (pv 0) pa_nil)) (pe_ix (kix_tup (K := K) rfl) (pv 1) pe_int (fun _ _ => rfl)) (nomark _)) (pe_one (pe_callB (kcr_all (K := K) rfl rfl) (by rfl) T.b_all bt_all (pa_cons (pe_lc (own := [("one", 2)]) rfl sc_are_sizes.nd (pi_tup (pv 0)) (blkOk_by (N := ["thing", "web", "one"]) (sc := defScope s_are_sizes) (by decide +kernel)) (fun _ _ _ _ _ => (pg_name (i := 2) sc_are_sizes.nd rfl (Or.inl rfl))) (fun _ _ _ _ _ => pts_nil) (fun _ _ _ _ _ => (pe_k (ok_is_upto T) hr (pa_cons (pv 2) (pa_cons pe_int (pa_cons (pe_const c_MOST_LONG) pa_nil)))))) pa_nil)))))))), ?_⟩
    refine ⟨_, rfl, n, ts, u, rfl, hw, wok, fun H1 s1 => ?_⟩
    obtain ⟨p2, x2, rfl, hp2, _⟩ := hw
    have hp1 := s1 _ _ hp
    refine ⟨_, rfl, _, _, true, rfl, isk_tt hp1, true, rfl, iteT ?_⟩
    refine ⟨_, rfl, p, _, rfl, .inr (sqT hp1), _, rfl, p2, _, 0, _, rfl, rfl, sqT (s1 _ _ hp2), atI_nat (j := 0) rfl, rfl, true, ?_, iteT ?_⟩
    · rw [hlen, decide_eq_true rfl]
    refine ⟨_, rfl, p, rfl, ⟨_, sqT hp1⟩, fun D hD => ?_⟩
    refine lc_rel walk_tup hD (by have := wok.n5; omega) (fun _ => true) (fun i y H => y = .bl true) (fun _ _ _ _ h _ => h) (fun H2 sm => same_seqT sm (sqT hp1)) (fun i x H2 H3 hi sm hy K1 K2 k1 k2 => ?_) (fun H2 ys sm hl2 pr2 => ?_)
    · obtain ⟨rfl, hx⟩ := hy
      obtain ⟨z, hz, rfl⟩ := int_at hx
      refine ⟨rfl, iteT (B := K2 H3) ⟨_, rfl, z, 0, 8, rfl, ?_⟩⟩
      rw [decide_eq_true (ok.bnd z (List.mem_of_getElem? hz))]
      exact k1 _ _ rfl (Same.refl _) rfl
    · obtain ⟨bs, e1, e2⟩ := all_true (n := 0) (R := fun _ _ => True) pr2
      subst e1
      refine ⟨D, bs, rfl, sqL hl2, ?_⟩
      rw [e2]
      exact q _ (s1.trans sm)
def spNeedSizes : Sp := fun vs H Q _ => ∃ n ts ss v u, vs = [u, v] ∧ IntsV H ss v ∧ WebV H n ts u ∧ WebOk n ts ∧ SizesOk n ss ∧ ∀ H', Same H H' → Q .non H'
theorem ok_need_sizes (T : TX K mg) : Cal P w K mg base 6 "need_sizes" spNeedSizes := by
  refine cal_of T.d_need_sizes sc_need_sizes (fun vs H Q E h => ?_) (fun f cdv A outer s H vs Q E hr h => ?_)
  · obtain ⟨n, ts, ss, v, u, rfl, _⟩ := h
    rfl
  · obtain ⟨n, ts, ss, v, u, rfl, hv, hw, wok, ok, q⟩ := h
    refine ⟨_, (pss_one (ps_if (pt_not (pt_val (pe_k (ok_are_sizes T) hr (pa_cons (pv 1) (pa_cons (pv 0) pa_nil))))) pss_never pss_nil)), ?_⟩
    refine ⟨_, rfl, _, rfl, n, ts, ss, v, u, rfl, hv, hw, wok, ok, fun H3 s3 => ⟨true, rfl, ?_⟩⟩
    refine iteF ?_
    exact q _ s3
theorem inV_ints (v : Int) (ns : List Int) : inV (.int v) (ns.map V.int) = decide (v ∈ ns) := by
  unfold inV
  rw [List.any_map]
  induction ns with
  | nil => rfl
  | cons x ns ih =>
    rw [List.any_cons, ih]
    show ((x == v) || decide (v ∈ ns)) = decide (v ∈ x :: ns)
    by_cases e : x = v
    · subst e; simp
    · have e' : ¬ v = x := fun z => e z.symm
      simp [e, e']
def keepAt {α : Type} (l : List α) (q : α → Bool) (i : Nat) : Bool := (l[i]?).elim false q
theorem keepAt_some {α : Type} {l : List α} {q : α → Bool} {i : Nat} {t : α} (h : l[i]? = some t) : keepAt l q i = q t := by
  unfold keepAt
  rw [h]; rfl
/-- the kept ones of a list, in order -/
theorem pick_take {α : Type} (l : List α) (q : α → Bool) (f : α → V) : ∀ (k : Nat) (ys : List V), k ≤ l.length → Paired (fun i y => ∃ t, l[i]? = some t ∧ y = f t) ((List.range k).filter (keepAt l q)) ys → ys = ((l.take k).filter q).map f
  | 0, ys, _, h => by cases h; rfl
  | k + 1, ys, hk, h => by
    have e : l[k]? = some l[k] := List.getElem?_eq_getElem (by omega)
    rw [List.range_succ, List.filter_append, List.filter_cons, List.filter_nil, keepAt_some e] at h
    rw [List.take_succ, e, List.filter_append, List.map_append]
    by_cases c : q l[k] = true
    · rw [if_pos c] at h
      have : ∃ zs z, ys = zs ++ [z] ∧ Paired (fun i y => ∃ t, l[i]? = some t ∧ y = f t) ((List.range k).filter (keepAt l q)) zs ∧ ∃ t, l[k]? = some t ∧ z = f t := by
        generalize ((List.range k).filter (keepAt l q)) = a at h
        clear e
        induction a generalizing ys with
        | nil =>
          cases h with
          | cons h1 h2 => cases h2; exact ⟨[], _, rfl, .nil, h1⟩
        | cons b a ih =>
          rw [List.cons_append] at h
          cases h with
          | cons h1 h2 =>
            obtain ⟨zs, z, e1, e2, e3⟩ := ih _ h2
            exact ⟨_ :: zs, z, by rw [e1]; rfl, .cons h1 e2, e3⟩
      obtain ⟨zs, z, rfl, hz, t, ht, rfl⟩ := this
      rw [← pick_take l q f k zs (by omega) hz]
      rw [e] at ht
      cases ht
      simp [c]
    · rw [if_neg c, List.append_nil] at h
      rw [← pick_take l q f k ys (by omega) h]
      simp [c]
theorem pick_all {α : Type} {l : List α} {q : α → Bool} {f : α → V} {ys : List V} (h : Paired (fun i y => ∃ t, l[i]? = some t ∧ y = f t) ((List.range l.length).filter (keepAt l q)) ys) : ys = (l.filter q).map f := by
  have := pick_take l q f l.length ys (Nat.le_refl _) h
  rwa [List.take_length] at this
/-- the places tied to a place -/
abbrev toI (l : List Nat) : List Int := l.map fun x : Nat => (x : Int)
def nbrs (ts : List Tie) (v : Nat) : List Nat := (ts.filter fun t => decide (v = t.1 ∨ v = t.2)).map fun t => t.1 + t.2 - v
def spTied : Sp := fun vs H Q _ => ∃ (n : Nat) (ts : List Tie) (u : V) (v : Nat), vs = [u, .int v] ∧ WebV H n ts u ∧ ts.length ≤ 10 ∧ ∀ H' r (ns : List Int), Same H H' → IntsV H' ns r → ns.Perm (toI (nbrs ts v)) → Q r H'
theorem ok_tied_to (T : TX K mg) : Cal P w K mg base 1 "tied_to" spTied := by
  refine cal_of T.d_tied_to sc_tied_to (fun vs H Q E h => ?_) (fun f cdv A outer s H vs Q E hr h => ?_)
  · obtain ⟨n, ts, u, v, rfl, _⟩ := h
    rfl
  · obtain ⟨n, ts, u, v, rfl, ⟨p, x, rfl, hp, ⟨p2, xs, rfl, hp2, pr⟩⟩, hl, q⟩ := h
    have hxs : xs.length = ts.length := (Paired.length pr).symm
    refine ⟨_, (pss_one (ps_ret (pe_callTy (call_tuple_of) (by rfl) T.b_tuple bt_tuple (pa_cons (pe_callB (cr_sorted) (by rfl) T.b_sorted bt_sorted (pa_cons (pe_lc (own := [("one", 2), ("other", 3)]) rfl sc_tied_to.nd (pi_tup (pe_ix (kix_tup (K := K) rfl) (pv 0) pe_int (fun _ _ => rfl))) (blkOk_by (N := ["web", "place", "one", "other"]) (sc := defScope s_tied_to) (by decide +kernel)) (fun _ _ _ _ _ => (kpg_tup (K := K) (n := 2) rfl rfl (pgs_cons (pg_name (i := 2) sc_tied_to.nd rfl (Or.inl rfl)) (pgs_cons (pg_name (i := 3) sc_tied_to.nd rfl (Or.inl rfl)) pgs_nil)))) (fun _ _ _ _ _ => (pts_one (pt_cmpR (kop_in (K := K) rfl) (pv 1) (pe_tup (pa_cons (pv 2) (pa_cons (pv 3) pa_nil))) rfl))) (fun _ _ _ _ _ => (pe_op op_sub (pe_op op_add (pv 2) (pv 3)) (pv 1)))) pa_nil)) pa_nil)))), ?_⟩
    refine ⟨_, rfl, p, _, 1, _, rfl, rfl, sqT hp, atI_nat (j := 1) rfl, p2, rfl, ⟨_, sqT hp2⟩, fun D hD => ?_⟩
    refine lc_rel walk_tup hD (by omega) (keepAt ts fun t => decide (v = t.1 ∨ v = t.2)) (fun i y H => ∃ t, ts[i]? = some t ∧ y = .int ((t.1 : Int) + (t.2 : Int) - (v : Int))) (fun _ _ _ _ h _ => h) (fun H2 sm => same_seqT sm (sqT hp2)) (fun i x H2 H3 hi sm hy K1 K2 k1 k2 => ?_) (fun H2 ys sm hl2 pr2 => ?_)
    · obtain ⟨rfl, hx⟩ := hy
      obtain ⟨t, ht, pt, rfl, ept⟩ := paired_at pr hx
      have ept3 := sm _ _ ept
      refine ⟨pt, _, rfl, sqT ept3, rfl, _, _, rfl, _, _, rfl, rfl, rfl, ?_⟩
      refine ⟨_, rfl, _, rfl, _, rfl, show 2 ≤ sizeLine by decide, fun a ha => ⟨a, _, rfl, .inr (sqT upd_same), rfl, rfl, _, rfl, ?_⟩⟩
      have e : inV (.int (v : Int)) [V.int (t.1 : Int), V.int (t.2 : Int)] = decide (v = t.1 ∨ v = t.2) := by
        rw [show [V.int (t.1 : Int), V.int (t.2 : Int)] = [(t.1 : Int), (t.2 : Int)].map V.int from rfl, inV_ints]
        refine decide_eq_decide.mpr ?_
        simp only [List.mem_cons, List.not_mem_nil, or_false]
        omega
      have sa : Same H3 (upd H3 a (.tup [V.int (t.1 : Int), V.int (t.2 : Int)])) := same_new ha
      have ek : keepAt ts (fun t => decide (v = t.1 ∨ v = t.2)) i = decide (v = t.1 ∨ v = t.2) := keepAt_some ht
      rw [ek] at k1 k2
      show (if inV (.int (v : Int)) [V.int (t.1 : Int), V.int (t.2 : Int)] = true then _ else _)
      rw [e]
      by_cases c : v = t.1 ∨ v = t.2
      · rw [if_pos (decide_eq_true c)]
        exact ⟨_, rfl, _, rfl, _, _, rfl, rfl, _, rfl, _, _, rfl, rfl, k1 _ _ (decide_eq_true c) sa ⟨t, ht, rfl⟩⟩
      · rw [if_neg (fun z => c (of_decide_eq_true z))]
        exact k2 _ (decide_eq_false c) sa
    · rw [hxs] at pr2
      have e := pick_all (l := ts) (q := fun t => decide (v = t.1 ∨ v = t.2)) (f := fun t => .int ((t.1 : Int) + (t.2 : Int) - (v : Int))) pr2
      have e2 : ys = (toI (nbrs ts v)).map V.int := by
        rw [e]
        unfold toI nbrs
        rw [List.map_map, List.map_map]
        refine List.map_congr_left fun t ht => ?_
        have := of_decide_eq_true (List.mem_filter.mp ht).2
        show V.int _ = V.int ((t.1 + t.2 - v : Nat) : Int)
        congr 1
        omega
      subst e2
      have hnl : (toI (nbrs ts v)).length < 64 := by
        unfold toI nbrs
        rw [List.length_map, List.length_map]
        exact Nat.lt_of_le_of_lt (List.length_filter_le _ _) (by omega)
      refine ⟨D, toI (nbrs ts v), rfl, sqL hl2, hnl, fun ns' p3 hpm _ hp3 => ⟨p3, _, rfl, .inl ⟨sqL upd_same, fun p4 hp4 => ?_⟩⟩⟩
      exact q _ _ ns' ((sm.trans (same_new hp3)).trans (same_new hp4)) ⟨p4, rfl, upd_same⟩ hpm
end
end HL

set_option Elab.async false
set_option linter.all false
set_option maxRecDepth 100000
set_option maxHeartbeats 4000000
namespace HL
open PySem PySem.Spec L2
open PyProof.Rows (envOfC)
/-! == and != with an empty list or tuple -/
theorem lay_tups : ∀ rs : List (Addr × List Int), PyData.canLayAll0 (rs.map fun r => PyData.tuple (r.2.map PyData.int)) = true
  | [] => rfl
  | r :: rs => by
    rw [List.map_cons]
    simp only [PyData.canLayAll0, PyData.canLay0, PySem.W.ke_canLayAll0, lay_tups rs, Bool.and_self]
def Datas (H : Hp) (xs : List V) : Prop := (∃ ns : List Int, xs = ns.map V.int) ∨ ∃ rs : List (Addr × List Int), xs = rs.map (fun r => V.ref r.1) ∧ ∀ r ∈ rs, TupAt H r.1 r.2
theorem Datas.dp {K : PySem.W.Frag} {H : Hp} {xs : List V} (h : Datas H xs) : ∃ ds, DpAll K H xs ds ∧ PyData.canLayAll0 ds = true ∧ PyData.depthAll ds ≤ 1 := by
  rcases h with ⟨ns, rfl⟩ | ⟨rs, rfl, h⟩
  · exact ⟨_, dpAll_ints ns, PySem.W.ke_canLayAll0 ns, by rw [PySem.W.depth_ints]; omega⟩
  · exact ⟨_, dpAll_tups rs h, lay_tups rs, depth_tups rs⟩
theorem shaped_of {ds : List PyData} (h : PyData.canLayAll0 ds = true) (d : PyData.depthAll ds ≤ 1) : SeqAt.shaped (.list ds) = true ∧ SeqAt.shaped (.tuple ds) = true := by
  constructor <;>
  · unfold SeqAt.shaped
    rw [Bool.and_eq_true]
    refine ⟨by simpa only [PyData.canLay0] using h, decide_eq_true ?_⟩
    simp only [PyData.depth]
    omega
def rEE (K : PySem.W.Frag) (g : Bool → Bool) : R2 := fun x y H Q => ∃ a b xs, x = .ref a ∧ y = .ref b ∧ ((SqL K H a xs ∧ SqL K H b []) ∨ (SqT K H a xs ∧ SqT K H b [])) ∧ Datas H xs ∧ Q (.bl (g xs.isEmpty)) H
theorem eqv_empty {K : PySem.W.Frag} {H : Hp} {xs : List V} {ds : List PyData} (h : DpAll K H xs ds) : PyData.eqvAll ds [] = xs.isEmpty := by
  cases h with
  | nil => rfl
  | cons a b => rfl
theorem op_eqE {X : Cx} (hu : X.A.units + 64 < cLine) : OpR X (compareOp .Eq) (rEE X.K id) := by
  intro pins s σ H x y v u Q I rx ry h
  obtain ⟨a, b, xs, rfl, rfl, hs, hd, q⟩ := h
  obtain ⟨ds, h1, h2, h3⟩ := hd.dp (K := X.K)
  have e := eqv_empty h1
  rcases hs with ⟨s1, s2⟩ | ⟨s1, s2⟩
  · exact op_eqD hu pins s σ H _ _ v u Q I rx ry ⟨_, _, .lst s1 h1, .lst s2 .nil, (shaped_of h2 h3).1, rfl, by rw [show PyData.eqv (.list ds) (.list []) = PyData.eqvAll ds [] from rfl, e]; exact q⟩
  · exact op_eqD hu pins s σ H _ _ v u Q I rx ry ⟨_, _, .tup s1 h1, .tup s2 .nil, (shaped_of h2 h3).2, rfl, by rw [show PyData.eqv (.tuple ds) (.tuple []) = PyData.eqvAll ds [] from rfl, e]; exact q⟩
theorem op_neE {X : Cx} (hu : X.A.units + 64 < cLine) : OpR X (compareOp .NotEq) (rEE X.K not) := by
  intro pins s σ H x y v u Q I rx ry h
  obtain ⟨a, b, xs, rfl, rfl, hs, hd, q⟩ := h
  obtain ⟨ds, h1, h2, h3⟩ := hd.dp (K := X.K)
  have e := eqv_empty h1
  rcases hs with ⟨s1, s2⟩ | ⟨s1, s2⟩
  · exact op_neD hu pins s σ H _ _ v u Q I rx ry ⟨_, _, .lst s1 h1, .lst s2 .nil, (shaped_of h2 h3).1, rfl, by rw [show PyData.eqv (.list ds) (.list []) = PyData.eqvAll ds [] from rfl, e]; exact q⟩
  · exact op_neD hu pins s σ H _ _ v u Q I rx ry ⟨_, _, .tup s1 h1, .tup s2 .nil, (shaped_of h2 h3).2, rfl, by rw [show PyData.eqv (.tuple ds) (.tuple []) = PyData.eqvAll ds [] from rfl, e]; exact q⟩
section
variable {X : Cx} {K : PySem.W.Frag} (h : X.K = K)
include h
theorem kop_eqE (hu : X.A.units + 64 < cLine) : OpR X (compareOp .Eq) (rEE K id) := h ▸ op_eqE hu
theorem kop_neE (hu : X.A.units + 64 < cLine) : OpR X (compareOp .NotEq) (rEE K not) := h ▸ op_neE hu
end
end HL

set_option Elab.async false
set_option linter.all false
set_option maxRecDepth 100000
set_option maxHeartbeats 8000000
namespace HL
open PySem PySem.Spec L2
open PyProof.Rows (envOfC)
section
variable {P : Program} {w : World} {K : PySem.W.Frag} {mg : Str → Option Value} {base : Heap}
def spNeedFew : Sp := fun vs H Q _ => ∃ n ts v, vs = [v] ∧ WebV H n ts v ∧ ts.length ≤ 10 ∧ ∀ H', Same H H' → Q .non H'
theorem ok_need_few (T : TX K mg) : Cal P w K mg base 1 "need_few" spNeedFew := by
  refine cal_of T.d_need_few sc_need_few (fun vs H Q E h => ?_) (fun f cdv A outer s H vs Q E hr h => ?_)
  · obtain ⟨n, ts, v, rfl, _⟩ := h
    rfl
  · obtain ⟨n, ts, v, rfl, ⟨p, x, rfl, hp, ⟨p2, xs, rfl, hp2, pr⟩⟩, hl, q⟩ := h
    obtain ⟨t, c_MOST_TIES⟩ := T.c_MOST_TIES
    have hxs : xs.length = ts.length := (Paired.length pr).symm
    refine ⟨_, (pss_one (ps_if (pt_cmpR op_gt (pe_callB (kcall_len (K := K) rfl) (by rfl) T.b_len bt_len (pa_cons (pe_ix (kix_tup (K := K) rfl) (pv 0) pe_int (fun _ _ => rfl)) pa_nil)) (pe_const c_MOST_TIES) (nomark _)) pss_never pss_nil)), ?_⟩
    refine ⟨_, rfl, p, _, 1, _, rfl, rfl, sqT hp, atI_nat (j := 1) rfl, p2, _, rfl, .inr (sqT hp2), _, _, rfl, rfl, false, congrArg V.bl (decide_eq_false (by omega)), ?_⟩
    refine iteF ?_
    exact q _ (Same.refl _)
def spRaised : Sp := fun vs H Q _ => ∃ (p : List Int) (v : V) (i : Nat), vs = [v, .int i] ∧ IntsV H p v ∧ i < p.length ∧ p.length ≤ 100 ∧ ∀ H' r, Same H H' → TupAt H' r (raise p i) → Q (.ref r) H'
theorem ok_raised (T : TX K mg) : Cal P w K mg base 1 "raised" spRaised := by
  refine cal_of T.d_raised sc_raised (fun vs H Q E h => ?_) (fun f cdv A outer s H vs Q E hr h => ?_)
  · obtain ⟨p, v, i, rfl, _⟩ := h
    rfl
  · obtain ⟨p, v, i, rfl, ⟨a, rfl, ha⟩, hi, hl, q⟩ := h
    refine ⟨_, (pss_one (ps_ret (pe_op op_catS (pe_op op_catS (pe_slice sl_s (pv 0) po_none (po_some (pv 1))) (pe_tup (pa_cons (pe_op op_add (pe_ix (kix_tup (K := K) rfl) (pv 0) (pv 1) (fun _ _ => rfl)) pe_int) pa_nil))) (pe_slice sl_s (pv 0) (po_some (pe_op op_add (pv 1) pe_int)) po_none)))), ?_⟩
    have gi : (p.map V.int)[i]? = some (.int (p.getD i 0)) := by
      rw [List.getElem?_map, List.getD_eq_getElem?_getD, List.getElem?_eq_getElem hi]; rfl
    refine ⟨_, rfl, _, rfl, _, rfl, a, _, rfl, ha, fun H1 b s1 hb => ?_⟩
    rw [cut_take] at hb
    refine ⟨_, rfl, _, rfl, a, _, i, _, rfl, rfl, sqT (s1 _ _ ha), atI_nat gi, p.getD i 0, 1, rfl, rfl, show 1 ≤ sizeLine by decide, fun c hc => ?_⟩
    have s2 : Same H1 (upd H1 c (.tup [.int (p.getD i 0 + 1)])) := same_new hc
    refine ⟨b, c, _, _, rfl, rfl, s2 _ _ hb, upd_same, ?_, fun H3 d s3 hd => ?_⟩
    · rw [List.length_take]; show min _ _ + 1 ≤ 100000; rw [List.length_map]; omega
    have s13 : Same H H3 := fun x o h => s3 x o (s2 x o (s1 x o h))
    refine ⟨_, rfl, _, rfl, _, _, rfl, rfl, _, rfl, a, _, rfl, s13 _ _ ha, fun H4 e s4 he => ?_⟩
    have e1 : ((i : Int) + 1) = ((i + 1 : Nat) : Int) := rfl
    rw [e1, cut_drop] at he
    refine ⟨d, e, _, _, rfl, rfl, s4 _ _ hd, he, ?_, fun H5 g s5 hg => ?_⟩
    · rw [List.length_append, List.length_take, List.length_drop, List.length_map]; show min _ _ + 1 + _ ≤ 100000; omega
    refine q H5 g (fun x o h => s5 x o (s4 x o (s13 x o h))) ?_
    show H5 g = some (.tup ((raise p i).map V.int))
    rw [hg, raise_cut hi, List.map_append, List.map_append, List.map_take, List.map_drop]
    rfl
theorem emb_len (kvs : List (List Int × Int)) : (kvs.map emb).length = kvs.length := List.length_map ..
/-- a dict of kvs, locked -/
def DictV (H : Hp) (kvs : List (List Int × Int)) (v : V) : Prop := ∃ d od, v = .ref d ∧ H d = some (.frz od (.dT (kvs.map emb)))
def spTermsOf : Sp := fun vs H Q _ => ∃ n ts v, vs = [v] ∧ WebV H n ts v ∧ 1 ≤ n ∧ n ≤ 5 ∧ (∀ t ∈ ts, t.1 < n ∧ t.2 < n) ∧ ts.length ≤ 10 ∧ ∀ H' r, Same H H' → DictV H' (terms n ts) r → Q r H'
theorem dget_emb {H : Hp} {d b : Addr} {kvs : List (List Int × Int)} {p : List Int} {c : Int} (h : Rd H d (.dT (kvs.map emb))) (hb : TupAt H b p) (nd : Nd kvs) (m : (p, c) ∈ kvs) : DGet H d (.ref b) (some (.int c)) :=
  .inr ⟨_, p.map Sum.inl, b, h, rfl, by rw [inl_kV]; exact hb, (valV_mem nd m).symm⟩
theorem dget2_emb {H : Hp} {d b : Addr} {kvs : List (List Int × Int)} {p : List Int} (h : Rd H d (.dT (kvs.map emb))) (hb : TupAt H b p) : DGet H d (.ref b) (valV (kvs.map emb) (p.map Sum.inl)) :=
  .inr ⟨_, p.map Sum.inl, b, h, rfl, by rw [inl_kV]; exact hb, rfl⟩
theorem dput_emb {H : Hp} {d b : Addr} {kvs : List (List Int × Int)} {p : List Int} {v : Int} (h : H d = some (.dT (kvs.map emb))) (hb : TupAt H b p) (hl : kvs.length < sizeLine) : DPut H d (.ref b) (.int v) (upd H d (.dT ((aput kvs p v).map emb))) :=
  .inr ⟨_, p.map Sum.inl, b, h, rfl, by rw [inl_kV]; exact hb, by rw [List.length_map]; exact hl, by rw [putK_emb]⟩
theorem pick_idx {α : Type} (l : List α) (q : α → Bool) : ∀ k, k ≤ l.length → Paired (fun i t => l[i]? = some t) ((List.range k).filter (keepAt l q)) ((l.take k).filter q)
  | 0, _ => .nil
  | k + 1, hk => by
    have e : l[k]? = some l[k] := List.getElem?_eq_getElem (by omega)
    rw [List.range_succ, List.filter_append, List.filter_cons, List.filter_nil, keepAt_some e, List.take_succ, e, List.filter_append]
    have ih := pick_idx l q k (by omega)
    by_cases c : q l[k] = true
    · rw [if_pos c]
      simp only [Option.toList_some, List.filter_cons, c, if_true, List.filter_nil]
      exact Paired.snoc ih e
    · rw [if_neg c]
      simp only [Option.toList_some, List.filter_cons, c, if_false, List.filter_nil, List.append_nil]
      simpa using ih
theorem pick_rel {α β : Type} {F : α → β → Prop} {l : List α} : ∀ {m : List Nat} {ts : List α} {ys : List β}, Paired (fun i t => l[i]? = some t) m ts → Paired (fun i y => ∃ t, l[i]? = some t ∧ F t y) m ys → Paired F ts ys
  | _, _, _, .nil, h => by cases h; exact .nil
  | _, _, _, .cons e r, h => by
    cases h with
    | cons h1 h2 =>
      obtain ⟨t, et, f⟩ := h1
      rw [e] at et
      cases et
      exact .cons f (pick_rel r h2)
theorem pick_allR {α β : Type} {F : α → β → Prop} {l : List α} {q : α → Bool} {ys : List β} (h : Paired (fun i y => ∃ t, l[i]? = some t ∧ F t y) ((List.range l.length).filter (keepAt l q)) ys) : Paired F (l.filter q) ys := by
  have := pick_rel (pick_idx l q l.length (Nat.le_refl _)) h
  rwa [List.take_length] at this
theorem prows {H : Hp} : ∀ {l : List (List Int × Int)} {ys : List V}, Paired (fun (kc : List Int × Int) y => ∃ t b, y = V.ref t ∧ H t = some (.tup [.ref b, .int kc.2]) ∧ TupAt H b kc.1) l ys →
    ∃ rs : List PRow, ys = rs.map (fun r => V.ref r.t) ∧ (∀ r ∈ rs, H r.t = some (.tup [.ref r.b, .int r.c]) ∧ TupAt H r.b r.k) ∧ rs.map (fun r => (r.k, r.c)) = l
  | _, _, .nil => ⟨[], rfl, (fun _ h => nomatch h), rfl⟩
  | _, _, .cons ⟨t, b, e, h1, h2⟩ r => by
    obtain ⟨rs, g1, g2, g3⟩ := prows r
    refine ⟨⟨t, b, _, _⟩ :: rs, by rw [List.map_cons, ← g1, e], fun x hx => ?_, by rw [List.map_cons, g3]⟩
    rcases List.mem_cons.mp hx with rfl | hx
    · exact ⟨h1, h2⟩
    · exact g2 x hx
def put1 (l : List (List Int × Int)) (p : List Int) (i : Nat) (s c : Int) : List (List Int × Int) := aput l (raise p i) (aget l (raise p i) + s * c)
def half (t : Tie) (l : List (List Int × Int)) (p : List Int) (c : Int) : Nat → List (List Int × Int)
  | 0 => l
  | 1 => put1 l p t.1 1 c
  | _ => put1 (put1 l p t.1 1 c) p t.2 (-1) c
theorem half_two (t : Tie) (l : List (List Int × Int)) (p : List Int) (c : Int) : half t l p c 2 = tstep1 t l (p, c) := rfl
theorem half_len (t : Tie) (l : List (List Int × Int)) (p : List Int) (c : Int) : ∀ j, (half t l p c j).length ≤ l.length + 2
  | 0 => by show l.length ≤ _; omega
  | 1 => by
    have := len_put l (raise p t.1) (aget l (raise p t.1) + 1 * c)
    show (put1 l p t.1 1 c).length ≤ _
    unfold put1; omega
  | j + 2 => by
    have h1 := len_put l (raise p t.1) (aget l (raise p t.1) + 1 * c)
    have h2 := len_put (put1 l p t.1 1 c) (raise p t.2) (aget (put1 l p t.1 1 c) (raise p t.2) + (-1) * c)
    show (put1 (put1 l p t.1 1 c) p t.2 (-1) c).length ≤ _
    unfold put1 at *; omega
/-- the slots of terms_of -/
def TInv (H0 : Hp) (v : V) (found : List (List Int × Int)) (σ : L2.St) (H : Hp) : Prop := ∃ d a2 a3 a4 a5 a6 a7 a8, σ = [some v, some (.ref d), a2, a3, a4, a5, a6, a7, a8] ∧ Same H0 H ∧ H0 d = none ∧ H d = some (.dT (found.map emb))
def TMid (H0 : Hp) (v : V) (t : Tie) (d : Addr) (od : Obj) (found later : List (List Int × Int)) (σ : L2.St) (H : Hp) : Prop :=
  ∃ l a5 a6 a7 a8, σ = [some v, some (.ref d), some (.int t.1), some (.int t.2), some (.ref l), a5, a6, a7, a8] ∧ Same H0 H ∧ H0 l = none ∧ H d = some (.frz od (.dT (found.map emb))) ∧ H l = some (.dT (later.map emb))
def TInn (H0 : Hp) (v : V) (t : Tie) (d l b q1 q2 q3 : Addr) (od : Obj) (p : List Int) (found later : List (List Int × Int)) (σ : L2.St) (H : Hp) : Prop :=
  ∃ a6 a7 a8, σ = [some v, some (.ref d), some (.int t.1), some (.int t.2), some (.ref l), some (.ref b), a6, a7, a8] ∧ Same H0 H ∧ H d = some (.frz od (.dT (found.map emb))) ∧ H l = some (.dT (later.map emb)) ∧ TupAt H b p ∧
    H q1 = some (.tup [.int t.1, .int 1]) ∧ H q2 = some (.tup [.int t.2, .int (-1)]) ∧ H q3 = some (.tup [.ref q1, .ref q2])
theorem ok_terms_of (T : TX K mg) : Cal P w K mg base 2 "terms_of" spTermsOf := by
  refine cal_of T.d_terms_of sc_terms_of (fun vs H Q E h => ?_) (fun f cdv A outer s H vs Q E hr h => ?_)
  · obtain ⟨n, ts, v, rfl, _⟩ := h
    rfl
  · obtain ⟨n, ts, v, rfl, ⟨pw, xw, rfl, hpw, ⟨p2, xs, rfl, hp2, pr⟩⟩, n1, n5, ht, hl, q⟩ := h
    have hxs : xs.length = ts.length := (Paired.length pr).symm
    refine ⟨_, (pss_cons (ps_set (i := 1) sc_terms_of.nd rfl (Or.inl rfl) (pe_tone (hu64 hr) (pe_op (kop_repN (K := K) rfl) (pe_tup (pa_cons pe_int pa_nil)) (pe_ix (kix_tup (K := K) rfl) (pv 0) pe_int (fun _ _ => rfl))) pe_int)) (pss_cons (ps_for PassesOwn.never rfl (pi_tup (pe_ix (kix_tup (K := K) rfl) (pv 0) pe_int (fun _ _ => rfl))) (kpg_tup (K := K) (n := 2) rfl rfl (pgs_cons (pg_name (i := 2) sc_terms_of.nd rfl (Or.inl rfl)) (pgs_cons (pg_name (i := 3) sc_terms_of.nd rfl (Or.inl rfl)) pgs_nil))) (pss_cons (ps_set (i := 4) sc_terms_of.nd rfl (Or.inr rfl) pe_dnewT) (pss_cons (ps_for PassesOwn.never rfl (pi_keys (pe_frz (pv 1))) (pg_name (i := 5) sc_terms_of.nd rfl (Or.inl rfl)) (pss_one (ps_for PassesOwn.never rfl (pi_tup (pe_tup (pa_cons (pe_tup (pa_cons (pv 2) (pa_cons pe_int pa_nil))) (pa_cons (pe_tup (pa_cons (pv 3) (pa_cons (pe_un un_neg pe_int) pa_nil))) pa_nil)))) (kpg_tup (K := K) (n := 2) rfl rfl (pgs_cons (pg_name (i := 6) sc_terms_of.nd rfl (Or.inl rfl)) (pgs_cons (pg_name (i := 7) sc_terms_of.nd rfl (Or.inl rfl)) pgs_nil))) (pss_cons (ps_set (i := 8) sc_terms_of.nd rfl (Or.inl rfl) (pe_k (ok_raised T) hr (pa_cons (pv 5) (pa_cons (pv 6) pa_nil)))) (pss_one (ps_dput (hu_of hr) (pv 4) (pv 8) (pe_op op_add (pe_dget2 (hu_of hr) (pv 4) (pv 8) pe_int ⟨rfl, rfl, rfl, rfl⟩) (pe_op op_mul (pv 7) (pe_dget (hu_of hr) (pv 1) (pv 5) (fun _ _ => rfl)))) rfl)))))) (pss_one (ps_set (i := 1) sc_terms_of.nd rfl (Or.inl rfl) (pe_callTy (cr_dictT rfl (hu64 hr)) (by rfl) T.b_dict bt_dict (pa_cons (pe_lc (own := [("powers", 5)]) rfl sc_terms_of.nd (pi_keys (pe_frz (pv 4))) (blkOk_by (N := ["web", "found", "one", "other", "later", "powers", "place", "sign", "there"]) (sc := defScope s_terms_of) (by decide +kernel)) (fun _ _ _ _ _ => (pg_name (i := 5) sc_terms_of.nd rfl (Or.inl rfl))) (fun _ _ _ _ _ => (pts_one (pt_cmpR op_ne (pe_dget (hu_of hr) (pv 4) (pv 5) (fun _ _ => rfl)) pe_int (nomark _)))) (fun _ _ _ _ _ => (pe_tup (pa_cons (pv 5) (pa_cons (pe_dget (hu_of hr) (pv 4) (pv 5) (fun _ _ => rfl)) pa_nil))))) pa_nil))))))) (pss_one (ps_ret (pe_frz (pv 1)))))), ?_⟩
    refine fun d hd => ⟨show 1 ≤ sizeLine by decide, fun z hz => ⟨_, rfl, pw, [.int n, .ref p2], 0, .int n, rfl, rfl, ?_⟩⟩
    have s1 : Same H (upd H d (.dT [])) := same_new hd
    have s2 := s1.trans (same_new (o := .tup [.int 0]) hz)
    refine ⟨sqT (s2 _ _ hpw), atI_nat (j := 0) rfl, z, 0, n, rfl, rfl, upd_same, n1, by omega, fun b H3 s3 hb => ?_⟩
    have s03 : Same H H3 := fun x o h => s3 x o (s2 x o h)
    have hd3 : H3 d = some (.dT []) := s3 _ _ ((same_new hz) _ _ upd_same)
    refine ⟨b, zeros n, 1, rfl, rfl, hb, hd3, ?_⟩
    have s4 : Same H (upd H3 d (.dT [emb (zeros n, 1)])) := same_mut s03 hd
    refine ⟨_, rfl, pw, _, 1, _, rfl, rfl, sqT (s4 _ _ hpw), atI_nat (j := 1) rfl, p2, rfl, ⟨_, sqT (s4 _ _ hp2)⟩, ?_⟩
    refine for_it (walk_tup (xs := xs)) (fun i σ H1 => TInv H (.ref pw) (terms n (ts.take i)) σ H1) ⟨d, _, _, _, _, _, _, _, rfl, s4, hd, upd_same⟩ (fun i σ H1 _ h => ?_) (fun i x σ H2 H1 hi h y => ?_) (fun σ H1 h => ?_)
    · obtain ⟨_, _, _, _, _, _, _, _, _, sm, _⟩ := h
      exact same_seqT sm (sqT hp2)
    · obtain ⟨d, a2, a3, a4, a5, a6, a7, a8, rfl, sm, hd0, hd1⟩ := h
      obtain ⟨rfl, hx⟩ := y
      obtain ⟨t, hti, ⟨pt, rfl, hpt⟩⟩ := paired_at pr hx
      have htm := List.mem_of_getElem? hti
      refine ⟨pt, _, rfl, sqT (sm _ _ hpt), rfl, _, _, rfl, _, _, rfl, rfl, ?_⟩
      refine fun l hl1 => ?_
      have hl0 : H l = none := sm.free hl1
      have s5 : Same H1 (upd H1 l (.dT [])) := same_new hl1
      refine ⟨_, rfl, d, _, rfl, s5 _ _ hd1, (show Mut (some (.dT _)) from trivial), fun od => ⟨d, od, rfl, .inr ⟨_, upd_same, ?_⟩⟩⟩
      have hld : d ≠ l := fun e => by rw [e, hl1] at hd1; exact nomatch hd1
      have hm : ∀ q ∈ terms n (ts.take i), POk n (ts.take i).length q.1 := fun q hq => ((terms_all (fun t ht' => ht t (List.mem_of_mem_take ht'))).2.2.2 q hq).1
      have hnd : Nd (terms n (ts.take i)) := (terms_all (fun t ht' => ht t (List.mem_of_mem_take ht'))).1
      have hlen : (terms n (ts.take i)).length ≤ 1024 := by
        refine Nat.le_trans (terms_all (fun t ht' => ht t (List.mem_of_mem_take ht'))).2.2.1 ?_
        have : (ts.take i).length ≤ 10 := by rw [List.length_take]; omega
        exact Nat.le_trans (Nat.pow_le_pow_right (by decide) this) (by decide)
      generalize efd : terms n (ts.take i) = found at *
      have ss : Same H (upd (upd H1 l (.dT [])) d (.frz od (.dT (found.map emb)))) := same_mut (sm.trans s5) hd0
      refine for_it (walk_keysT (kvs := found.map emb)) (fun i σ H1 => TMid H (.ref pw) t d od found (tlater (found.take i) t) σ H1) ⟨l, _, _, _, _, rfl, ss, hl0, upd_same, ?_⟩ (fun i σ H1 _ h => ?_) (fun i x σ H2 H1 hi h y => ?_) (fun σ H1 h => ?_)
      · rw [upd_ne hld.symm]; exact upd_same
      · obtain ⟨_, _, _, _, _, _, _, _, h, _⟩ := h
        exact h
      · obtain ⟨l, a5, a6, a7, a8, rfl, sm2, hl0, hdd, hll⟩ := h
        obtain ⟨rfl, k, vv, b, hk, rfl, hb⟩ := y
        have hi' : i < found.length := by rw [emb_len] at hi; exact hi
        have e1 : found[i]? = some found[i] := List.getElem?_eq_getElem hi'
        generalize hpc : found[i] = pc at e1
        obtain ⟨p, c⟩ := pc
        have hk2 : k = p.map Sum.inl := by
          rw [List.getElem?_map, e1] at hk
          exact (congrArg Prod.fst (Option.some.inj hk)).symm
        subst hk2
        have hbt : TupAt H1 b p := by rw [inl_kV] at hb; exact hb
        have hpm : (p, c) ∈ found := List.mem_of_getElem? e1
        have hpl : p.length = n := (hm _ hpm).1
        refine ⟨_, rfl, show 2 ≤ sizeLine by decide, fun q1 h1 => ⟨_, rfl, 1, rfl, show 2 ≤ sizeLine by decide, fun q2 h2 => ⟨show 2 ≤ sizeLine by decide, fun q3 h3 => ⟨q3, rfl, ⟨_, sqT upd_same⟩, ?_⟩⟩⟩⟩
        have t1 : Same H1 (upd H1 q1 (.tup [.int t.1, .int 1])) := same_new h1
        have t2 : Same _ (upd (upd H1 q1 (.tup [.int t.1, .int 1])) q2 (.tup [.int t.2, .int (-1)])) := same_new h2
        have t3 : Same _ (upd (upd (upd H1 q1 (.tup [.int t.1, .int 1])) q2 (.tup [.int t.2, .int (-1)])) q3 (.tup [.ref q1, .ref q2])) := same_new h3
        have t13 := t1.trans (t2.trans t3)
        refine for_it (walk_tup (xs := [.ref q1, .ref q2])) (fun j σ H2 => TInn H (.ref pw) t d l b q1 q2 q3 od p found (half t (tlater (found.take i) t) p c j) σ H2) ⟨_, _, _, rfl, sm2.trans t13, t13 _ _ hdd, t13 _ _ hll, t13 _ _ hbt, t3 _ _ (t2 _ _ upd_same), t3 _ _ upd_same, upd_same⟩ (fun j σ H2 _ h => ?_) (fun j x σ H3 H2 hj h y => ?_) (fun σ H2 h => ?_)
        · obtain ⟨_, _, _, _, _, _, _, _, _, _, h⟩ := h
          exact sqT h
        · obtain ⟨a6, a7, a8, rfl, sm3, hdd2, hll2, hb2, g1, g2, g3⟩ := h
          obtain ⟨rfl, hx⟩ := y
          have hx' : ∃ (q : Addr) (pl : Nat) (sg : Int), x = .ref q ∧ H2 q = some (.tup [.int pl, .int sg]) ∧ pl < n ∧ (-(2 ^ 64) < sg ∧ sg < 2 ^ 64) ∧ half t (tlater (found.take i) t) p c (j + 1) = put1 (half t (tlater (found.take i) t) p c j) p pl sg c := by
            match j, hx with
            | 0, hx => exact ⟨q1, t.1, 1, (Option.some.inj hx).symm, g1, (ht t htm).1, by decide, rfl⟩
            | 1, hx => exact ⟨q2, t.2, -1, (Option.some.inj hx).symm, g2, (ht t htm).2, by decide, rfl⟩
            | j + 2, hx => simp at hx
          obtain ⟨q, pl, sg, rfl, hq, hpl', hsg, eh⟩ := hx'
          refine ⟨q, _, rfl, sqT hq, rfl, _, _, rfl, _, _, rfl, rfl, ?_⟩
          refine ⟨_, rfl, _, rfl, p, .ref b, pl, rfl, ⟨b, rfl, hb2⟩, by omega, by omega, fun H4 r s4 hr4 => ?_⟩
          have hll4 := s4 _ _ hll2
          refine ⟨_, rfl, l, rfl, .inr ⟨_, .inl hll4⟩, _, rfl, _, dget2_emb (.inl hll4) hr4, _, rfl, _, rfl, _, rfl, d, _, rfl, dget_emb (.inr ⟨od, s4 _ _ hdd2⟩) (s4 _ _ hb2) hnd hpm, _, _, rfl, rfl, .inl hsg, _, _, valV_aget _ _, rfl, ?_⟩
          have hlen1 : (tlater (found.take i) t).length ≤ 2 * (found.take i).length := (tlater_ok (ht t htm).1 (ht t htm).2 fun q hq => hm q (List.mem_of_mem_take hq)).2.2.1
          have hlen2 := half_len t (tlater (found.take i) t) p c j
          have hlen3 : (found.take i).length ≤ found.length := List.length_take_le' ..
          refine ⟨_, rfl, _, rfl, l, _, rfl, dput_emb hll4 hr4 (lt5 (by omega)), ?_⟩
          have nl : ∀ (x : Addr) (o D : HO), H4 x = some o → (∀ kvs, o ≠ .dT kvs) → upd H4 l D x = some o := fun x o D hx hn => by
            rw [upd_ne (fun e => by rw [e, hll4] at hx; exact hn _ (Option.some.inj hx).symm)]
            exact hx
          exact ⟨_, _, _, rfl, same_mut (sm3.trans s4) hl0, nl _ _ _ (s4 _ _ hdd2) (fun _ z => nomatch z), by rw [eh]; exact upd_same, nl _ _ _ (s4 _ _ hb2) (fun _ z => nomatch z), nl _ _ _ (s4 _ _ g1) (fun _ z => nomatch z), nl _ _ _ (s4 _ _ g2) (fun _ z => nomatch z), nl _ _ _ (s4 _ _ g3) (fun _ z => nomatch z)⟩
        · obtain ⟨a6, a7, a8, rfl, sm3, hdd2, hll2, hb2, _⟩ := h
          refine ⟨l, _, _, _, _, rfl, sm3, hl0, hdd2, ?_⟩
          have e3 : tlater (found.take (i + 1)) t = half t (tlater (found.take i) t) p c 2 := by
            rw [half_two]
            unfold tlater
            rw [List.take_succ, e1, List.foldl_append]
            rfl
          rw [e3]
          exact hll2
      · obtain ⟨l, a5, a6, a7, a8, rfl, sm2, hl0, hdd, hll⟩ := h
        rw [emb_len, List.take_length] at hll
        generalize elt : tlater found t = later at hll
        have hlt := tlater_ok (ht t htm).1 (ht t htm).2 hm
        rw [elt] at hlt
        refine ⟨_, rfl, l, _, rfl, hll, (show Mut (some (.dT _)) from trivial), fun od2 => ⟨l, od2, rfl, .inr ⟨_, upd_same, fun D hD => ?_⟩⟩⟩
        have sm3 : Same H (upd H1 l (.frz od2 (.dT (later.map emb)))) := same_mut sm2 hl0
        have hl3 : upd H1 l (.frz od2 (.dT (later.map emb))) l = some (.frz od2 (.dT (later.map emb))) := upd_same
        generalize upd H1 l (.frz od2 (.dT (later.map emb))) = H3 at *
        refine lc_rel (walk_keysT (kvs := later.map emb)) hD (by rw [emb_len]; omega) (keepAt later fun kv => decide (kv.2 ≠ 0)) (fun i y H => ∃ kc, later[i]? = some kc ∧ ∃ t b, y = V.ref t ∧ H t = some (.tup [.ref b, .int kc.2]) ∧ TupAt H b kc.1) (fun i v H H' h e => ?_) (fun H2 sm => sm _ _ hl3) (fun i x H5 H4 hi sm4 hy K1 K2 k1 k2 => ?_) (fun H4 ys sm4 hl4 pr2 => ?_)
        · obtain ⟨kc, g1, t, b, g2, g3, g4⟩ := h
          exact ⟨kc, g1, t, b, g2, e _ _ g3, e _ _ g4⟩
        · obtain ⟨rfl, k, vv, b, hk, rfl, hb⟩ := hy
          have hi' : i < later.length := by rw [emb_len] at hi; exact hi
          have e1 : later[i]? = some later[i] := List.getElem?_eq_getElem hi'
          generalize hpc : later[i] = pc at e1
          obtain ⟨p, c⟩ := pc
          have hk2 : k = p.map Sum.inl := by
            rw [List.getElem?_map, e1] at hk
            exact (congrArg Prod.fst (Option.some.inj hk)).symm
          subst hk2
          have hbt : TupAt H4 b p := by rw [inl_kV] at hb; exact hb
          have hpm : (p, c) ∈ later := List.mem_of_getElem? e1
          have hg : DGet H4 l (.ref b) (some (.int c)) := dget_emb (.inr ⟨od2, sm4 _ _ hl3⟩) hbt hlt.1 hpm
          rw [keepAt_some e1] at k1 k2
          refine ⟨rfl, _, rfl, _, rfl, l, _, rfl, hg, rfl, _, rfl, ?_⟩
          by_cases hc : c = 0
          · subst hc
            exact iteF (k2 _ rfl (Same.refl _))
          · rw [decide_eq_false (show ¬ V.int c = V.int 0 from fun z => hc (V.int.inj z))]
            refine iteT (B := K2 H4) ⟨_, rfl, _, rfl, _, rfl, l, _, rfl, hg, show 2 ≤ sizeLine by decide, fun a ha => ?_⟩
            have s5 : Same H4 (upd H4 a (.tup [.ref b, .int c])) := same_new ha
            exact k1 _ _ (decide_eq_true hc) s5 ⟨_, e1, a, b, rfl, upd_same, s5 _ _ hbt⟩
        · rw [emb_len] at pr2
          obtain ⟨rs, g1, g2, g3⟩ := prows (pick_allR pr2)
          subst g1
          refine ⟨D, rs, rfl, sqL hl4, g2, ?_, fun d2 hd2 => ?_⟩
          · have : rs.map (·.k) = (later.filter fun kv => decide (kv.2 ≠ 0)).map (·.1) := by rw [← g3, List.map_map]; rfl
            rw [this]
            exact Nd_filter _ hlt.1
          · have s6 := sm3.trans sm4
            refine ⟨d2, _, _, _, _, _, _, _, rfl, s6.trans (same_new hd2), s6.free hd2, ?_⟩
            have e4 : terms n (ts.take (i + 1)) = rs.map fun r => (r.k, r.c) := by
              rw [g3, ← elt, ← efd]
              unfold terms
              rw [List.take_succ, hti, List.foldl_append]
              rfl
            rw [e4, List.map_map]
            exact upd_same
    · obtain ⟨d, a2, a3, a4, a5, a6, a7, a8, rfl, sm, hd0, hd1⟩ := h
      rw [hxs, List.take_length] at hd1
      refine ⟨_, rfl, d, _, rfl, hd1, (show Mut (some (.dT _)) from trivial), fun od => ?_⟩
      exact q _ _ (same_mut sm hd0) ⟨d, od, rfl, upd_same⟩
end
end HL

set_option Elab.async false
set_option linter.all false
set_option maxRecDepth 100000
set_option maxHeartbeats 8000000
namespace HL
open PySem PySem.Spec L2
open PyProof.Rows (envOfC)
theorem walk_zipT {K : PySem.W.Frag} {a b : Addr} {xs ys : List V} {n : Nat} (hn : n = min xs.length ys.length) : Walk (RZ.ItzT K a b) n (fun H => SqT K H a xs ∧ SqT K H b ys) (YPair (fun i => xs[i]?) (fun i => ys[i]?)) := by
  subst hn
  refine ⟨fun i _ hi q => ?_, fun _ q => ⟨xs, ys, q.1, q.2, by omega⟩, fun i H v H' _ q y => ?_⟩
  · have h1 : i < xs.length := by omega
    have h2 : i < ys.length := by omega
    exact ⟨xs, ys, xs[i], ys[i], q.1, q.2, by simp [h1], by simp [h2]⟩
  · obtain ⟨T, x, z, h1, h2, h3, h4, h5⟩ := y
    exact ⟨T, x, z, h1, h2, h3, h4 xs q.1, h5 ys q.2⟩
theorem WebOk.lt {n : Nat} {ts : List Tie} (ok : WebOk n ts) : ∀ t ∈ ts, t.1 < n ∧ t.2 < n := fun t ht => by have := ok.tie t ht; omega
section
variable {P : Program} {w : World} {K : PySem.W.Frag} {mg : Str → Option Value} {base : Heap}
def spTerms : Sp := fun vs H Q _ => ∃ n ts v, vs = [v] ∧ WebV H n ts v ∧ WebOk n ts ∧ ∀ H' r, Same H H' → DictV H' (terms n ts) r → Q r H'
theorem ok_terms (T : TX K mg) : Cal P w K mg base 5 "terms" spTerms := by
  refine cal_of T.d_terms sc_terms (fun vs H Q E h => ?_) (fun f cdv A outer s H vs Q E hr h => ?_)
  · obtain ⟨n, ts, v, rfl, _⟩ := h
    rfl
  · obtain ⟨n, ts, v, rfl, hw, ok, q⟩ := h
    refine ⟨_, (pss_cons (ps_expr (pe_k (ok_need_web T) hr (pa_cons (pv 0) pa_nil))) (pss_cons (ps_expr (pe_k (ok_need_few T) hr (pa_cons (pv 0) pa_nil))) (pss_one (ps_ret (pe_k (ok_terms_of T) hr (pa_cons (pv 0) pa_nil)))))), ?_⟩
    refine ⟨_, rfl, n, ts, v, rfl, hw, ok, fun H2 s2 => ⟨_, rfl, n, ts, v, rfl, WebV.t (Same.t s2) hw, ok.len, fun H3 s3 => ?_⟩⟩
    have s23 := s2.trans s3
    exact ⟨_, rfl, n, ts, v, rfl, WebV.t (Same.t s23) hw, ok.n1, ok.n5, ok.lt, ok.len, fun H4 r s4 hd => q H4 r (s23.trans s4) hd⟩
def spFN : Sp := fun vs H Q _ => ∃ i : Int, vs = [.int i] ∧ Q (.bl (decide (0 ≤ i))) H
theorem ok_is_from_nought (T : TX K mg) : Cal P w K mg base 1 "is_from_nought" spFN := by
  refine cal_of T.d_is_from_nought sc_is_from_nought (fun vs H Q E h => ?_) (fun f cdv A outer s H vs Q E hr h => ?_)
  · obtain ⟨i, rfl, _⟩ := h
    rfl
  · obtain ⟨i, rfl, q⟩ := h
    refine ⟨_, (pss_one (ps_ret (pe_and (pe_isi T.b_isinstance T.b_int bt_int (pv 0)) (pe_and (pe_not (pe_isi T.b_isinstance T.b_bool bt_bool (pv 0))) (pe_one (pe_cmpR op_ge (pv 0) pe_int (nomark _))))))), ?_⟩
    refine ⟨_, rfl, _, _, true, rfl, isk_ii, true, rfl, iteT ?_⟩
    exact ⟨_, rfl, _, _, false, rfl, isk_ib, false, rfl, true, rfl, iteT ⟨_, rfl, _, _, rfl, rfl, q⟩⟩
def spPowers : Sp := fun vs H Q _ => ∃ n ts p v u, vs = [v, u] ∧ IntsV H p v ∧ WebV H n ts u ∧ p.length = n ∧ n ≤ 5 ∧ (∀ x ∈ p, (0 : Int) ≤ x) ∧ ∀ H', Same H H' → Q (.bl true) H'
theorem ok_are_powers (T : TX K mg) : Cal P w K mg base 2 "are_powers" spPowers := by
  refine cal_of T.d_are_powers sc_are_powers (fun vs H Q E h => ?_) (fun f cdv A outer s H vs Q E hr h => ?_)
  · obtain ⟨n, ts, p, v, u, rfl, _⟩ := h
    rfl
  · obtain ⟨n, ts, ss, v, u, rfl, ⟨p, rfl, hp⟩, ⟨p2, x2, rfl, hp2, _⟩, hl, n5, h0, q⟩ := h
    have hlen : (ss.map V.int).length = n := by rw [List.length_map, hl]
    refine ⟨_, (pss_one (ps_ret (pe_and (pe_isi T.b_isinstance T.b_tuple bt_tuple (pv 0)) (pe_and (pe_cmpR op_eq (pe_callB (kcall_len (K := K) rfl) (by rfl) T.b_len bt_len (pa_cons (pv 0) pa_nil)) (pe_ix (kix_tup (K := K) rfl) (pv 1) pe_int (fun _ _ => rfl)) (nomark _)) (pe_one (pe_callB (kcr_all (K := K) rfl rfl) (by rfl) T.b_all bt_all (pa_cons (pe_lc (own := [("one", 2)]) rfl sc_are_powers.nd (pi_tup (pv 0)) (blkOk_by (N := ["thing", "web", "one"]) (sc := defScope s_are_powers) (by decide +kernel)) (fun _ _ _ _ _ => (pg_name (i := 2) sc_are_powers.nd rfl (Or.inl rfl))) (fun _ _ _ _ _ => pts_nil) (fun _ _ _ _ _ => (pe_k (ok_is_from_nought T) hr (pa_cons (pv 2) pa_nil)))) pa_nil))))))), ?_⟩
    refine ⟨_, rfl, _, _, true, rfl, isk_tt hp, true, rfl, iteT ?_⟩
    refine ⟨_, rfl, p, _, rfl, .inr (sqT hp), _, rfl, p2, _, 0, _, rfl, rfl, sqT hp2, atI_nat (j := 0) rfl, rfl, true, ?_, iteT ?_⟩
    · rw [hlen, decide_eq_true rfl]
    refine ⟨_, rfl, p, rfl, ⟨_, sqT hp⟩, fun D hD => ?_⟩
    refine lc_rel walk_tup hD (by omega) (fun _ => true) (fun i y H => y = .bl true) (fun _ _ _ _ h _ => h) (fun H2 sm => same_seqT sm (sqT hp)) (fun i x H2 H3 hi sm hy K1 K2 k1 k2 => ?_) (fun H2 ys sm hl2 pr2 => ?_)
    · obtain ⟨rfl, hx⟩ := hy
      obtain ⟨z, hz, rfl⟩ := int_at hx
      refine ⟨rfl, iteT (B := K2 H3) ⟨_, rfl, z, rfl, ?_⟩⟩
      rw [decide_eq_true (h0 z (List.mem_of_getElem? hz))]
      exact k1 _ _ rfl (Same.refl _) rfl
    · obtain ⟨bs, e1, e2⟩ := all_true (n := 0) (R := fun _ _ => True) pr2
      subst e1
      refine ⟨D, bs, rfl, sqL hl2, ?_⟩
      rw [e2]
      exact q _ sm
def spNeedPowers : Sp := fun vs H Q _ => ∃ n ts p v u, vs = [u, v] ∧ IntsV H p v ∧ WebV H n ts u ∧ WebOk n ts ∧ p.length = n ∧ (∀ x ∈ p, (0 : Int) ≤ x) ∧ ∀ H', Same H H' → Q .non H'
theorem ok_need_powers (T : TX K mg) : Cal P w K mg base 5 "need_powers" spNeedPowers := by
  refine cal_of T.d_need_powers sc_need_powers (fun vs H Q E h => ?_) (fun f cdv A outer s H vs Q E hr h => ?_)
  · obtain ⟨n, ts, p, v, u, rfl, _⟩ := h
    rfl
  · obtain ⟨n, ts, p, v, u, rfl, hv, hw, ok, hl, h0, q⟩ := h
    refine ⟨_, (pss_cons (ps_expr (pe_k (ok_need_web T) hr (pa_cons (pv 0) pa_nil))) (pss_cons (ps_if (pt_not (pt_val (pe_k (ok_are_powers T) hr (pa_cons (pv 1) (pa_cons (pv 0) pa_nil))))) pss_never pss_nil) (pss_one (ps_expr (pe_k (ok_need_few T) hr (pa_cons (pv 0) pa_nil)))))), ?_⟩
    refine ⟨_, rfl, n, ts, u, rfl, hw, ok, fun H2 s2 => ?_⟩
    refine ⟨_, rfl, _, rfl, n, ts, p, v, u, rfl, IntsV.t (Same.t s2) hv, WebV.t (Same.t s2) hw, hl, ok.n5, h0, fun H3 s3 => ⟨true, rfl, ?_⟩⟩
    refine iteF ?_
    have s23 := s2.trans s3
    exact ⟨_, rfl, n, ts, u, rfl, WebV.t (Same.t s23) hw, ok.len, fun H4 s4 => q _ (s23.trans s4)⟩
def spTerm : Sp := fun vs H Q _ => ∃ n ts p v u, vs = [u, v] ∧ IntsV H p v ∧ WebV H n ts u ∧ WebOk n ts ∧ p.length = n ∧ (∀ x ∈ p, (0 : Int) ≤ x) ∧ ∀ H', Same H H' → Q (.int (aget (terms n ts) p)) H'
theorem ok_term (T : TX K mg) : Cal P w K mg base 6 "term" spTerm := by
  refine cal_of T.d_term sc_term (fun vs H Q E h => ?_) (fun f cdv A outer s H vs Q E hr h => ?_)
  · obtain ⟨n, ts, p, v, u, rfl, _⟩ := h
    rfl
  · obtain ⟨n, ts, p, v, u, rfl, hv, hw, ok, hl, h0, q⟩ := h
    refine ⟨_, (pss_cons (ps_expr (pe_k (ok_need_powers T) hr (pa_cons (pv 0) (pa_cons (pv 1) pa_nil)))) (pss_one (ps_ret (pe_dget2 (hu_of hr) (pe_k (ok_terms_of T) hr (pa_cons (pv 0) pa_nil)) (pv 1) pe_int ⟨rfl, rfl, rfl, rfl⟩)))), ?_⟩
    refine ⟨_, rfl, _, rfl, n, ts, p, v, u, rfl, hv, hw, ok, hl, h0, fun H2 s2 => ?_⟩
    refine ⟨_, rfl, n, ts, u, rfl, WebV.t (Same.t s2) hw, ok.n1, ok.n5, ok.lt, ok.len, fun H3 r s3 hd => ?_⟩
    obtain ⟨d, od, rfl, hd⟩ := hd
    have s23 := s2.trans s3
    obtain ⟨pb, rfl, hpb⟩ := hv
    refine ⟨d, rfl, .inr ⟨_, .inr ⟨od, hd⟩⟩, _, rfl, _, dget2_emb (.inr ⟨od, hd⟩) (s23 _ _ hpb), ?_⟩
    rw [valV_aget]
    exact q _ s23
def lessB (p ss : List Int) : Bool := (p.zip ss).all fun x => decide (x.1 < x.2)
def spLesser : Sp := fun vs H Q _ => ∃ p ss v u, vs = [v, u] ∧ IntsV H p v ∧ IntsV H ss u ∧ p.length ≤ 100 ∧ ∀ H', Same H H' → Q (.bl (lessB p ss)) H'
theorem zip_at {p ss : List Int} {i : Nat} {x y : V} (h1 : (p.map V.int)[i]? = some x) (h2 : (ss.map V.int)[i]? = some y) : ∃ t, (p.zip ss)[i]? = some t ∧ x = .int t.1 ∧ y = .int t.2 := by
  obtain ⟨a, ha, rfl⟩ := int_at h1
  obtain ⟨b, hb, rfl⟩ := int_at h2
  refine ⟨(a, b), ?_, rfl, rfl⟩
  rw [List.getElem?_zip_eq_some]
  exact ⟨ha, hb⟩
theorem ok_lesser (T : TX K mg) : Cal P w K mg base 1 "lesser" spLesser := by
  refine cal_of T.d_lesser sc_lesser (fun vs H Q E h => ?_) (fun f cdv A outer s H vs Q E hr h => ?_)
  · obtain ⟨p, ss, v, u, rfl, _⟩ := h
    rfl
  · obtain ⟨p, ss, v, u, rfl, ⟨a, rfl, ha⟩, ⟨b, rfl, hb⟩, hl, q⟩ := h
    refine ⟨_, (pss_one (ps_ret (pe_callB (kcr_all (K := K) rfl rfl) (by rfl) T.b_all bt_all (pa_cons (pe_lc (own := [("power", 2), ("size", 3)]) rfl sc_lesser.nd (RZ.pi_zipA (by rfl) T.b_zip (pa_cons (pv 0) (pa_cons (pv 1) pa_nil))) (blkOk_by (N := ["powers", "sizes", "power", "size"]) (sc := defScope s_lesser) (by decide +kernel)) (fun _ _ _ _ _ => (kpg_tup (K := K) (n := 2) rfl rfl (pgs_cons (pg_name (i := 2) sc_lesser.nd rfl (Or.inl rfl)) (pgs_cons (pg_name (i := 3) sc_lesser.nd rfl (Or.inl rfl)) pgs_nil)))) (fun _ _ _ _ _ => pts_nil) (fun _ _ _ _ _ => (pe_cmpR op_lt (pv 2) (pv 3) (nomark _)))) pa_nil)))), ?_⟩
    refine ⟨_, rfl, _, rfl, a, b, _, _, rfl, .inr ⟨sqT ha, sqT hb, fun D hD => ?_⟩⟩
    refine lc_rel (walk_zipT (n := (p.zip ss).length) (by simp)) hD (by rw [List.length_zip]; omega) (keepAt (p.zip ss) fun _ => true) (fun i y H => ∃ t, (p.zip ss)[i]? = some t ∧ y = .bl (decide (t.1 < t.2))) (fun _ _ _ _ h _ => h) (fun H2 sm => ⟨same_seqT sm (sqT ha), same_seqT sm (sqT hb)⟩) (fun i x H2 H3 hi sm hy K1 K2 k1 k2 => ?_) (fun H2 ys sm hl2 pr2 => ?_)
    · obtain ⟨c, x1, x2, rfl, hc, rfl, g1, g2⟩ := hy
      obtain ⟨t, ht, rfl, rfl⟩ := zip_at g1 g2
      rw [keepAt_some ht] at k1
      refine ⟨c, _, rfl, sqT upd_same, rfl, _, _, rfl, _, _, rfl, rfl, rfl, ?_⟩
      exact iteT (B := K2 (upd H2 c (.tup [.int t.1, .int t.2]))) ⟨_, rfl, _, rfl, _, _, rfl, rfl, k1 _ _ rfl (same_new hc) ⟨t, ht, rfl⟩⟩
    · have e := pick_all pr2
      subst e
      refine ⟨D, ((p.zip ss).filter fun _ => true).map fun t => decide (t.1 < t.2), rfl, by rw [List.map_map]; exact sqL hl2, ?_⟩
      have e2 : (((p.zip ss).filter fun _ => true).map fun t => decide (t.1 < t.2)).all id = lessB p ss := by
        unfold lessB
        rw [List.all_map, List.filter_eq_self.mpr fun _ _ => rfl]
        rfl
      rw [e2]
      exact q _ sm
def spPaper : Sp := fun vs H Q _ => ∃ n ts p ss v u x, vs = [v, u, x] ∧ IntsV H p v ∧ WebV H n ts u ∧ IntsV H ss x ∧ WebOk n ts ∧ SizesOk n ss ∧ lessB p ss = true ∧ (∃ c, (p, c) ∈ terms n ts) ∧ ∀ H', Same H H' → Q (.bl true) H'
theorem ok_is_term_paper (T : TX K mg) : Cal P w K mg base 7 "is_term_paper" spPaper := by
  refine cal_of T.d_is_term_paper sc_is_term_paper (fun vs H Q E h => ?_) (fun f cdv A outer s H vs Q E hr h => ?_)
  · obtain ⟨n, ts, p, ss, v, u, x, rfl, _⟩ := h
    rfl
  · obtain ⟨n, ts, p, ss, v, u, x, rfl, hv, hw, hx, ok, sok, hle, ⟨c, hc⟩, q⟩ := h
    have pok := ((terms_all ok.lt).2.2.2 _ hc).1
    refine ⟨_, (pss_cons (ps_expr (pe_k (ok_need_sizes T) hr (pa_cons (pv 1) (pa_cons (pv 2) pa_nil)))) (pss_cons (ps_expr (pe_k (ok_need_few T) hr (pa_cons (pv 1) pa_nil))) (pss_one (ps_ret (pe_and (pe_k (ok_are_powers T) hr (pa_cons (pv 0) (pa_cons (pv 1) pa_nil))) (pe_and (pe_k (ok_lesser T) hr (pa_cons (pv 0) (pa_cons (pv 2) pa_nil))) (pe_one (pe_cmp (pc_din (hu_of hr) (pv 0) (pe_k (ok_terms_of T) hr (pa_cons (pv 1) pa_nil))))))))))), ?_⟩
    refine ⟨_, rfl, _, rfl, n, ts, ss, x, u, rfl, hx, hw, ok, sok, fun H2 s2 => ?_⟩
    refine ⟨_, rfl, n, ts, u, rfl, WebV.t (Same.t s2) hw, ok.len, fun H3 s3 => ?_⟩
    have s23 := s2.trans s3
    refine ⟨_, rfl, _, rfl, n, ts, p, v, u, rfl, IntsV.t (Same.t s23) hv, WebV.t (Same.t s23) hw, pok.len, ok.n5, pok.pos, fun H4 s4 => ⟨true, rfl, iteT ?_⟩⟩
    have s24 := s23.trans s4
    have hlen : p.length ≤ 100 := by rw [pok.len]; have := ok.n5; omega
    refine ⟨_, rfl, _, rfl, p, ss, v, x, rfl, IntsV.t (Same.t s24) hv, IntsV.t (Same.t s24) hx, hlen, fun H5 s5 => ⟨_, rfl, ?_⟩⟩
    rw [hle]
    refine iteT ?_
    have s25 := s24.trans s5
    refine ⟨_, rfl, _, rfl, n, ts, u, rfl, WebV.t (Same.t s25) hw, ok.n1, ok.n5, ok.lt, ok.len, fun H6 r s6 hd => ?_⟩
    obtain ⟨d, od, rfl, hd⟩ := hd
    obtain ⟨pb, rfl, hpb⟩ := hv
    have s26 := s25.trans s6
    exact ⟨d, _, rfl, dget_emb (.inr ⟨od, hd⟩) (s26 _ _ hpb) (terms_all ok.lt).1 hc, q _ s26⟩
def spTermFor : Sp := fun vs H Q _ => ∃ n ts ss u x, vs = [u, x] ∧ WebV H n ts u ∧ IntsV H ss x ∧ WebOk n ts ∧ SizesOk n ss ∧
  (∀ H' r p, Same H H' → TupAt H' r p → lessB p ss = true → (∃ c, (p, c) ∈ terms n ts) → Q (.ref r) H') ∧ ∀ H', Same H H' → (∀ kc ∈ terms n ts, lessB kc.1 ss = false) → Q .non H'
theorem tups_of {H : Hp} : ∀ {l : List (List Int × Int)} {ys : List V}, Paired (fun (kc : List Int × Int) y => ∃ b, y = V.ref b ∧ TupAt H b kc.1) l ys → ∃ rs : List (Addr × List Int), ys = rs.map (fun r => V.ref r.1) ∧ (∀ r ∈ rs, TupAt H r.1 r.2) ∧ rs.map (·.2) = l.map (·.1)
  | _, _, .nil => ⟨[], rfl, (fun _ h => nomatch h), rfl⟩
  | _, _, .cons ⟨b, e, h1⟩ r => by
    obtain ⟨rs, g1, g2, g3⟩ := tups_of r
    refine ⟨(b, _) :: rs, by rw [List.map_cons, ← g1, e], fun x hx => ?_, by rw [List.map_cons, g3]; rfl⟩
    rcases List.mem_cons.mp hx with rfl | hx
    · exact h1
    · exact g2 x hx
theorem ok_term_for (T : TX K mg) : Cal P w K mg base 7 "term_for" spTermFor := by
  refine cal_of T.d_term_for sc_term_for (fun vs H Q E h => ?_) (fun f cdv A outer s H vs Q E hr h => ?_)
  · obtain ⟨n, ts, ss, u, x, rfl, _⟩ := h
    rfl
  · obtain ⟨n, ts, ss, u, x, rfl, hw, hx, ok, sok, q1, q2⟩ := h
    have ta := terms_all ok.lt
    have htl : (terms n ts).length ≤ 1024 := Nat.le_trans ta.2.2.1 (Nat.le_trans (Nat.pow_le_pow_right (by decide) ok.len) (by decide))
    refine ⟨_, (pss_cons (ps_expr (pe_k (ok_need_sizes T) hr (pa_cons (pv 0) (pa_cons (pv 1) pa_nil)))) (pss_cons (ps_expr (pe_k (ok_need_few T) hr (pa_cons (pv 0) pa_nil))) (pss_cons (ps_setLc (i := 2) (own := [("powers", 3)]) rfl sc_term_for.nd rfl rfl rfl (pi_keys (pe_k (ok_terms_of T) hr (pa_cons (pv 0) pa_nil))) (blkOk_by (N := ["web", "sizes", "some", "powers"]) (sc := defScope s_term_for) (by decide +kernel)) (fun _ _ _ _ _ => (pg_name (i := 3) sc_term_for.nd rfl (Or.inl rfl))) (fun _ _ _ _ _ => (pts_one (pt_val (pe_k (ok_lesser T) hr (pa_cons (pv 3) (pa_cons (pv 1) pa_nil)))))) (fun _ _ _ _ _ => (pv 3))) (pss_cons (ps_if (pt_cmpR (kop_eqE (K := K) rfl (hu64 hr)) (pv 2) (pe_lst pa_nil) (nomark _)) (pss_one (ps_ret pe_non)) pss_nil) (pss_one (ps_ret (pe_callB (cr_minT rfl (hu64 hr)) (by rfl) T.b_min bt_min (pa_cons (pv 2) pa_nil)))))))), ?_⟩
    refine ⟨_, rfl, _, rfl, n, ts, ss, x, u, rfl, hx, hw, ok, sok, fun H2 s2 => ?_⟩
    refine ⟨_, rfl, n, ts, u, rfl, WebV.t (Same.t s2) hw, ok.len, fun H3 s3 => ?_⟩
    have s23 := s2.trans s3
    refine ⟨_, rfl, n, ts, u, rfl, WebV.t (Same.t s23) hw, ok.n1, ok.n5, ok.lt, ok.len, fun H4 r s4 hd => ?_⟩
    obtain ⟨d, od, rfl, hd⟩ := hd
    have s24 := s23.trans s4
    refine ⟨d, od, rfl, .inr ⟨_, hd, fun D hD => ?_⟩⟩
    refine lc_rel (walk_keysT (kvs := (terms n ts).map emb)) hD (by rw [emb_len]; omega) (keepAt (terms n ts) fun kv => lessB kv.1 ss) (fun i y H => ∃ kc, (terms n ts)[i]? = some kc ∧ ∃ b, y = V.ref b ∧ TupAt H b kc.1) (fun i v H H' h e => ?_) (fun H2 sm => sm _ _ hd) (fun i x' H6 H5 hi sm hy K1 K2 k1 k2 => ?_) (fun H5 ys sm hl2 pr2 => ?_)
    · obtain ⟨kc, g1, b, g2, g3⟩ := h
      exact ⟨kc, g1, b, g2, e _ _ g3⟩
    · obtain ⟨rfl, k, vv, b, hk, rfl, hb⟩ := hy
      have hi' : i < (terms n ts).length := by rw [emb_len] at hi; exact hi
      have e1 : (terms n ts)[i]? = some (terms n ts)[i] := List.getElem?_eq_getElem hi'
      generalize hpc : (terms n ts)[i] = pc at e1
      obtain ⟨p, c⟩ := pc
      have hk2 : k = p.map Sum.inl := by
        rw [List.getElem?_map, e1] at hk
        exact (congrArg Prod.fst (Option.some.inj hk)).symm
      subst hk2
      have hbt : TupAt H5 b p := by rw [inl_kV] at hb; exact hb
      have pok := (ta.2.2.2 _ (List.mem_of_getElem? e1)).1
      have hlen : p.length ≤ 100 := by rw [pok.len]; have := ok.n5; omega
      rw [keepAt_some e1] at k1 k2
      refine ⟨rfl, _, rfl, _, rfl, p, ss, .ref b, x, rfl, ⟨b, rfl, hbt⟩, IntsV.t (Same.t (s24.trans sm)) hx, hlen, fun H7 s7 => ⟨_, rfl, ?_⟩⟩
      by_cases c : lessB p ss = true
      · rw [c]
        exact iteT (B := K2 H7) ⟨_, rfl, k1 _ _ c s7 ⟨_, e1, b, rfl, s7 _ _ hbt⟩⟩
      · have c' : lessB p ss = false := by simpa using c
        rw [c']
        exact iteF (k2 _ c' s7)
    · rw [emb_len] at pr2
      obtain ⟨rs, g1, g2, g3⟩ := tups_of (pick_allR pr2)
      subst g1
      have s25 := s24.trans sm
      refine ⟨_, rfl, show 0 ≤ sizeLine by decide, fun e he => ⟨D, e, _, rfl, rfl, .inl ⟨sqL ((same_new he) _ _ hl2), sqL upd_same⟩, .inr ⟨rs, rfl, fun r hr => (same_new he) _ _ (g2 r hr)⟩, _, rfl, ?_⟩⟩
      have s26 := s25.trans (same_new (o := .lst []) he)
      cases rs with
      | nil =>
        refine iteT ?_
        refine q2 _ s26 fun kc hk => ?_
        by_cases c : lessB kc.1 ss = true
        · have : kc ∈ (terms n ts).filter fun kv => lessB kv.1 ss := List.mem_filter.mpr ⟨hk, c⟩
          have : kc.1 ∈ ([] : List (List Int)) := by rw [← List.map_nil (f := fun x : Addr × List Int => x.2), g3]; exact List.mem_map_of_mem this
          exact nomatch this
        · simpa using c
      | cons r0 rs =>
        refine iteF ?_
        refine ⟨_, rfl, D, r0 :: rs, rfl, sqL ((same_new he) _ _ hl2), fun r hr => (same_new he) _ _ (g2 r hr), (fun z => nomatch z), fun r hr => ?_⟩
        have hm : r.2 ∈ ((terms n ts).filter fun kv => lessB kv.1 ss).map (·.1) := by rw [← g3]; exact List.mem_map_of_mem hr
        obtain ⟨kc, hk, e2⟩ := List.mem_map.mp hm
        obtain ⟨hk1, hk2⟩ := List.mem_filter.mp hk
        refine q1 _ r.1 r.2 s26 ((same_new he) _ _ (g2 r hr)) (e2 ▸ hk2) ⟨kc.2, e2 ▸ hk1⟩
end
end HL

set_option Elab.async false
set_option linter.all false
set_option maxRecDepth 100000
set_option maxHeartbeats 8000000
namespace HL
open PySem PySem.Spec L2
open PyProof.Rows (envOfC)
section
variable {P : Program} {w : World} {K : PySem.W.Frag} {mg : Str → Option Value} {base : Heap}
def rhalf (t : Tie) (l : List (RK × Int)) (p : List Int) (o c : Int) : Nat → List (RK × Int)
  | 0 => l
  | 1 => aput l (raise p t.1, o) (aget l (raise p t.1, o) + c)
  | _ => rstep1 t l ((p, o), c)
theorem rhalf_len (t : Tie) (l : List (RK × Int)) (p : List Int) (o c : Int) : ∀ j, (rhalf t l p o c j).length ≤ l.length + 2
  | 0 => by show l.length ≤ _; omega
  | 1 => by
    have := len_put l ((raise p t.1, o) : RK) (aget l ((raise p t.1, o) : RK) + c)
    show (aput l ((raise p t.1, o) : RK) _).length ≤ _
    omega
  | j + 2 => by
    have h1 := len_put l ((raise p t.1, o) : RK) (aget l ((raise p t.1, o) : RK) + c)
    have h2 := len_put (rhalf t l p o c 1) ((raise p t.2, 1 - o) : RK) (aget (rhalf t l p o c 1) ((raise p t.2, 1 - o) : RK) + c)
    have h3 : (rhalf t l p o c 1).length ≤ l.length + 1 := h1
    refine Nat.le_trans h2 ?_
    omega
def RInv (P : Program) (w : World) (H0 : Hp) (v pv : V) (found : List (RK × Int)) (σ : L2.St) (H : Hp) : Prop :=
  ∃ d rs a3 a4 a5 a6 a7 a8, σ = [some v, some pv, some (.ref d), a3, a4, a5, a6, a7, a8] ∧ Same H0 H ∧ H0 d = none ∧ H d = some (DNo P w d rs) ∧ rowKv rs = found ∧ ∀ r ∈ rs, NKAt H r.2.1 r.1
def RMid (P : Program) (w : World) (H0 : Hp) (v pv : V) (t : Tie) (d l : Addr) (od : Obj) (rs : List NRow) (later : List (RK × Int)) (σ : L2.St) (H : Hp) : Prop :=
  ∃ rl a6 a7 a8, σ = [some v, some pv, some (.ref d), some (.int t.1), some (.int t.2), some (.ref l), a6, a7, a8] ∧ Same H0 H ∧ H0 l = none ∧ H d = some (.frz od (DNo P w d rs)) ∧ (∀ r ∈ rs, NKAt H r.2.1 r.1) ∧ H l = some (DNo P w l rl) ∧ rowKv rl = later ∧ ∀ r ∈ rl, NKAt H r.2.1 r.1
def RInn (P : Program) (w : World) (H0 : Hp) (v pv : V) (t : Tie) (d l b q1 q2 q3 : Addr) (od : Obj) (rs : List NRow) (p : List Int) (o : Int) (later : List (RK × Int)) (σ : L2.St) (H : Hp) : Prop :=
  ∃ rl a8, σ = [some v, some pv, some (.ref d), some (.int t.1), some (.int t.2), some (.ref l), some (.ref b), some (.int o), a8] ∧ Same H0 H ∧ H0 l = none ∧ H d = some (.frz od (DNo P w d rs)) ∧ (∀ r ∈ rs, NKAt H r.2.1 r.1) ∧ H l = some (DNo P w l rl) ∧ rowKv rl = later ∧ (∀ r ∈ rl, NKAt H r.2.1 r.1) ∧
    TupAt H b p ∧ NKAt H q1 (raise p t.1, o) ∧ NKAt H q2 (raise p t.2, 1 - o) ∧ H q3 = some (.tup [.ref q1, .ref q2])
def spRuns : Sp := fun vs H Q _ => ∃ n ts p v u, vs = [u, v] ∧ IntsV H p v ∧ WebV H n ts u ∧ WebOk n ts ∧ p.length = n ∧ (∀ x ∈ p, (0 : Int) ≤ x) ∧ ∀ H' r, Same H H' → H' r = some (.tup [.int (aget (runs n ts) (p, 0)), .int (aget (runs n ts) (p, 1))]) → Q (.ref r) H'
theorem ok_runs_many (T : TX K mg) : Cal P w K mg base 6 "runs_many" spRuns := by
  refine cal_of T.d_runs_many sc_runs_many (fun vs H Q E h => ?_) (fun f cdv A outer s H vs Q E hr h => ?_)
  · obtain ⟨n, ts, p, v, u, rfl, _⟩ := h
    rfl
  · obtain ⟨n, ts, pp, v, u, rfl, hv, hw, ok, hl, h0, q⟩ := h
    refine ⟨_, (pss_cons (ps_expr (pe_k (ok_need_powers T) hr (pa_cons (pv 0) (pa_cons (pv 1) pa_nil)))) (pss_cons (ps_set (i := 2) sc_runs_many.nd rfl (Or.inl rfl) (pe_none1 (hu64 hr) (pe_tup (pa_cons (pe_op (kop_repN (K := K) rfl) (pe_tup (pa_cons pe_int pa_nil)) (pe_ix (kix_tup (K := K) rfl) (pv 0) pe_int (fun _ _ => rfl))) (pa_cons pe_int pa_nil))) pe_int)) (pss_cons (ps_for PassesOwn.never rfl (pi_tup (pe_ix (kix_tup (K := K) rfl) (pv 0) pe_int (fun _ _ => rfl))) (kpg_tup (K := K) (n := 2) rfl rfl (pgs_cons (pg_name (i := 3) sc_runs_many.nd rfl (Or.inl rfl)) (pgs_cons (pg_name (i := 4) sc_runs_many.nd rfl (Or.inl rfl)) pgs_nil))) (pss_cons (ps_set (i := 5) sc_runs_many.nd rfl (Or.inl rfl) pe_nnew) (pss_cons (ps_for PassesOwn.never rfl (pi_keysN (pe_frz (pv 2))) (kpg_tup (K := K) (n := 2) rfl rfl (pgs_cons (pg_name (i := 6) sc_runs_many.nd rfl (Or.inl rfl)) (pgs_cons (pg_name (i := 7) sc_runs_many.nd rfl (Or.inl rfl)) pgs_nil))) (pss_one (ps_for PassesOwn.never rfl (pi_tup (pe_tup (pa_cons (pe_tup (pa_cons (pe_k (ok_raised T) hr (pa_cons (pv 6) (pa_cons (pv 3) pa_nil))) (pa_cons (pv 7) pa_nil))) (pa_cons (pe_tup (pa_cons (pe_k (ok_raised T) hr (pa_cons (pv 6) (pa_cons (pv 4) pa_nil))) (pa_cons (pe_op op_sub pe_int (pv 7)) pa_nil))) pa_nil)))) (pg_name (i := 8) sc_runs_many.nd rfl (Or.inl rfl)) (pss_one (ps_nput (hu64 hr) (pv 5) (pv 8) (pe_op op_add (pe_nget (hu64 hr) (pv 5) (pv 8) pe_int ⟨rfl, rfl, rfl, rfl⟩) (pe_nix (hu64 hr) (pv 2) (pe_tup (pa_cons (pv 6) (pa_cons (pv 7) pa_nil))) (fun _ _ => rfl))) rfl))))) (pss_one (ps_set (i := 2) sc_runs_many.nd rfl (Or.inl rfl) (pv 5)))))) (pss_one (ps_ret (pe_tup (pa_cons (pe_nget (hu64 hr) (pv 2) (pe_tup (pa_cons (pv 1) (pa_cons pe_int pa_nil))) pe_int ⟨rfl, rfl, rfl, rfl⟩) (pa_cons (pe_nget (hu64 hr) (pv 2) (pe_tup (pa_cons (pv 1) (pa_cons pe_int pa_nil))) pe_int ⟨rfl, rfl, rfl, rfl⟩) pa_nil)))))))), ?_⟩
    refine ⟨_, rfl, _, rfl, n, ts, pp, v, u, rfl, hv, hw, ok, hl, h0, fun H2 s2 => ?_⟩
    obtain ⟨pw, xw, rfl, hpw, ⟨p2, xs, rfl, hp2, pr⟩⟩ := hw
    obtain ⟨pb, rfl, hpb⟩ := hv
    have hxs : xs.length = ts.length := (Paired.length pr).symm
    refine fun d hd => ?_
    have s3 := s2.trans (same_new (o := DNo P w d []) hd)
    refine ⟨show 1 ≤ sizeLine by decide, fun z hz => ⟨_, rfl, pw, [.int n, .ref p2], 0, .int n, rfl, rfl, ?_⟩⟩
    have s4 := s3.trans (same_new (o := .tup [.int 0]) hz)
    refine ⟨sqT (s4 _ _ hpw), atI_nat (j := 0) rfl, z, 0, n, rfl, rfl, upd_same, ok.n1, by have := ok.n5; omega, fun b H3 s5 hb => ?_⟩
    have s6 : Same H H3 := fun x o h => s5 x o (s4 x o h)
    have hd3 : H3 d = some (DNo P w d []) := s5 _ _ ((same_new hz) _ _ upd_same)
    have hd0 : H d = none := s2.free hd
    refine ⟨show 2 ≤ sizeLine by decide, fun k hk => ?_⟩
    have s7 := s6.trans (same_new (o := .tup [.ref b, .int 0]) hk)
    have hd4 : upd H3 k (.tup [.ref b, .int 0]) d = some (DNo P w d []) := (same_new hk) _ _ hd3
    refine ⟨k, (zeros n, 0), 1, rfl, rfl, ⟨b, upd_same, (same_new hk) _ _ hb⟩, hd4, ?_⟩
    have ts8 : TSame (upd H3 k (.tup [.ref b, .int 0])) (upd (upd H3 k (.tup [.ref b, .int 0])) d (DNo P w d [((zeros n, 0), k, 1)])) := tsame_mut hd4 fun _ z => nomatch z
    have s8 : Same H (upd (upd H3 k (.tup [.ref b, .int 0])) d (DNo P w d [((zeros n, 0), k, 1)])) := same_mut s7 hd0
    refine ⟨_, rfl, pw, _, 1, _, rfl, rfl, sqT (s8 _ _ hpw), atI_nat (j := 1) rfl, p2, rfl, ⟨_, sqT (s8 _ _ hp2)⟩, ?_⟩
    refine for_it (walk_tup (xs := xs)) (fun i σ H1 => RInv P w H (.ref pw) (.ref pb) (runs n (ts.take i)) σ H1) ⟨d, _, _, _, _, _, _, _, rfl, s8, hd0, upd_same, rfl, fun r hr => ?_⟩ (fun i σ H1 _ h => ?_) (fun i x σ H2 H1 hi h y => ?_) (fun σ H1 h => ?_)
    · rw [List.mem_singleton] at hr
      subst hr
      exact ⟨b, ts8 _ _ upd_same, ts8 _ _ ((same_new hk) _ _ hb)⟩
    · obtain ⟨_, _, _, _, _, _, _, _, _, sm, _⟩ := h
      exact same_seqT sm (sqT hp2)
    · obtain ⟨d, rs, a3, a4, a5, a6, a7, a8, rfl, sm, hd0, hd1, hkv, hnk⟩ := h
      obtain ⟨rfl, hx⟩ := y
      obtain ⟨t, hti, ⟨pt, rfl, hpt⟩⟩ := paired_at pr hx
      have htm := List.mem_of_getElem? hti
      refine ⟨pt, _, rfl, sqT (sm _ _ hpt), rfl, _, _, rfl, _, _, rfl, rfl, ?_⟩
      refine fun l hl1 => ?_
      have hl0 : H l = none := sm.free hl1
      have s5 : Same H1 (upd H1 l (DNo P w l [])) := same_new hl1
      refine ⟨_, rfl, d, DNo P w d rs, rfl, s5 _ _ hd1, (show Mut (some (.ext _)) from trivial), fun od => ⟨d, od, rs, rfl, upd_same, ?_⟩⟩
      have hld : d ≠ l := fun e => by rw [e, hl1] at hd1; exact nomatch hd1
      have ta := runs_all (n := n) (ts := ts.take i) fun t ht' => ok.lt t (List.mem_of_mem_take ht')
      have hnd : Nd (rowKv rs) := by rw [hkv]; exact ta.1
      have hlen : rs.length ≤ 1024 := by
        have e : rs.length = (runs n (ts.take i)).length := by rw [← hkv]; unfold rowKv; rw [List.length_map]
        rw [e]
        refine Nat.le_trans ta.2.2.1 ?_
        have : (ts.take i).length ≤ 10 := by rw [List.length_take]; have := ok.len; omega
        exact Nat.le_trans (Nat.pow_le_pow_right (by decide) this) (by decide)
      have ts5 : TSame (upd H1 l (DNo P w l [])) (upd (upd H1 l (DNo P w l [])) d (.frz od (DNo P w d rs))) := tsame_mut (s5 _ _ hd1) fun _ z => nomatch z
      have ts6 : TSame H1 (upd (upd H1 l (DNo P w l [])) d (.frz od (DNo P w d rs))) := (Same.t s5).trans ts5
      have ss : Same H (upd (upd H1 l (DNo P w l [])) d (.frz od (DNo P w d rs))) := same_mut (sm.trans s5) hd0
      refine for_it (walk_keysN (rs := rs)) (fun i σ H1 => RMid P w H (.ref pw) (.ref pb) t d l od rs (rstep (rowKv (rs.take i)) t) σ H1) ⟨[], _, _, _, rfl, ss, hl0, upd_same, fun r hr => (hnk r hr).same ts6, ?_, rfl, fun _ h => nomatch h⟩ (fun i σ H1 _ h => ?_) (fun j x σ H2 H1 hj h y => ?_) (fun σ H1 h => ?_)
      · rw [upd_ne hld.symm]; exact upd_same
      · obtain ⟨_, _, _, _, _, _, _, h, _⟩ := h
        exact h
      · obtain ⟨rl, a6, a7, a8, rfl, sm2, _, hdd, hnk2, hll, hkl, hnl⟩ := h
        obtain ⟨rfl, r, hr2, rfl⟩ := y
        have hrm := List.mem_of_getElem? hr2
        obtain ⟨⟨p, o⟩, kb, c⟩ := r
        obtain ⟨b, hkb, hb⟩ := hnk2 _ hrm
        have hpc : ((p, o), c) ∈ rowKv rs := List.mem_map_of_mem (f := fun r : NRow => (r.1, r.2.2)) hrm
        have hpl : p.length = n := (ta.2.2.2 _ (by rw [← hkv]; exact hpc)).p.len
        refine ⟨kb, _, rfl, sqT hkb, rfl, _, _, rfl, _, _, rfl, rfl, ?_⟩
        refine ⟨_, rfl, _, rfl, p, .ref b, t.1, rfl, ⟨b, rfl, hb⟩, by rw [hpl]; exact (ok.lt t htm).1, by rw [hpl]; have := ok.n5; omega, fun H3 r1 s3 hr1 => ⟨_, rfl, show 2 ≤ sizeLine by decide, fun q1 h1 => ?_⟩⟩
        have u1 : Same H1 (upd H3 q1 (.tup [.ref r1, .int o])) := s3.trans (same_new h1)
        refine ⟨_, rfl, _, rfl, p, .ref b, t.2, rfl, ⟨b, rfl, u1 _ _ hb⟩, by rw [hpl]; exact (ok.lt t htm).2, by rw [hpl]; have := ok.n5; omega, fun H4 r2 s4 hr2' => ⟨_, rfl, 1, o, rfl, rfl, show 2 ≤ sizeLine by decide, fun q2 h2 => ⟨show 2 ≤ sizeLine by decide, fun q3 h3 => ⟨q3, rfl, ⟨_, sqT upd_same⟩, ?_⟩⟩⟩⟩
        have v2 : Same H4 (upd H4 q2 (.tup [.ref r2, .int (1 - o)])) := same_new h2
        have v3 : Same _ (upd (upd H4 q2 (.tup [.ref r2, .int (1 - o)])) q3 (.tup [.ref q1, .ref q2])) := same_new h3
        have u3 := u1.trans (s4.trans (v2.trans v3))
        have hq1 : NKAt (upd (upd H4 q2 (.tup [.ref r2, .int (1 - o)])) q3 (.tup [.ref q1, .ref q2])) q1 (raise p t.1, o) := ⟨r1, v3 _ _ (v2 _ _ (s4 _ _ upd_same)), v3 _ _ (v2 _ _ (s4 _ _ ((same_new h1) _ _ hr1)))⟩
        have hq2 : NKAt (upd (upd H4 q2 (.tup [.ref r2, .int (1 - o)])) q3 (.tup [.ref q1, .ref q2])) q2 (raise p t.2, 1 - o) := ⟨r2, v3 _ _ upd_same, v3 _ _ (v2 _ _ hr2')⟩
        refine for_it (walk_tup (xs := [.ref q1, .ref q2])) (fun i σ H2 => RInn P w H (.ref pw) (.ref pb) t d l b q1 q2 q3 od rs p o (rhalf t (rstep (rowKv (rs.take j)) t) p o c i) σ H2) ⟨rl, _, rfl, sm2.trans u3, hl0, u3 _ _ hdd, fun r hr => (hnk2 r hr).same (Same.t u3), u3 _ _ hll, hkl, fun r hr => (hnl r hr).same (Same.t u3), u3 _ _ hb, hq1, hq2, upd_same⟩ (fun i σ H2 _ h => ?_) (fun i x σ H3 H2 hi2 h y => ?_) (fun σ H2 h => ?_)
        · obtain ⟨_, _, _, _, _, _, _, _, _, _, _, _, _, h⟩ := h
          exact sqT h
        · obtain ⟨rl2, a8', rfl, sm3, _, hdd2, hnk3, hll2, hkl2, hnl2, hb2, g1, g2, g3⟩ := h
          obtain ⟨rfl, hx2⟩ := y
          have hx' : ∃ (qa : Addr) (k : RK), x = .ref qa ∧ NKAt H2 qa k ∧ rhalf t (rstep (rowKv (rs.take j)) t) p o c (i + 1) = aput (rhalf t (rstep (rowKv (rs.take j)) t) p o c i) k (aget (rhalf t (rstep (rowKv (rs.take j)) t) p o c i) k + c) := by
            match i, hx2 with
            | 0, hx => exact ⟨q1, (raise p t.1, o), (Option.some.inj hx).symm, g1, rfl⟩
            | 1, hx => exact ⟨q2, (raise p t.2, 1 - o), (Option.some.inj hx).symm, g2, rfl⟩
            | i + 2, hx => simp at hx
          obtain ⟨qa, k, rfl, hqa, eh⟩ := hx'
          have nd2 : NDAt P w H2 l (rowKv rl2) := ⟨rl2, .inl hll2, rfl, hnl2⟩
          refine ⟨_, rfl, l, _, rfl, nd2, _, rfl, qa, k, _, rfl, rfl, hqa, nd2, _, rfl, _, rfl, _, rfl, show 2 ≤ sizeLine by decide, fun a ha => ?_⟩
          have u4 : Same H2 (upd H2 a (.tup [.ref b, .int o])) := same_new ha
          have hlr : rl2.length < sizeLine := by
            have e : rl2.length = (rowKv rl2).length := by unfold rowKv; rw [List.length_map]
            rw [e, hkl2]
            have h3 := rhalf_len t (rstep (rowKv (rs.take j)) t) p o c i
            have h4 := (rfold_ok t (rowKv (rs.take j)) [] List.nodup_nil).2.2.1
            have h5 : (rowKv (rs.take j)).length ≤ rs.length := by unfold rowKv; rw [List.length_map]; exact List.length_take_le' ..
            have h6 : (rstep (rowKv (rs.take j)) t).length ≤ ([] : List (RK × Int)).length + 2 * (rowKv (rs.take j)).length := h4
            rw [List.length_nil] at h6
            exact lt5 (by omega)
          refine ⟨d, a, (p, o), c, rowKv rs, rfl, rfl, ⟨b, upd_same, u4 _ _ hb2⟩, ⟨rs, .inr ⟨od, u4 _ _ hdd2⟩, rfl, fun r hr => (hnk3 r hr).same (Same.t u4)⟩, hnd, hpc, _, _, rfl, rfl, _, rfl, _, rfl, l, qa, k, _, rl2, rfl, rfl, rfl, hqa.same (Same.t u4), u4 _ _ hll2, fun r hr => (hnl2 r hr).same (Same.t u4), hlr, ?_⟩
          generalize hH5 : upd H2 a (.tup [.ref b, .int o]) = H5 at *
          have hll5 := u4 _ _ hll2
          have nl : ∀ (x : Addr) (o' D : HO), H5 x = some o' → o' ≠ DNo P w l rl2 → upd H5 l D x = some o' := fun x o D hx hn => by
            rw [upd_ne (fun e => by rw [e, hll5] at hx; exact hn (Option.some.inj hx).symm)]
            exact hx
          have t5 : ∀ D, TSame H5 (upd H5 l D) := fun D => tsame_mut hll5 fun _ z => nomatch z
          refine ⟨_, _, rfl, same_mut (sm3.trans u4) hl0, hl0, nl _ _ _ (u4 _ _ hdd2) (fun z => nomatch z), fun r hr => ((hnk3 r hr).same (Same.t u4)).same (t5 _), upd_same, ?_, ?_, nl _ _ _ (u4 _ _ hb2) (fun z => nomatch z), (g1.same (Same.t u4)).same (t5 _), (g2.same (Same.t u4)).same (t5 _), nl _ _ _ (u4 _ _ g3) (fun z => nomatch z)⟩
          · rw [putRow_kv, eh, hkl2]
          · exact fun r hr => (putRow_mem (fun r hr => ((hnl2 r hr).same (Same.t u4)).same (t5 _)) ((hqa.same (Same.t u4)).same (t5 _)) r hr)
        · obtain ⟨rl2, a8', rfl, sm3, _, hdd2, hnk3, hll2, hkl2, hnl2, _⟩ := h
          refine ⟨rl2, _, _, _, rfl, sm3, hl0, hdd2, hnk3, hll2, ?_, hnl2⟩
          rw [hkl2]
          show rstep1 t (rstep (rowKv (rs.take j)) t) ((p, o), c) = _
          unfold rstep rowKv
          rw [List.take_succ, hr2, List.map_append, List.foldl_append]
          rfl
      · obtain ⟨rl, a6, a7, a8, rfl, sm2, _, hdd, hnk2, hll, hkl, hnl⟩ := h
        refine ⟨_, rfl, l, rl, _, _, _, _, _, _, rfl, sm2, hl0, hll, ?_, hnl⟩
        rw [hkl, List.take_length, hkv]
        unfold runs
        rw [List.take_succ, hti, List.foldl_append]
        rfl
    · obtain ⟨d, rs, a3, a4, a5, a6, a7, a8, rfl, sm, hd0, hd1, hkv, hnk⟩ := h
      rw [hxs, List.take_length] at hkv
      have nd1 : NDAt P w H1 d (runs n ts) := ⟨rs, .inl hd1, hkv, hnk⟩
      refine ⟨_, rfl, d, _, rfl, nd1, _, rfl, show 2 ≤ sizeLine by decide, fun a ha => ?_⟩
      have u1 : Same H1 (upd H1 a (.tup [.ref pb, .int 0])) := same_new ha
      have nd2 : NDAt P w (upd H1 a (.tup [.ref pb, .int 0])) d (runs n ts) := ⟨rs, .inl (u1 _ _ hd1), hkv, fun r hr => (hnk r hr).same (Same.t u1)⟩
      refine ⟨a, (pp, 0), _, rfl, rfl, ⟨pb, upd_same, u1 _ _ (sm _ _ hpb)⟩, nd2, _, rfl, d, _, rfl, nd2, _, rfl, show 2 ≤ sizeLine by decide, fun b hb => ?_⟩
      have u2 : Same _ (upd (upd H1 a (.tup [.ref pb, .int 0])) b (.tup [.ref pb, .int 1])) := same_new hb
      have u12 := u1.trans u2
      have nd3 : NDAt P w (upd (upd H1 a (.tup [.ref pb, .int 0])) b (.tup [.ref pb, .int 1])) d (runs n ts) := ⟨rs, .inl (u12 _ _ hd1), hkv, fun r hr => (hnk r hr).same (Same.t u12)⟩
      refine ⟨b, (pp, 1), _, rfl, rfl, ⟨pb, upd_same, u12 _ _ (sm _ _ hpb)⟩, nd3, show 2 ≤ sizeLine by decide, fun c hc => ?_⟩
      exact q _ _ ((sm.trans u12).trans (same_new hc)) upd_same
end
end HL

set_option Elab.async false
set_option linter.all false
set_option maxRecDepth 100000
set_option maxHeartbeats 8000000
namespace HL
open PySem PySem.Spec L2
open PyProof.Rows (envOfC)
def fitsB (ts : List Tie) (bs : List Int) (h : Int) : Bool := (nbrs ts bs.length).all fun o => decide (o < bs.length → bs.getD o 0 ≠ h)
def cnt (ts : List Tie) (Ls : List (List Int)) : Nat → List Int → Int
  | 0, _ => 1
  | r + 1, bs => (((Ls.getD bs.length []).filter (fitsB ts bs)).map fun h => cnt ts Ls r (bs ++ [h])).sum
theorem perm_nat {ns : List Int} {ts : List Tie} {v : Nat} (h : ns.Perm (toI (nbrs ts v))) : ∀ o ∈ ns, ∃ m : Nat, o = (m : Int) ∧ m ∈ nbrs ts v := fun o ho => by
  have := h.mem_iff.mp ho
  obtain ⟨m, h1, h2⟩ := List.mem_map.mp this
  exact ⟨m, h2.symm, h1⟩
theorem nbrs_len (ts : List Tie) (v : Nat) : (nbrs ts v).length ≤ ts.length := by
  unfold nbrs
  rw [List.length_map]
  exact List.length_filter_le _ _
section
variable {P : Program} {w : World} {K : PySem.W.Frag} {mg : Str → Option Value} {base : Heap}
def spFits : Sp := fun vs H Q _ => ∃ n ts bs u v, ∃ h : Int, vs = [u, v, .int h] ∧ WebV H n ts u ∧ IntsV H bs v ∧ ts.length ≤ 10 ∧ ∀ H', Same H H' → Q (.bl (fitsB ts bs h)) H'
theorem ok_fits (T : TX K mg) : Cal P w K mg base 2 "fits" spFits := by
  refine cal_of T.d_fits sc_fits (fun vs H Q E h => ?_) (fun f cdv A outer s H vs Q E hr h => ?_)
  · obtain ⟨n, ts, bs, u, v, h, rfl, _⟩ := h
    rfl
  · obtain ⟨n, ts, bs, u, v, h, rfl, hw, ⟨a, rfl, ha⟩, hl, q⟩ := h
    refine ⟨_, (pss_cons (ps_set (i := 3) sc_fits.nd rfl (Or.inr rfl) (pe_callB (kcall_len (K := K) rfl) (by rfl) T.b_len bt_len (pa_cons (pv 1) pa_nil))) (pss_one (ps_ret (pe_callB (kcr_all (K := K) rfl rfl) (by rfl) T.b_all bt_all (pa_cons (pe_lc (own := [("other", 4)]) rfl sc_fits.nd (pi_tup (pe_k (ok_tied_to T) hr (pa_cons (pv 0) (pa_cons (pv 3) pa_nil)))) (blkOk_by (N := ["web", "begun", "hue", "place", "other"]) (sc := defScope s_fits) (by decide +kernel)) (fun _ _ _ _ _ => (pg_name (i := 4) sc_fits.nd rfl (Or.inl rfl))) (fun _ _ _ _ _ => (pts_one (pt_cmpR op_lt (pv 4) (pv 3) (nomark _)))) (fun _ _ _ _ _ => (pe_cmpR op_ne (pe_ix (kix_tup (K := K) rfl) (pv 1) (pv 4) (fun _ _ => rfl)) (pv 2) (nomark _)))) pa_nil))))), ?_⟩
    refine ⟨_, rfl, a, _, rfl, .inr (sqT ha), ?_⟩
    refine ⟨_, rfl, _, rfl, n, ts, u, bs.length, by rw [List.length_map]; rfl, hw, hl, fun H2 r ns s2 hr2 hp => ?_⟩
    obtain ⟨p, rfl, hp2⟩ := hr2
    have hnl : ns.length ≤ 10 := by rw [hp.length_eq, List.length_map]; exact Nat.le_trans (nbrs_len ts bs.length) hl
    refine ⟨p, rfl, ⟨_, sqT hp2⟩, fun D hD => ?_⟩
    refine lc_rel walk_tup hD (by rw [List.length_map]; omega) (keepAt ns fun o => decide (o < (bs.length : Int))) (fun i y H => ∃ o, ns[i]? = some o ∧ y = .bl (!decide (V.int (bs.getD o.toNat 0) = V.int h))) (fun _ _ _ _ h _ => h) (fun H2 sm => same_seqT sm (sqT hp2)) (fun i x H4 H3 hi sm hy K1 K2 k1 k2 => ?_) (fun H3 ys sm hl2 pr2 => ?_)
    · obtain ⟨rfl, hx⟩ := hy
      obtain ⟨o, ho, rfl⟩ := int_at hx
      obtain ⟨m, rfl, _⟩ := perm_nat hp o (List.mem_of_getElem? ho)
      rw [keepAt_some ho] at k1 k2
      have e : (bs.map V.int).length = bs.length := List.length_map ..
      refine ⟨rfl, _, rfl, _, rfl, m, ((bs.map V.int).length : Nat), rfl, rfl, _, rfl, ?_⟩
      rw [e]
      by_cases c : (m : Int) < (bs.length : Int)
      · rw [decide_eq_true c]
        have hm : m < bs.length := by omega
        have g : (bs.map V.int)[m]? = some (.int (bs.getD m 0)) := by
          rw [List.getElem?_map, List.getD_eq_getElem?_getD, List.getElem?_eq_getElem hm]; rfl
        refine iteT (B := K2 H3) ⟨_, rfl, _, rfl, a, _, m, _, rfl, rfl, sqT (sm _ _ (s2 _ _ ha)), atI_nat g, _, rfl, rfl, k1 _ _ (decide_eq_true c) (Same.refl _) ⟨_, ho, rfl⟩⟩
      · rw [decide_eq_false c]
        exact iteF (k2 _ (decide_eq_false c) (Same.refl _))
    · rw [List.length_map] at pr2
      have e := pick_all pr2
      subst e
      refine ⟨D, (ns.filter fun o => decide (o < (bs.length : Int))).map fun o => !decide (V.int (bs.getD o.toNat 0) = V.int h), rfl, by rw [List.map_map]; exact sqL hl2, ?_⟩
      have e2 : ((ns.filter fun o => decide (o < (bs.length : Int))).map fun o => !decide (V.int (bs.getD o.toNat 0) = V.int h)).all id = fitsB ts bs h := by
        rw [Bool.eq_iff_iff]
        unfold fitsB
        simp only [List.all_eq_true, List.mem_map, List.mem_filter, decide_eq_true_eq, id]
        constructor
        · intro h1 o ho hlt
          have ho2 : (o : Int) ∈ ns := hp.mem_iff.mpr (List.mem_map.mpr ⟨o, ho, rfl⟩)
          have := h1 _ ⟨(o : Int), ⟨ho2, by omega⟩, rfl⟩
          simpa using this
        · rintro h1 _ ⟨o, ⟨ho, hlt⟩, rfl⟩
          obtain ⟨m, rfl, hm⟩ := perm_nat hp o ho
          have := h1 m hm (by omega)
          simpa using this
      rw [e2]
      exact q _ (s2.trans sm)
def spMany (R : Nat) : Sp := fun vs H Q _ => ∃ n ts Ls bs u v z r, vs = [u, v, z] ∧ WebV H n ts u ∧ ListsV H Ls v ∧ IntsV H bs z ∧ Ls.length = n ∧ (∀ L ∈ Ls, L.length ≤ 100) ∧ ts.length ≤ 10 ∧ n ≤ 5 ∧ bs.length + r = n ∧ r ≤ R ∧ ∀ H', Same H H' → Q (.int (cnt ts Ls r bs)) H'
theorem ok_many0 (T : TX K mg) : Cal P w K mg base 3 "many_of" (spMany 0) := by
  refine cal_of T.d_many_of sc_many_of (fun vs H Q E h => ?_) (fun f cdv A outer s H vs Q E hr h => ?_)
  · obtain ⟨n, ts, Ls, bs, u, v, z, r, rfl, _⟩ := h
    rfl
  · obtain ⟨n, ts, Ls, bs, u, v, z, r, rfl, ⟨p, x, rfl, hp, hx⟩, hv, ⟨a, rfl, ha⟩, hl, h100, htl, n5, hlen, hr0, q⟩ := h
    have hr1 : r = 0 := by omega
    subst hr1
    refine ⟨_, (pss_cons (ps_if (pt_cmpR op_eq (pe_callB (kcall_len (K := K) rfl) (by rfl) T.b_len bt_len (pa_cons (pv 2) pa_nil)) (pe_ix (kix_tup (K := K) rfl) (pv 0) pe_int (fun _ _ => rfl)) (nomark _)) (pss_one (ps_ret pe_int)) pss_nil) pss_never), ?_⟩
    refine ⟨_, rfl, a, _, rfl, .inr (sqT ha), _, rfl, p, _, 0, _, rfl, rfl, sqT hp, atI_nat (j := 0) rfl, rfl, true, ?_, ?_⟩
    · rw [List.length_map, decide_eq_true]
      show V.int (bs.length : Nat) = V.int (n : Nat)
      rw [← hlen]; rfl
    exact iteT (q _ (Same.refl _))
theorem ok_many (T : TX K mg) : ∀ R : Nat, Cal P w K mg base (R + 3) "many_of" (spMany R)
  | 0 => ok_many0 T
  | R + 1 => by
    have ih := ok_many T R
    refine cal_of T.d_many_of sc_many_of (fun vs H Q E h => ?_) (fun f cdv A outer s H vs Q E hr h => ?_)
    · obtain ⟨n, ts, Ls, bs, u, v, z, r, rfl, _⟩ := h
      rfl
    · obtain ⟨n, ts, Ls, bs, u, v, z, r, rfl, hw, hv, hz, hl, h100, htl, n5, hlen, hr0, q⟩ := h
      have hw' := hw
      obtain ⟨p, x, rfl, hp, hx⟩ := hw
      have hv' := hv
      obtain ⟨pl, xs, rfl, hpl, prl⟩ := hv
      have hz' := hz
      obtain ⟨a, rfl, ha⟩ := hz
      refine ⟨_, (pss_cons (ps_if (pt_cmpR op_eq (pe_callB (kcall_len (K := K) rfl) (by rfl) T.b_len bt_len (pa_cons (pv 2) pa_nil)) (pe_ix (kix_tup (K := K) rfl) (pv 0) pe_int (fun _ _ => rfl)) (nomark _)) (pss_one (ps_ret pe_int)) pss_nil) (pss_one (ps_ret (pe_callB (cr_sum rfl) (by rfl) T.b_sum bt_sum (pa_cons (pe_lc (own := [("hue", 3)]) rfl sc_many_of.nd (pi_tup (pe_ix (kix_tup (K := K) rfl) (pv 1) (pe_callB (kcall_len (K := K) rfl) (by rfl) T.b_len bt_len (pa_cons (pv 2) pa_nil)) (fun _ _ => rfl))) (blkOk_by (N := ["web", "lists", "begun", "hue"]) (sc := defScope s_many_of) (by decide +kernel)) (fun _ _ _ _ _ => (pg_name (i := 3) sc_many_of.nd rfl (Or.inl rfl))) (fun _ _ _ _ _ => (pts_one (pt_val (pe_k (ok_fits T) (hk := by omega) hr (pa_cons (pv 0) (pa_cons (pv 2) (pa_cons (pv 3) pa_nil))))))) (fun _ _ _ _ _ => (pe_k (ih) (hk := by omega) hr (pa_cons (pv 0) (pa_cons (pv 1) (pa_cons (pe_op op_catS (pv 2) (pe_tup (pa_cons (pv 3) pa_nil))) pa_nil)))))) pa_nil))))), ?_⟩
      refine ⟨_, rfl, a, _, rfl, .inr (sqT ha), _, rfl, p, _, 0, _, rfl, rfl, sqT hp, atI_nat (j := 0) rfl, rfl, decide (V.int (bs.length : Nat) = V.int (n : Nat)), by rw [List.length_map], ?_⟩
      cases r with
      | zero =>
        rw [decide_eq_true (by show V.int (bs.length : Nat) = V.int (n : Nat); rw [← hlen]; rfl)]
        exact iteT (q _ (Same.refl _))
      | succ r =>
        rw [decide_eq_false (fun e => by have := V.int.inj e; omega)]
        refine iteF ?_
        have hxl : xs.length = Ls.length := (Paired.length prl).symm
        have hbx : bs.length < xs.length := by omega
        obtain ⟨L, hL, ⟨la, eL, hla⟩⟩ := paired_at prl (List.getElem?_eq_getElem hbx)
        have hLm := List.mem_of_getElem? hL
        refine ⟨_, rfl, _, rfl, a, _, rfl, .inr (sqT ha), pl, xs, bs.length, .ref la, rfl, by rw [List.length_map], sqT hpl, atI_nat (by rw [List.getElem?_eq_getElem hbx, eL]), la, rfl, ⟨_, sqT hla⟩, fun D hD => ?_⟩
        refine lc_rel walk_tup hD (by rw [List.length_map]; have := h100 L hLm; omega) (keepAt L (fitsB ts bs)) (fun i y H => ∃ h, L[i]? = some h ∧ y = .int (cnt ts Ls r (bs ++ [h]))) (fun _ _ _ _ h _ => h) (fun H2 sm => same_seqT sm (sqT hla)) (fun i x H4 H3 hi sm hy K1 K2 k1 k2 => ?_) (fun H3 ys sm hl2 pr2 => ?_)
        · obtain ⟨rfl, hx⟩ := hy
          obtain ⟨o, ho, rfl⟩ := int_at hx
          rw [keepAt_some ho] at k1 k2
          refine ⟨rfl, _, rfl, _, rfl, _, rfl, n, ts, bs, _, _, o, rfl, WebV.t (Same.t sm) hw', IntsV.t (Same.t sm) hz', htl, fun H5 s5 => ⟨_, rfl, ?_⟩⟩
          by_cases c : fitsB ts bs o = true
          · rw [c]
            refine iteT (B := K2 H5) ⟨_, rfl, _, rfl, _, rfl, _, rfl, show 1 ≤ sizeLine by decide, fun b hb => ?_⟩
            have s6 : Same H3 (upd H5 b (.tup [.int o])) := s5.trans (same_new hb)
            have s06 := sm.trans s6
            refine ⟨a, b, _, _, rfl, rfl, s06 _ _ ha, upd_same, by rw [List.length_map]; show _ + 1 ≤ 100000; omega, fun H7 g s7 hg => ?_⟩
            have s07 := s06.trans s7
            refine ⟨n, ts, Ls, bs ++ [o], _, _, _, r, rfl, WebV.t (Same.t s07) hw', ListsV.t (Same.t s07) hv', ⟨g, rfl, by rw [hg, List.map_append]; rfl⟩, hl, h100, htl, n5, by rw [List.length_append]; show bs.length + 1 + r = n; omega, by omega, fun H8 s8 => ?_⟩
            exact k1 _ _ c (s6.trans (Same.trans s7 s8)) ⟨o, ho, rfl⟩
          · have c' : fitsB ts bs o = false := by simpa using c
            rw [c']
            exact iteF (k2 _ c' s5)
        · rw [List.length_map] at pr2
          have e := pick_all pr2
          subst e
          refine ⟨D, (L.filter (fitsB ts bs)).map fun h => cnt ts Ls r (bs ++ [h]), rfl, by rw [List.map_map]; exact sqL hl2, ?_⟩
          have e2 : ((L.filter (fitsB ts bs)).map fun h => cnt ts Ls r (bs ++ [h])).sum = cnt ts Ls (r + 1) bs := by
            show _ = (((Ls.getD bs.length []).filter (fitsB ts bs)).map fun h => cnt ts Ls r (bs ++ [h])).sum
            rw [List.getD_eq_getElem?_getD, hL]
            rfl
          rw [e2]
          exact q _ sm
end
end HL

set_option Elab.async false
set_option linter.all false
set_option maxRecDepth 100000
set_option maxHeartbeats 8000000
namespace HL
open PySem PySem.Spec L2
open PyProof.Rows (envOfC)
theorem cnt_nonneg (ts : List Tie) (Ls : List (List Int)) : ∀ (r : Nat) (bs : List Int), 0 ≤ cnt ts Ls r bs
  | 0, _ => by show (0 : Int) ≤ 1; decide
  | r + 1, bs => by
    show 0 ≤ (((Ls.getD bs.length []).filter (fitsB ts bs)).map fun h => cnt ts Ls r (bs ++ [h])).sum
    generalize (Ls.getD bs.length []).filter (fitsB ts bs) = l
    induction l with
    | nil => exact Int.le_refl _
    | cons h l ih =>
      rw [List.map_cons, List.sum_cons]
      have := cnt_nonneg ts Ls r (bs ++ [h])
      omega
theorem cnt_pos {ts : List Tie} {Ls : List (List Int)} {r : Nat} {bs : List Int} : 0 < cnt ts Ls (r + 1) bs ↔ ∃ h ∈ (Ls.getD bs.length []).filter (fitsB ts bs), 0 < cnt ts Ls r (bs ++ [h]) := by
  show 0 < (((Ls.getD bs.length []).filter (fitsB ts bs)).map fun h => cnt ts Ls r (bs ++ [h])).sum ↔ _
  generalize (Ls.getD bs.length []).filter (fitsB ts bs) = l
  have hn : ∀ l : List Int, 0 ≤ (l.map fun h => cnt ts Ls r (bs ++ [h])).sum := fun l => by
    induction l with
    | nil => exact Int.le_refl _
    | cons h l ih =>
      rw [List.map_cons, List.sum_cons]
      have := cnt_nonneg ts Ls r (bs ++ [h])
      omega
  induction l with
  | nil => simp
  | cons h l ih =>
    rw [List.map_cons, List.sum_cons]
    have h1 := cnt_nonneg ts Ls r (bs ++ [h])
    have h2 := hn l
    constructor
    · intro h3
      by_cases c : 0 < cnt ts Ls r (bs ++ [h])
      · exact ⟨h, List.mem_cons_self, c⟩
      · obtain ⟨x, hx, hc⟩ := ih.mp (by omega)
        exact ⟨x, List.mem_cons_of_mem _ hx, hc⟩
    · rintro ⟨x, hx, hc⟩
      rcases List.mem_cons.mp hx with rfl | hx
      · omega
      · have := ih.mpr ⟨x, hx, hc⟩
        omega
/-- a choice of the lists, no tie alike, is counted -/
theorem cnt_of {ts : List Tie} {Ls : List (List Int)} {h : List Int} (hp : InPi h Ls) (hd : ∀ t ∈ ts, h.getD t.1 0 ≠ h.getD t.2 0) :
    ∀ r, r ≤ Ls.length → 0 < cnt ts Ls r (h.take (Ls.length - r))
  | 0, _ => by show (0 : Int) < 1; decide
  | r + 1, hr => by
    have hl := hp.length
    have hk : Ls.length - (r + 1) < h.length := by omega
    have e1 : h.take (Ls.length - r) = h.take (Ls.length - (r + 1)) ++ [h.getD (Ls.length - (r + 1)) 0] := by
      have : Ls.length - r = Ls.length - (r + 1) + 1 := by omega
      rw [this, List.take_succ, List.getD_eq_getElem?_getD, List.getElem?_eq_getElem hk]
      rfl
    have ih := cnt_of hp hd r (by omega)
    rw [e1] at ih
    have hlen : (h.take (Ls.length - (r + 1))).length = Ls.length - (r + 1) := by rw [List.length_take]; omega
    refine cnt_pos.mpr ⟨_, List.mem_filter.mpr ⟨?_, ?_⟩, ih⟩
    · rw [hlen]
      exact hp.get _ (by omega)
    · unfold fitsB
      rw [hlen, List.all_eq_true]
      intro o ho
      refine decide_eq_true fun hlt => ?_
      unfold nbrs at ho
      obtain ⟨t, h1, h2⟩ := List.mem_map.mp ho
      obtain ⟨h3, h4⟩ := List.mem_filter.mp h1
      have h5 := of_decide_eq_true h4
      have e2 : (h.take (Ls.length - (r + 1))).getD o 0 = h.getD o 0 := by
        rw [List.getD_eq_getElem?_getD, List.getD_eq_getElem?_getD, List.getElem?_take_of_lt hlt]
      rw [e2]
      have h7 := hd t h3
      rcases h5 with h5 | h5
      · have : o = t.2 := by omega
        rw [this, h5]
        exact fun e => h7 e.symm
      · have : o = t.1 := by omega
        rw [this, h5]
        exact h7
section
variable {P : Program} {w : World} {K : PySem.W.Frag} {mg : Str → Option Value} {base : Heap}
def spFirst : Sp := fun vs H Q _ => ∃ n ts Ls u v, vs = [u, v] ∧ WebV H n ts u ∧ ListsV H Ls v ∧ Ls.length = n ∧ (∀ L ∈ Ls, L.length ≤ 100) ∧ ts.length ≤ 10 ∧ n ≤ 5 ∧ 0 < cnt ts Ls n [] ∧ ∀ H' r, Same H H' → Q (.ref r) H'
theorem ok_first_of (T : TX K mg) : Cal P w K mg base 9 "first_of" spFirst := by
  refine cal_of T.d_first_of sc_first_of (fun vs H Q E h => ?_) (fun f cdv A outer s H vs Q E hr h => ?_)
  · obtain ⟨n, ts, Ls, u, v, rfl, _⟩ := h
    rfl
  · obtain ⟨n, ts, Ls, u, v, rfl, hw, hv, hl, h100, htl, n5, hc, q⟩ := h
    have hw' := hw
    obtain ⟨p, x, rfl, hp, hx⟩ := hw
    have hv' := hv
    obtain ⟨pl, xs, rfl, hpl, prl⟩ := hv
    refine ⟨_, (pss_cons (ps_set (i := 2) sc_first_of.nd rfl (Or.inr rfl) (pe_tup pa_nil)) (pss_cons (ps_while PassesOwn.never (pt_cmpR op_lt (pe_callB (kcall_len (K := K) rfl) (by rfl) T.b_len bt_len (pa_cons (pv 2) pa_nil)) (pe_ix (kix_tup (K := K) rfl) (pv 0) pe_int (fun _ _ => rfl)) (nomark _)) (pss_cons (ps_setLc (i := 3) (own := [("hue", 4)]) rfl sc_first_of.nd rfl rfl rfl (pi_tup (pe_ix (kix_tup (K := K) rfl) (pv 1) (pe_callB (kcall_len (K := K) rfl) (by rfl) T.b_len bt_len (pa_cons (pv 2) pa_nil)) (fun _ _ => rfl))) (blkOk_by (N := ["web", "lists", "found", "some", "hue"]) (sc := defScope s_first_of) (by decide +kernel)) (fun _ _ _ _ _ => (pg_name (i := 4) sc_first_of.nd rfl (Or.inl rfl))) (fun _ _ _ _ _ => (pts_one (pt_val (pe_k (ok_fits T) hr (pa_cons (pv 0) (pa_cons (pv 2) (pa_cons (pv 4) pa_nil))))))) (fun _ _ _ _ _ => (pv 4))) (pss_cons (ps_setLc (i := 3) (own := [("hue", 4)]) rfl sc_first_of.nd rfl rfl rfl (pi_list (pv 3)) (blkOk_by (N := ["web", "lists", "found", "some", "hue"]) (sc := defScope s_first_of) (by decide +kernel)) (fun _ _ _ _ _ => (pg_name (i := 4) sc_first_of.nd rfl (Or.inl rfl))) (fun _ _ _ _ _ => (pts_one (pt_cmpR op_gt (pe_k (ok_many T 5) hr (pa_cons (pv 0) (pa_cons (pv 1) (pa_cons (pe_op op_catS (pv 2) (pe_tup (pa_cons (pv 4) pa_nil))) pa_nil)))) pe_int (nomark _)))) (fun _ _ _ _ _ => (pv 4))) (pss_cons (ps_if (pt_cmpR (kop_eqE (K := K) rfl (hu64 hr)) (pv 3) (pe_lst pa_nil) (nomark _)) (pss_one (ps_ret pe_non)) pss_nil) (pss_one (ps_set (i := 2) sc_first_of.nd rfl (Or.inr rfl) (pe_op op_catS (pv 2) (pe_tup (pa_cons (pe_ix (kix_list (K := K) rfl) (pv 3) pe_int (fun _ _ => rfl)) pa_nil))))))))) (pss_one (ps_ret (pv 2))))), ?_⟩
    refine ⟨show 0 ≤ sizeLine by decide, fun b hb => ?_⟩
    refine ⟨fun m σ H1 => ∃ bs b a3 a4, σ = [some (.ref p), some (.ref pl), some (.ref b), a3, a4] ∧ Same H H1 ∧ TupAt H1 b bs ∧ bs.length + m = n ∧ 0 < cnt ts Ls m bs, ⟨n, [], b, _, _, rfl, same_new hb, upd_same, by simp, hc⟩, fun m σ H1 h => ?_⟩
    obtain ⟨bs, b, a3, a4, rfl, s1, hb1, hlen, hc1⟩ := h
    refine ⟨_, rfl, b, _, rfl, .inr (sqT hb1), _, rfl, p, _, 0, _, rfl, rfl, sqT (s1 _ _ hp), atI_nat (j := 0) rfl, _, _, rfl, rfl, decide ((bs.length : Int) < (n : Int)), by rw [List.length_map], ?_⟩
    cases m with
    | zero =>
      rw [decide_eq_false (by omega)]
      refine iteF ?_
      exact ⟨_, rfl, q _ _ s1⟩
    | succ m =>
      rw [decide_eq_true (by omega)]
      refine iteT ⟨fun σ H1 => ∃ bs b a3 a4, σ = [some (.ref p), some (.ref pl), some (.ref b), a3, a4] ∧ Same H H1 ∧ TupAt H1 b bs ∧ bs.length + m = n ∧ 0 < cnt ts Ls m bs, fun σ' H' h => ⟨m, Nat.lt_succ_self _, h⟩, ?_⟩
      have hxl : xs.length = Ls.length := (Paired.length prl).symm
      have hbx : bs.length < xs.length := by omega
      obtain ⟨L, hL, ⟨la, eL, hla⟩⟩ := paired_at prl (List.getElem?_eq_getElem hbx)
      have hLm := List.mem_of_getElem? hL
      have hLl := h100 L hLm
      have eLd : Ls.getD bs.length [] = L := by rw [List.getD_eq_getElem?_getD, hL]; rfl
      refine ⟨_, rfl, _, rfl, b, _, rfl, .inr (sqT hb1), pl, xs, bs.length, .ref la, rfl, by rw [List.length_map], sqT (s1 _ _ hpl), atI_nat (by rw [List.getElem?_eq_getElem hbx, eL]), la, rfl, ⟨_, sqT (s1 _ _ hla)⟩, fun D hD => ?_⟩
      refine lc_rel walk_tup hD (by rw [List.length_map]; omega) (keepAt L (fitsB ts bs)) (fun i y H => ∃ h, L[i]? = some h ∧ y = .int h) (fun _ _ _ _ h _ => h) (fun H2 sm => same_seqT sm (sqT (s1 _ _ hla))) (fun i x H4 H3 hi sm hy K1 K2 k1 k2 => ?_) (fun H3 ys sm hl2 pr2 => ?_)
      · obtain ⟨rfl, hx⟩ := hy
        obtain ⟨o, ho, rfl⟩ := int_at hx
        rw [keepAt_some ho] at k1 k2
        have s13 := s1.trans sm
        refine ⟨rfl, _, rfl, _, rfl, _, rfl, n, ts, bs, _, _, o, rfl, WebV.t (Same.t s13) hw', ⟨b, rfl, sm _ _ hb1⟩, htl, fun H5 s5 => ⟨_, rfl, ?_⟩⟩
        by_cases c : fitsB ts bs o = true
        · rw [c]
          exact iteT (B := K2 H5) ⟨_, rfl, k1 _ _ c s5 ⟨o, ho, rfl⟩⟩
        · have c' : fitsB ts bs o = false := by simpa using c
          rw [c']
          exact iteF (k2 _ c' s5)
      rw [List.length_map] at pr2
      have e := pick_all pr2
      subst e
      have s13 := s1.trans sm
      have hml : (L.filter (fitsB ts bs)).length ≤ 100 := Nat.le_trans (List.length_filter_le _ _) hLl
      have hmm := cnt_pos.mp hc1
      rw [eLd] at hmm
      generalize L.filter (fitsB ts bs) = M at *
      refine ⟨_, rfl, D, rfl, ⟨_, sqL hl2⟩, fun D2 hD2 => ?_⟩
      refine lc_rel walk_list hD2 (by rw [List.length_map]; omega) (keepAt M fun h => decide (0 < cnt ts Ls m (bs ++ [h]))) (fun i y H => ∃ h, M[i]? = some h ∧ y = .int h) (fun _ _ _ _ h _ => h) (fun H2 sm => sqL (sm _ _ hl2)) (fun i x H5 H4 hi sm2 hy K1 K2 k1 k2 => ?_) (fun H4 ys sm2 hl3 pr3 => ?_)
      · obtain ⟨rfl, hx⟩ := hy
        obtain ⟨o, ho, rfl⟩ := int_at hx
        rw [keepAt_some ho] at k1 k2
        have s14 := s13.trans sm2
        refine ⟨rfl, _, rfl, _, rfl, _, rfl, _, rfl, show 1 ≤ sizeLine by decide, fun c hc => ?_⟩
        have s5 : Same H4 (upd H4 c (.tup [.int o])) := same_new hc
        have s15 := s14.trans s5
        refine ⟨b, c, _, _, rfl, rfl, s5 _ _ (sm2 _ _ (sm _ _ hb1)), upd_same, by rw [List.length_map]; show _ + 1 ≤ 100000; omega, fun H7 g s7 hg => ?_⟩
        have s17 := s15.trans s7
        refine ⟨n, ts, Ls, bs ++ [o], _, _, _, m, rfl, WebV.t (Same.t s17) hw', ListsV.t (Same.t s17) hv', ⟨g, rfl, by rw [hg, List.map_append]; rfl⟩, hl, h100, htl, n5, by rw [List.length_append]; show bs.length + 1 + m = n; omega, by omega, fun H8 s8 => ?_⟩
        have s48 : Same H4 H8 := s5.trans (Same.trans s7 s8)
        refine ⟨_, 0, rfl, rfl, _, rfl, ?_⟩
        by_cases c : 0 < cnt ts Ls m (bs ++ [o])
        · rw [decide_eq_true c]
          exact iteT (B := K2 H8) ⟨_, rfl, k1 _ _ (decide_eq_true c) s48 ⟨o, ho, rfl⟩⟩
        · rw [decide_eq_false c]
          exact iteF (k2 _ (decide_eq_false c) s48)
      rw [List.length_map] at pr3
      have e := pick_all pr3
      subst e
      have s14 := s13.trans sm2
      obtain ⟨h0, hm0, hc0⟩ := hmm
      have hmem : h0 ∈ M.filter fun h => decide (0 < cnt ts Ls m (bs ++ [h])) := List.mem_filter.mpr ⟨hm0, decide_eq_true hc0⟩
      have hall : ∀ h ∈ M.filter (fun h => decide (0 < cnt ts Ls m (bs ++ [h]))), 0 < cnt ts Ls m (bs ++ [h]) := fun h hh => of_decide_eq_true (List.mem_filter.mp hh).2
      generalize M.filter (fun h => decide (0 < cnt ts Ls m (bs ++ [h]))) = N at *
      cases N with
      | nil => exact nomatch hmem
      | cons h1 N =>
        refine ⟨_, rfl, show 0 ≤ sizeLine by decide, fun e he => ⟨D2, e, _, rfl, rfl, .inl ⟨sqL ((same_new he) _ _ hl3), sqL upd_same⟩, .inl ⟨h1 :: N, rfl⟩, _, rfl, ?_⟩⟩
        refine iteF ?_
        have s15 := s14.trans (same_new (o := .lst []) he)
        have hb5 : TupAt (upd H4 e (.lst [])) b bs := (same_new he) _ _ (sm2 _ _ (sm _ _ hb1))
        refine ⟨_, rfl, _, rfl, D2, _, 0, _, rfl, rfl, sqL ((same_new he) _ _ hl3), atI_nat (j := 0) rfl, show 1 ≤ sizeLine by decide, fun g hg => ?_⟩
        have s6 : Same (upd H4 e (.lst [])) (upd (upd H4 e (.lst [])) g (.tup [.int h1])) := same_new hg
        refine ⟨b, g, _, _, rfl, rfl, s6 _ _ hb5, upd_same, by rw [List.length_map]; show _ + 1 ≤ 100000; omega, fun H7 k s7 hk => ?_⟩
        exact ⟨bs ++ [h1], k, _, _, rfl, (s15.trans s6).trans s7, by show H7 k = _; rw [hk, List.map_append]; rfl, by rw [List.length_append]; show bs.length + 1 + m = n; omega, hall h1 List.mem_cons_self⟩
def spFirstChoice : Sp := fun vs H Q _ => ∃ n ts Ls u v, vs = [u, v] ∧ WebV H n ts u ∧ ListsV H Ls v ∧ WebOk n ts ∧ Ls.length = n ∧ (∀ L ∈ Ls, ListOk L) ∧ 0 < cnt ts Ls n [] ∧ ∀ H' r, Same H H' → Q (.ref r) H'
theorem ok_first_choice (T : TX K mg) : Cal P w K mg base 10 "first_choice" spFirstChoice := by
  refine cal_of T.d_first_choice sc_first_choice (fun vs H Q E h => ?_) (fun f cdv A outer s H vs Q E hr h => ?_)
  · obtain ⟨n, ts, Ls, u, v, rfl, _⟩ := h
    rfl
  · obtain ⟨n, ts, Ls, u, v, rfl, hw, hv, ok, hl, lok, hc, q⟩ := h
    refine ⟨_, (pss_cons (ps_expr (pe_k (ok_need_lists T) hr (pa_cons (pv 0) (pa_cons (pv 1) pa_nil)))) (pss_one (ps_ret (pe_k (ok_first_of T) hr (pa_cons (pv 0) (pa_cons (pv 1) pa_nil)))))), ?_⟩
    refine ⟨_, rfl, _, rfl, n, ts, Ls, v, u, rfl, hv, hw, ok, hl, lok, fun H2 s2 => ?_⟩
    exact ⟨_, rfl, _, rfl, n, ts, Ls, u, v, rfl, WebV.t (Same.t s2) hw, ListsV.t (Same.t s2) hv, hl, fun L hL => by have := (lok L hL).len; omega, ok.len, ok.n5, hc, fun H3 r s3 => q _ _ (s2.trans s3)⟩
end
end HL

set_option Elab.async false
set_option linter.all false
set_option maxRecDepth 100000
set_option maxHeartbeats 4000000
namespace HL
open PySem PySem.Spec L2
/-! a tuple made from a list, its object known; the index in such a tuple -/
def FTup (H : Hp) (a : Addr) (xs : List V) : Prop := ∃ o, H a = some (.frz o (.tup xs)) ∧ o.cls = .type "tuple" ∧ o.dict = none
theorem FTup.s {H H' : Hp} {a : Addr} {xs : List V} (e : Same H H') (h : FTup H a xs) : FTup H' a xs := let ⟨o, h1, h2, h3⟩ := h; ⟨o, e _ _ h1, h2, h3⟩
theorem FTup.q {K : PySem.W.Frag} {H : Hp} {a : Addr} {xs : List V} (h : FTup H a xs) : SqT K H a xs := let ⟨o, h1, _⟩ := h; .inl (.inr ⟨o, h1⟩)
section
open PyProof.Rows
theorem call_tupF {X : Cx} : CallR X (.type "tuple") (fun xs H Q => ∃ p ys, xs = [.ref p] ∧ SqL X.K H p ys ∧ ∀ l o, H l = none → o.cls = .type "tuple" → o.dict = none → Q (.ref l) (upd H l (.frz o (.tup ys)))) := by
  intro pins s σ H xs us Q I r h
  obtain ⟨p, ys, rfl, hq, q⟩ := h
  obtain ⟨u, rfl, rx⟩ := vals1 r
  cases rx
  obtain ⟨its, r', pl, hz⟩ := I.list hq
  have hlen := r'.length
  refine call_tuple_list pl.isList (fun h' kp => ?_) (by simp only [List.size_toArray] <;> omega)
  have I1 : Inv X pins σ H { s with heap := h' } := I.kept (t' := s.toks) kp
  have I2 : Inv X pins σ (upd H h'.objs.size (.frz { cls := .type "tuple", data := .seq its.toArray } (.tup ys))) { s with heap := h'.push { cls := .type "tuple", data := .seq its.toArray } } :=
    I1.laid (t' := s.toks) (fun b o e => Heap.get?_push_of_some _ e) (Nat.le_refl _) (show ObjOk X.prog X.w _ _ _ (.frz _ (.tup ys)) from ⟨Heap.get?_push_size _ rfl, hz, its, r', IsTup.new _ _⟩)
  exact ⟨.ref h'.objs.size, _, I2, rfl, q _ _ (I1.hok.fresh (Nat.le_refl _)) rfl rfl⟩
end
def tIdxF (to te : TE) : TE := fun σ H Q => to σ H fun x H1 => (∃ p ys, x = .ref p ∧ FTup H1 p ys) ∧ te σ H1 fun y H2 => ∃ p, ∃ ys : List Int, ∃ z j, x = .ref p ∧ y = .int z ∧ FTup H2 p (ys.map V.int) ∧ ys[j]? = some z ∧ (∀ m, m < j → ys[m]? ≠ some z) ∧ Q (.int (j : Nat)) H2
theorem pe_idxF {X : Cx} {o e : Expr} {to te : TE} {apos cpos : Pos} (ho : PE X o to) (he : PE X e te)
    (hbase : attributeBase o "index" X.env (eval o X.env) = eval o X.env := by rfl)
    (hfew : ((backTo cpos (starEach [e] X.env)).all (fun x => !x.1) && (backToKw cpos (keywordEach [] X.env)).all (fun x => x.1.isSome)
      && decide (([e] : List Expr).length + ([] : List Keyword).length + (if ([] : List Keyword).isEmpty then 0 else 1) < 30)) = true := by rfl)
    (hline : (apos.endLine == cpos.line) = true := by rfl) (hs : starEach [e] X.env = (false, eval e X.env) :: starEach [] X.env := by rfl) (hplain : (backTo cpos (starEach [] X.env)).any (·.1) = false := by rfl) :
    PE X (.Call (.Attribute o "index" apos) [e] [] cpos) (tIdxF to te) := by
  refine ⟨fun pins s σ H Q I h => ?_⟩
  refine PySem.wpAny_Call_method_late hbase hfew hline rfl (thn (ho.run pins s σ H _ I h) fun v s1 ⟨x, H1, I1, r1, ⟨p, ys, ex, ob, h1, h2, h3⟩, q1⟩ => ?_)
  subst ex
  cases (show v = Value.ref p from r1)
  obtain ⟨g, _⟩ := (show s1.heap.get? p = some ob ∧ _ from I1.hok p _ h1)
  refine ⟨"tuple", "tuple.index", PySem.F.plainAttrs_tuple, PySem.F.slot_tuple_index, PySem.F.type_tuple_index, ⟨ob, g, h2⟩, fun a e => by cases e; exact ⟨ob, g, h3⟩, ?_⟩
  have hA := (pa_cons he pa_nil hs).run cpos pins s1 σ H1 (fun vs H2 => match vs with
    | [y] => ∃ p', ∃ ys : List Int, ∃ z j, V.ref p = .ref p' ∧ y = .int z ∧ FTup H2 p' (ys.map V.int) ∧ ys[j]? = some z ∧ (∀ m, m < j → ys[m]? ≠ some z) ∧ Q (.int (j : Nat)) H2
    | _ => False) I1 q1
  rw [hs] at hA ⊢
  refine Calls.callWith_builtin (by show (false || (backTo cpos (starEach [] X.env)).any (·.1)) = false; rw [hplain] <;> rfl) (Calls.evalArgs_plain ?_)
  refine thn hA fun us s2 ⟨vs, H2, I2, r2, q2⟩ => ?_
  match vs, q2 with
  | [y], ⟨p', ys, z, j, e1, e2, e3, e4, e5, q⟩ =>
    subst e2
    cases e1
    exact mt_tup_indexI pins s2 σ H2 _ _ _ us Q I2 (show RelV (.ref p) (.ref p) from rfl) r2 ⟨p, ys, z, j, rfl, rfl, e3.q, e4, e5, q⟩
end HL

set_option Elab.async false
set_option linter.all false
set_option maxRecDepth 100000
set_option maxHeartbeats 8000000
namespace HL
open PySem PySem.Spec L2
open PyProof.Rows (envOfC)
inductive Peel (ts : List Tie) (ss : List Int) (n : Nat) : List Nat → List Nat → Prop
  | start : Peel ts ss n [] (List.range n)
  | step {gone left : List Nat} {x j : Nat} : Peel ts ss n gone left → left[j]? = some x → ((((nbrs ts x).filter fun o => decide (o ∈ left)).length : Nat) : Int) < ss.getD x 0 → Peel ts ss n (x :: gone) (left.eraseIdx j)
theorem Peel.sub {ts : List Tie} {ss : List Int} {n : Nat} {gone left : List Nat} (h : Peel ts ss n gone left) : left.Sublist (List.range n) := by
  induction h with
  | start => exact List.Sublist.refl _
  | step _ _ _ ih => exact (List.eraseIdx_sublist ..).trans ih
theorem Peel.len {ts : List Tie} {ss : List Int} {n : Nat} {gone left : List Nat} (h : Peel ts ss n gone left) : gone.length + left.length = n := by
  induction h with
  | start => simp
  | @step gone left x j _ hj _ ih =>
    have := (List.getElem?_eq_some_iff.mp hj).1
    rw [List.length_cons, List.length_eraseIdx, if_pos this]
    omega
theorem flatV_ints (ns : List Int) : (ns.map V.int).all flatV = true := by
  rw [List.all_map, List.all_eq_true]
  exact fun _ _ => rfl
theorem toI_len (l : List Nat) : (toI l).length = l.length := List.length_map ..
theorem toI_at {l : List Nat} {i : Nat} {x : Int} (h : (toI l)[i]? = some x) : ∃ m : Nat, l[i]? = some m ∧ x = (m : Int) := by
  unfold toI at h
  rw [List.getElem?_map] at h
  obtain ⟨z, h1, h2⟩ := Option.map_eq_some_iff.mp h
  exact ⟨z, h1, h2.symm⟩
theorem mem_toI {l : List Nat} {m : Nat} : ((m : Int) ∈ toI l) ↔ m ∈ l := by
  unfold toI
  rw [List.mem_map]
  constructor
  · rintro ⟨a, h, e⟩
    have : a = m := by omega
    exact this ▸ h
  · exact fun h => ⟨m, h, rfl⟩
theorem first_at {α : Type} [DecidableEq α] : ∀ {l : List α} {x : α}, x ∈ l → ∃ j : Nat, l[j]? = some x ∧ ∀ m : Nat, m < j → l[m]? ≠ some x
  | a :: l, x, h => by
    by_cases e : a = x
    · exact ⟨0, by simp [e], fun m hm => absurd hm (Nat.not_lt_zero m)⟩
    · have : x ∈ l := by
        rcases List.mem_cons.mp h with h | h
        · exact absurd h.symm e
        · exact h
      obtain ⟨j, h1, h2⟩ := first_at this
      refine ⟨j + 1, by simpa using h1, fun m hm => ?_⟩
      cases m with
      | zero => simpa using e
      | succ m => simpa using h2 m (by omega)
theorem toI_erase (l : List Nat) (j : Nat) : (toI l).eraseIdx j = toI (l.eraseIdx j) := by
  unfold toI
  induction l generalizing j with
  | nil => rfl
  | cons a l ih =>
    cases j with
    | zero => rfl
    | succ j => simp only [List.map_cons, List.eraseIdx_cons_succ, ih]
def canGo (ts : List Tie) (ss : List Int) (left : List Nat) (x : Nat) : Bool := decide (((((nbrs ts x).filter fun o => decide (o ∈ left)).length : Nat) : Int) < ss.getD x 0)
theorem perm_count {ns : List Int} {l left : List Nat} (h : ns.Perm (toI l)) : (ns.filter fun o => decide (o ∈ toI left)).length = (l.filter fun o => decide (o ∈ left)).length := by
  rw [(h.filter _).length_eq]
  unfold toI
  rw [List.filter_map, List.length_map]
  congr 1
  refine List.filter_congr fun x _ => ?_
  exact decide_eq_decide.mpr mem_toI
section
variable {P : Program} {w : World} {K : PySem.W.Frag} {mg : Str → Option Value} {base : Heap}
def spPeeled : Sp := fun vs H Q _ => ∃ n ts ss u v, vs = [u, v] ∧ WebV H n ts u ∧ IntsV H ss v ∧ ss.length = n ∧ n ≤ 5 ∧ ts.length ≤ 10 ∧
  ∀ H' r a b gone left, Same H H' → H' r = some (.tup [.ref a, .ref b]) → TupAt H' a (toI gone) → FTup H' b ((toI left).map V.int) → Peel ts ss n gone left → Q (.ref r) H'
def PWh (H0 : Hp) (u v : V) (ts : List Tie) (ss : List Int) (n m : Nat) (σ : L2.St) (H : Hp) : Prop :=
  ∃ gone left lf gn b a5 a6 a7, σ = [some u, some v, some (.ref lf), some (.ref gn), some (.bl b), a5, a6, a7] ∧ Same H0 H ∧ H0 lf = none ∧ H0 gn = none ∧ lf ≠ gn ∧ H lf = some (.lst ((toI left).map V.int)) ∧ H gn = some (.lst ((toI gone).map V.int)) ∧ Peel ts ss n gone left ∧
    m = if b = true then left.length + 1 else 0
def PFor (H1 : Hp) (u v : V) (lf gn sm : Addr) (l : List Nat) (σ : L2.St) (H : Hp) : Prop :=
  ∃ a6 a7, σ = [some u, some v, some (.ref lf), some (.ref gn), some (.bl true), some (.ref sm), a6, a7] ∧ Same H1 H ∧ H1 sm = none ∧ H sm = some (.lst ((toI l).map V.int))
theorem ok_peeled (T : TX K mg) : Cal P w K mg base 2 "peeled" spPeeled := by
  refine cal_of T.d_peeled sc_peeled (fun vs H Q E h => ?_) (fun f cdv A outer s H vs Q E hr h => ?_)
  · obtain ⟨n, ts, ss, u, v, rfl, _⟩ := h
    rfl
  · obtain ⟨n, ts, ss, u, v, rfl, hw, ⟨pv', rfl, hpv⟩, hsl, n5, htl, q⟩ := h
    have hw' := hw
    obtain ⟨p, x, rfl, hp, hx⟩ := hw
    refine ⟨_, (pss_cons (ps_set (i := 2) sc_peeled.nd rfl (Or.inr rfl) (pe_listRg rfl (by rfl) T.b_list (prg_1 (by rfl) T.b_range (pe_ix (kix_tup (K := K) rfl) (pv 0) pe_int (fun _ _ => rfl))))) (pss_cons (ps_set (i := 3) sc_peeled.nd rfl (Or.inl rfl) (pe_lst pa_nil)) (pss_cons (ps_set (i := 4) sc_peeled.nd rfl (Or.inl rfl) pe_bl) (pss_cons (ps_while PassesOwn.never (pt_val (pv 4)) (pss_cons (ps_set (i := 5) sc_peeled.nd rfl (Or.inl rfl) (pe_lst pa_nil)) (pss_cons (ps_for PassesOwn.never rfl (pi_list (pv 2)) (pg_name (i := 6) sc_peeled.nd rfl (Or.inl rfl)) (pss_one (ps_if (pt_cmpR op_gt (pe_ix (kix_tup (K := K) rfl) (pv 1) (pv 6) (fun _ _ => rfl)) (pe_callB (kcall_len (K := K) rfl) (by rfl) T.b_len bt_len (pa_cons (pe_lc (own := [("other", 7)]) rfl sc_peeled.nd (pi_tup (pe_k (ok_tied_to T) hr (pa_cons (pv 0) (pa_cons (pv 6) pa_nil)))) (blkOk_by (N := ["web", "sizes", "left", "gone", "more", "some", "place", "other"]) (sc := defScope s_peeled) (by decide +kernel)) (fun _ _ _ _ _ => (pg_name (i := 7) sc_peeled.nd rfl (Or.inl rfl))) (fun _ _ _ _ _ => (pts_one (pt_cmpR (kop_in (K := K) rfl) (pv 7) (pv 2) rfl))) (fun _ _ _ _ _ => (pv 7))) pa_nil)) (nomark _)) (pss_one (ps_expr (pe_bm PySem.F.plainAttrs_list PySem.F.slot_list_append PySem.F.type_list_append (mt_append) (pv 5) (pa_cons (pv 6) pa_nil)))) pss_nil))) (pss_cons (ps_set (i := 4) sc_peeled.nd rfl (Or.inl rfl) (pe_cmpR (kop_neE (K := K) rfl (hu64 hr)) (pv 5) (pe_lst pa_nil) (nomark _))) (pss_one (ps_if (pt_val (pv 4)) (pss_cons (ps_expr (pe_bm PySem.F.plainAttrs_list PySem.F.slot_list_insert PySem.F.type_list_insert (mt_insert) (pv 3) (pa_cons pe_int (pa_cons (pe_ix (kix_list (K := K) rfl) (pv 5) pe_int (fun _ _ => rfl)) pa_nil)))) (pss_one (ps_expr (pe_bm PySem.F.plainAttrs_list PySem.F.slot_list_remove PySem.F.type_list_remove (mt_remove) (pv 2) (pa_cons (pe_ix (kix_list (K := K) rfl) (pv 5) pe_int (fun _ _ => rfl)) pa_nil))))) pss_nil)))))) (pss_one (ps_ret (pe_tup (pa_cons (pe_callTy (call_tuple_of) (by rfl) T.b_tuple bt_tuple (pa_cons (pv 3) pa_nil)) (pa_cons (pe_callTy (call_tupF) (by rfl) T.b_tuple bt_tuple (pa_cons (pv 2) pa_nil)) pa_nil))))))))), ?_⟩
    refine ⟨_, rfl, p, _, 0, _, rfl, rfl, sqT hp, atI_nat (j := 0) rfl, (n : Int), rfl, RgOk.of_le (by omega) (by omega) (by omega) (by omega), fun lf hlf => ?_⟩
    have s1 : Same H (upd H lf (.lst (rgV 0 n))) := same_new hlf
    refine ⟨show 0 ≤ sizeLine by decide, fun gn hgn => ?_⟩
    have s2 := s1.trans (same_new (o := .lst []) hgn)
    have hne : lf ≠ gn := fun e => by rw [← e, upd_same] at hgn; exact nomatch hgn
    have hgn0 : H gn = none := s1.free hgn
    have erg : rgV 0 (n : Int) = (toI (List.range n)).map V.int := by
      unfold rgV toI
      rw [List.map_map, show ((n : Int) - 0).toNat = n by omega]
      refine List.map_congr_left fun i _ => ?_
      show V.int (0 + (i : Int)) = V.int (i : Int)
      rw [Int.zero_add]
    refine ⟨fun m σ H1 => PWh H (.ref p) (.ref pv') ts ss n m σ H1, ⟨_, [], List.range n, lf, gn, true, _, _, _, rfl, s2, hlf, hgn0, hne, ?_, upd_same, .start, rfl⟩, fun m σ H1 h => ?_⟩
    · rw [upd_ne hne, upd_same, erg]
    obtain ⟨gone, left, lf, gn, b, a5, a6, a7, rfl, s3, hlf0, hgn0, hne, hl1, hg1, pe, hm⟩ := h
    refine ⟨_, rfl, b, rfl, ?_⟩
    cases b with
    | false =>
      refine iteF ?_
      refine ⟨_, rfl, gn, _, rfl, .inl ⟨sqL hg1, fun a ha => ?_⟩⟩
      have u1 : Same H1 (upd H1 a (.tup ((toI gone).map V.int))) := same_new ha
      refine ⟨_, rfl, lf, _, rfl, sqL (u1 _ _ hl1), fun b o hb ho1 ho2 => ⟨show 2 ≤ sizeLine by decide, fun c hc => ?_⟩⟩
      have u2 : Same _ (upd (upd H1 a (.tup ((toI gone).map V.int))) b (.frz o (.tup ((toI left).map V.int)))) := same_new hb
      have u3 : Same _ (upd (upd (upd H1 a (.tup ((toI gone).map V.int))) b (.frz o (.tup ((toI left).map V.int)))) c (.tup [.ref a, .ref b])) := same_new hc
      exact q _ c a b gone left (s3.trans (u1.trans (u2.trans u3))) upd_same (u3 _ _ (u2 _ _ upd_same)) ⟨o, u3 _ _ upd_same, ho1, ho2⟩ pe
    | true =>
      have hm' : m = left.length + 1 := hm
      have hlen := pe.len
      refine iteT ⟨fun σ H' => ∃ m', m' < m ∧ PWh H (.ref p) (.ref pv') ts ss n m' σ H', fun σ' H' h => h, ?_⟩
      refine ⟨show 0 ≤ sizeLine by decide, fun sm hsm => ?_⟩
      refine ⟨_, rfl, lf, rfl, ⟨_, sqL ((same_new hsm) _ _ hl1)⟩, ?_⟩
      refine for_it (walk_list (xs := (toI left).map V.int)) (fun i σ H2 => PFor H1 (.ref p) (.ref pv') lf gn sm ((left.take i).filter (canGo ts ss left)) σ H2) ⟨_, _, rfl, same_new hsm, hsm, upd_same⟩ (fun i σ H2 _ h => ?_) (fun i x σ H3 H2 hi h y => ?_) (fun σ H2 h => ?_)
      · obtain ⟨_, _, _, sm2, _⟩ := h
        exact sqL (sm2 _ _ hl1)
      · obtain ⟨a6, a7, rfl, s4, hs0, hs1⟩ := h
        obtain ⟨rfl, hx⟩ := y
        obtain ⟨z, hz, rfl⟩ := int_at hx
        obtain ⟨pl, hpl, rfl⟩ := toI_at hz
        have hpm := List.mem_of_getElem? hpl
        have hpn : pl < n := List.mem_range.mp (pe.sub.subset hpm)
        have s04 := s3.trans s4
        have gs : (ss.map V.int)[pl]? = some (.int (ss.getD pl 0)) := by
          rw [List.getElem?_map, List.getD_eq_getElem?_getD, List.getElem?_eq_getElem (by omega)]; rfl
        refine ⟨_, rfl, _, rfl, pv', _, pl, _, rfl, rfl, sqT (s04 _ _ hpv), atI_nat gs, ?_⟩
        refine ⟨_, rfl, _, rfl, n, ts, _, pl, rfl, WebV.t (Same.t s04) hw', htl, fun H4 r ns s5 hr4 hperm => ?_⟩
        obtain ⟨pn, rfl, hpn4⟩ := hr4
        have hnl : ns.length ≤ 10 := by rw [hperm.length_eq, toI_len]; exact Nat.le_trans (nbrs_len ts pl) htl
        refine ⟨pn, rfl, ⟨_, sqT hpn4⟩, fun D hD => ?_⟩
        have hl4 := s5 _ _ (s4 _ _ hl1)
        refine lc_rel walk_tup hD (by rw [List.length_map]; omega) (keepAt ns fun o => decide (o ∈ toI left)) (fun i y H => ∃ o, ns[i]? = some o ∧ y = .int o) (fun _ _ _ _ h _ => h) (fun H2 sm => same_seqT sm (sqT hpn4)) (fun i x H6 H5 hi sm2 hy K1 K2 k1 k2 => ?_) (fun H5 ys sm2 hl2 pr2 => ?_)
        · obtain ⟨rfl, hx⟩ := hy
          obtain ⟨o, ho, rfl⟩ := int_at hx
          rw [keepAt_some ho] at k1 k2
          refine ⟨rfl, _, rfl, _, rfl, lf, _, rfl, .inl (sqL (sm2 _ _ hl4)), rfl, flatV_ints _, _, rfl, ?_⟩
          show (if inV (.int o) ((toI left).map V.int) = true then _ else _)
          rw [inV_ints]
          by_cases c : o ∈ toI left
          · rw [if_pos (decide_eq_true c)]
            exact ⟨_, rfl, k1 _ _ (decide_eq_true c) (Same.refl _) ⟨o, ho, rfl⟩⟩
          · rw [if_neg (fun z => c (of_decide_eq_true z))]
            exact k2 _ (decide_eq_false c) (Same.refl _)
        · rw [List.length_map] at pr2
          have e := pick_all pr2
          subst e
          have ecount := perm_count (left := left) hperm
          refine ⟨D, _, rfl, .inl (sqL hl2), ss.getD pl 0, (((nbrs ts pl).filter fun o => decide (o ∈ left)).length : Nat), rfl, by rw [List.length_map, ecount], canGo ts ss left pl, rfl, ?_⟩
          have s25 := s5.trans sm2
          have s15 := s4.trans s25
          have e2 : (left.take (i + 1)).filter (canGo ts ss left) = (left.take i).filter (canGo ts ss left) ++ (if canGo ts ss left pl = true then [pl] else []) := by
            rw [List.take_succ, hpl, List.filter_append]
            congr 1
            by_cases c : canGo ts ss left pl = true
            · simp [c]
            · simp [c]
          by_cases c : canGo ts ss left pl = true
          · rw [c]
            refine iteT ?_
            have hs5 := s25 _ _ hs1
            refine ⟨_, rfl, .inl ⟨rfl, _, sqL hs5⟩, _, rfl, sm, _, _, rfl, rfl, hs5, lt5 ?_, _, _, rfl, same_mut s15 hs0, hs0, ?_⟩
            · rw [List.length_map, toI_len]
              have := List.length_filter_le (canGo ts ss left) (left.take i)
              have := List.length_take_le' i left
              omega
            · rw [upd_same, e2, if_pos c]
              unfold toI
              rw [List.map_append, List.map_append]
              rfl
          · rw [show canGo ts ss left pl = false by simpa using c]
            refine iteF ?_
            refine ⟨_, _, rfl, s15, hs0, ?_⟩
            rw [e2, if_neg c, List.append_nil]
            exact s25 _ _ hs1
      · obtain ⟨a6, a7, rfl, s4, hs0, hs1⟩ := h
        rw [List.length_map, toI_len, List.take_length] at hs1
        refine ⟨_, rfl, show 0 ≤ sizeLine by decide, fun e he => ⟨sm, e, _, rfl, rfl, .inl ⟨sqL ((same_new he) _ _ hs1), sqL upd_same⟩, .inl ⟨_, rfl⟩, ?_⟩⟩
        have hmem : ∀ x ∈ left.filter (canGo ts ss left), x ∈ left ∧ canGo ts ss left x = true := fun x hx => List.mem_filter.mp hx
        have s5 : Same H2 (upd H2 e (.lst [])) := same_new he
        have s15 := s4.trans s5
        have s05 := s3.trans s15
        cases hf : left.filter (canGo ts ss left) with
        | nil =>
          refine ⟨_, rfl, _, rfl, ?_⟩
          refine iteF ?_
          exact ⟨0, by omega, gone, left, lf, gn, false, _, _, _, rfl, s05, hlf0, hgn0, hne, s15 _ _ hl1, s15 _ _ hg1, pe, rfl⟩
        | cons x0 rest =>
          rw [hf] at hs1
          obtain ⟨hx0, hc0⟩ := hmem x0 (by rw [hf]; exact List.mem_cons_self)
          refine ⟨_, rfl, _, rfl, ?_⟩
          refine iteT ?_
          have hs5 := s5 _ _ hs1
          have hg5 := s15 _ _ hg1
          have hl5 := s15 _ _ hl1
          refine ⟨_, rfl, .inl ⟨rfl, _, sqL hg5⟩, _, rfl, sm, _, 0, _, rfl, rfl, sqL hs5, atI_nat (j := 0) rfl, gn, _, 0, _, rfl, rfl, hg5, lt5 (by rw [List.length_map, toI_len]; omega), by decide, by decide, ?_⟩
          have hl6 : ∀ D, upd (upd H2 e (.lst [])) gn D lf = some (.lst ((toI left).map V.int)) := fun D => by rw [upd_ne hne]; exact hl5
          have hsg : sm ≠ gn := fun z => by rw [z] at hs0; rw [hs0] at hg1; exact nomatch hg1
          have hs6 : ∀ D, upd (upd H2 e (.lst [])) gn D sm = some (.lst ((toI (x0 :: rest)).map V.int)) := fun D => by rw [upd_ne hsg]; exact hs5
          obtain ⟨j, hj1, hj2⟩ := first_at hx0
          refine ⟨_, rfl, .inl ⟨rfl, _, sqL (hl6 _)⟩, _, rfl, sm, _, 0, _, rfl, rfl, sqL (hs6 _), atI_nat (j := 0) rfl, lf, toI left, x0, j, rfl, rfl, hl6 _, ?_, ?_, ?_⟩
          · unfold toI
            rw [List.getElem?_map, hj1]
            rfl
          · intro m hm he
            obtain ⟨z, hz1, hz2⟩ := toI_at he
            have : z = x0 := by omega
            exact hj2 m hm (this ▸ hz1)
          · have hjl := (List.getElem?_eq_some_iff.mp hj1).1
            refine ⟨left.length, by omega, x0 :: gone, left.eraseIdx j, lf, gn, true, _, _, _, rfl, same_mut (same_mut s05 hgn0) hlf0, hlf0, hgn0, hne, ?_, ?_, .step pe hj1 (of_decide_eq_true hc0), ?_⟩
            · rw [upd_same, toI_erase]
            · rw [upd_ne hne.symm, upd_same]
              rfl
            · rw [List.length_eraseIdx, if_pos hjl]
              show left.length = left.length - 1 + 1
              omega
end
end HL

set_option Elab.async false
set_option linter.all false
set_option maxRecDepth 100000
set_option maxHeartbeats 8000000
namespace HL
open PySem PySem.Spec L2
open PyProof.Rows (envOfC)
section
variable {P : Program} {w : World} {K : PySem.W.Frag} {mg : Str → Option Value} {base : Heap}
def spOrder : Sp := fun vs H Q _ => ∃ n ts ss u v, vs = [u, v] ∧ WebV H n ts u ∧ IntsV H ss v ∧ WebOk n ts ∧ SizesOk n ss ∧ (∀ H', Same H H' → Q .non H') ∧ ∀ H' r gone, Same H H' → Peel ts ss n gone [] → Q (.ref r) H'
theorem ok_order_for (T : TX K mg) : Cal P w K mg base 7 "order_for" spOrder := by
  refine cal_of T.d_order_for sc_order_for (fun vs H Q E h => ?_) (fun f cdv A outer s H vs Q E hr h => ?_)
  · obtain ⟨n, ts, ss, u, v, rfl, _⟩ := h
    rfl
  · obtain ⟨n, ts, ss, u, v, rfl, hw, hv, ok, sok, q1, q2⟩ := h
    refine ⟨_, (pss_cons (ps_expr (pe_k (ok_need_sizes T) hr (pa_cons (pv 0) (pa_cons (pv 1) pa_nil)))) (pss_cons (ps_asg (pe_k (ok_peeled T) hr (pa_cons (pv 0) (pa_cons (pv 1) pa_nil))) (kpg_tup (K := K) (n := 2) rfl rfl (pgs_cons (pg_name (i := 2) sc_order_for.nd rfl (Or.inl rfl)) (pgs_cons (pg_name (i := 3) sc_order_for.nd rfl (Or.inl rfl)) pgs_nil)))) (pss_cons (ps_if (pt_cmpR (kop_neE (K := K) rfl (hu64 hr)) (pv 3) (pe_tup pa_nil) (nomark _)) (pss_one (ps_ret pe_non)) pss_nil) (pss_one (ps_ret (pv 2)))))), ?_⟩
    refine ⟨_, rfl, _, rfl, n, ts, ss, v, u, rfl, hv, hw, ok, sok, fun H2 s2 => ?_⟩
    refine ⟨_, rfl, _, rfl, n, ts, ss, u, v, rfl, WebV.t (Same.t s2) hw, IntsV.t (Same.t s2) hv, sok.len, ok.n5, ok.len, fun H3 r a b gone left s3 hr3 ha hb pe => ?_⟩
    refine ⟨r, _, rfl, sqT hr3, rfl, _, _, rfl, _, _, rfl, rfl, ?_⟩
    have s23 := s2.trans s3
    refine ⟨_, rfl, show 0 ≤ sizeLine by decide, fun e he => ⟨b, e, _, rfl, rfl, .inr ⟨(hb.s (same_new he)).q, sqT upd_same⟩, .inl ⟨_, rfl⟩, ?_⟩⟩
    have s24 := s23.trans (same_new (o := .tup []) he)
    cases left with
    | nil =>
      refine ⟨_, rfl, ?_⟩
      refine iteF ?_
      exact ⟨_, rfl, q2 _ a gone s24 pe⟩
    | cons x left =>
      refine ⟨_, rfl, ?_⟩
      refine iteT ?_
      exact q1 _ s24
def spSmall : Sp := fun vs H Q _ => ∃ n ts u, vs = [u] ∧ WebV H n ts u ∧ n ≤ 5 ∧ Q .non H
theorem ok_need_small (T : TX K mg) : Cal P w K mg base 1 "need_small" spSmall := by
  refine cal_of T.d_need_small sc_need_small (fun vs H Q E h => ?_) (fun f cdv A outer s H vs Q E hr h => ?_)
  · obtain ⟨n, ts, u, rfl, _⟩ := h
    rfl
  · obtain ⟨n, ts, u, rfl, ⟨p, x, rfl, hp, hx⟩, n5, q⟩ := h
    obtain ⟨t, c_MOST_HERE⟩ := T.c_MOST_HERE
    refine ⟨_, (pss_one (ps_if (pt_cmpR op_gt (pe_ix (kix_tup (K := K) rfl) (pv 0) pe_int (fun _ _ => rfl)) (pe_const c_MOST_HERE) (nomark _)) pss_never pss_nil)), ?_⟩
    refine ⟨_, rfl, p, _, 0, _, rfl, rfl, sqT hp, atI_nat (j := 0) rfl, _, _, rfl, rfl, false, congrArg V.bl (decide_eq_false (by omega)), ?_⟩
    exact iteF q
structure RiseOk (many i : Nat) (s : List Int) : Prop where
  len : s.length = i
  rise : s.Pairwise (· < ·)
  bnd : ∀ x ∈ s, 0 ≤ x ∧ x < many
def Sets (H : Hp) (a : Addr) (many i k : Nat) : Prop := ∃ rs : List (Addr × List Int), H a = some (.lst (rs.map fun r => V.ref r.1)) ∧ (∀ r ∈ rs, TupAt H r.1 r.2 ∧ RiseOk many i r.2) ∧ rs.length ≤ k
def spSets : Sp := fun vs H Q _ => ∃ many size : Nat, vs = [.int many, .int size] ∧ many ≤ 4 ∧ size ≤ 8 ∧ ∀ H' r k, Same H H' → Sets H' r many size k → Q (.ref r) H'
theorem set_ok {H : Hp} : ∀ {l : List Nat} {ys : List V} {many i : Nat}, Paired (fun _ y => ∃ g s', y = V.ref g ∧ TupAt H g s' ∧ RiseOk many i s') l ys → ∃ rs : List (Addr × List Int), ys = rs.map (fun r => V.ref r.1) ∧ (∀ r ∈ rs, TupAt H r.1 r.2 ∧ RiseOk many i r.2) ∧ rs.length = l.length
  | _, _, _, _, .nil => ⟨[], rfl, (fun _ h => nomatch h), rfl⟩
  | _, _, _, _, .cons ⟨g, s', e, h1, h2⟩ r => by
    obtain ⟨rs, g1, g2, g3⟩ := set_ok r
    refine ⟨(g, s') :: rs, by rw [List.map_cons, ← g1, e], fun x hx => ?_, by rw [List.length_cons, List.length_cons, g3]⟩
    rcases List.mem_cons.mp hx with rfl | hx
    · exact ⟨h1, h2⟩
    · exact g2 x hx
theorem four_pow {a i : Nat} (h : a ≤ 4 ^ i) (hi : i ≤ 8) : a ≤ 65536 := Nat.le_trans h (Nat.le_trans (Nat.pow_le_pow_right (by decide) hi) (by decide))
def lastOk (s : List Int) (h : Nat) : Bool := match s.getLast? with | none => true | some x => decide (x < (h : Int))
theorem rise_add {many i : Nat} {s : List Int} {h : Nat} (ok : RiseOk many i s) (hh : h < many) (hl : lastOk s h = true) : RiseOk many (i + 1) (s ++ [(h : Int)]) := by
  refine ⟨by rw [List.length_append, ok.len]; rfl, ?_, fun x hx => ?_⟩
  · rw [List.pairwise_append]
    refine ⟨ok.rise, List.pairwise_singleton .., fun a ha b hb => ?_⟩
    rw [List.mem_singleton] at hb
    subst hb
    rcases List.eq_nil_or_concat s with e | ⟨s0, v, e⟩
    · subst e; exact nomatch ha
    · rw [List.concat_eq_append] at e
      subst e
      unfold lastOk at hl
      rw [List.getLast?_concat] at hl
      have hv := of_decide_eq_true hl
      rcases List.mem_append.mp ha with ha | ha
      · have := (List.pairwise_append.mp ok.rise).2.2 a ha v List.mem_cons_self
        omega
      · rw [List.mem_singleton] at ha
        subst ha
        exact hv
  · rcases List.mem_append.mp hx with hx | hx
    · exact ok.bnd x hx
    · rw [List.mem_singleton] at hx
      subst hx
      omega
theorem ok_sets_of (T : TX K mg) : Cal P w K mg base 1 "sets_of" spSets := by
  refine cal_of T.d_sets_of sc_sets_of (fun vs H Q E h => ?_) (fun f cdv A outer s H vs Q E hr h => ?_)
  · obtain ⟨many, size, rfl, _⟩ := h
    rfl
  · obtain ⟨many, size, rfl, hm, hz, q⟩ := h
    refine ⟨_, (pss_cons (ps_set (i := 2) sc_sets_of.nd rfl (Or.inl rfl) (pe_lst (pa_cons (pe_tup pa_nil) pa_nil))) (pss_cons (ps_for PassesOwn.never rfl (pi_range1 (by rfl) T.b_range (pa_cons (pv 1) pa_nil)) (pg_name (i := 3) sc_sets_of.nd rfl (Or.inl rfl)) (pss_cons (ps_set (i := 4) sc_sets_of.nd rfl (Or.inl rfl) (pe_lst pa_nil)) (pss_cons (ps_for PassesOwn.never rfl (pi_list (pv 2)) (pg_name (i := 5) sc_sets_of.nd rfl (Or.inr rfl)) (pss_one (ps_expr (pe_bm PySem.F.plainAttrs_list PySem.F.slot_list_extend PySem.F.type_list_extend (mt_extend) (pv 4) (pa_cons (pe_lc (own := [("hue", 6)]) rfl sc_sets_of.nd (pi_range1 (by rfl) T.b_range (pa_cons (pv 0) pa_nil)) (blkOk_by (N := ["many", "size", "found", "turn", "longer", "some", "hue"]) (sc := defScope s_sets_of) (by decide +kernel)) (fun _ _ _ _ _ => (pg_name (i := 6) sc_sets_of.nd rfl (Or.inl rfl))) (fun _ _ _ _ _ => (pts_one (PW.pt (pw_or (pt_cmpR (kop_eqE (K := K) rfl (hu64 hr)) (pv 5) (pe_tup pa_nil) (nomark _)) (pw_or1 (pt_cmpR op_gt (pv 6) (pe_ix (kix_tup (K := K) rfl) (pv 5) (pe_un un_neg pe_int) (fun _ _ => rfl)) (nomark _))))))) (fun _ _ _ _ _ => (pe_op op_catS (pv 5) (pe_tup (pa_cons (pv 6) pa_nil))))) pa_nil))))) (pss_one (ps_set (i := 2) sc_sets_of.nd rfl (Or.inl rfl) (pv 4)))))) (pss_one (ps_ret (pv 2))))), ?_⟩
    refine ⟨show 0 ≤ sizeLine by decide, fun e he => ⟨show 1 ≤ sizeLine by decide, fun fd hfd => ?_⟩⟩
    have s1 : Same H (upd H e (.tup [])) := same_new he
    have s2 := s1.trans (same_new (o := .lst [.ref e]) hfd)
    refine ⟨_, rfl, (size : Int), rfl, by omega, by omega, ?_⟩
    refine for_it walk_range (fun i σ H1 => ∃ fd a3 a4 a5 a6, σ = [some (.int many), some (.int size), some (.ref fd), a3, a4, a5, a6] ∧ Same H H1 ∧ Sets H1 fd many i (4 ^ i)) ⟨fd, _, _, _, _, rfl, s2, [(e, [])], upd_same, fun r hr => ?_, by simp⟩ (fun i σ H1 _ h => trivial) (fun i x σ H2 H1 hi h y => ?_) (fun σ H1 h => ?_)
    · rw [List.mem_singleton] at hr
      subst hr
      exact ⟨(same_new hfd) _ _ upd_same, rfl, List.Pairwise.nil, fun _ h => nomatch h⟩
    · obtain ⟨fd, a3, a4, a5, a6, rfl, s3, rs, hf, hrs, hrl⟩ := h
      obtain ⟨rfl, rfl⟩ := y
      have hi8 : i < 8 := by omega
      have hrl' := four_pow hrl (by omega)
      have hpw : 4 ^ (i + 1) ≤ 65536 := four_pow (Nat.le_refl _) (by omega)
      rw [Nat.pow_succ] at hpw
      refine ⟨show 0 ≤ sizeLine by decide, fun lg hlg => ?_⟩
      have s4 : Same H1 (upd H1 lg (.lst [])) := same_new hlg
      refine ⟨_, rfl, fd, rfl, ⟨_, sqL (s4 _ _ hf)⟩, ?_⟩
      refine for_it (walk_list (xs := rs.map fun r => V.ref r.1)) (fun j σ H2 => ∃ a5 a6, σ = [some (.int many), some (.int size), some (.ref fd), some (.int (0 + (i : Int))), some (.ref lg), a5, a6] ∧ Same H1 H2 ∧ Sets H2 lg many (i + 1) (j * 4)) ⟨_, _, rfl, s4, [], upd_same, (fun _ h => nomatch h), Nat.zero_le _⟩ (fun j σ H2 _ h => ?_) (fun j x σ H3 H2 hj h y => ?_) (fun σ H2 h => ?_)
      · obtain ⟨_, _, _, s5, _⟩ := h
        exact sqL (s5 _ _ hf)
      · obtain ⟨a5, a6, rfl, s5, rl, hl5, hrl5, hll⟩ := h
        obtain ⟨rfl, hx⟩ := y
        obtain ⟨r, hr1, rfl⟩ : ∃ r, rs[j]? = some r ∧ x = .ref r.1 := by
          rw [List.getElem?_map] at hx
          obtain ⟨r, h1, h2⟩ := Option.map_eq_some_iff.mp hx
          exact ⟨r, h1, h2.symm⟩
        obtain ⟨tr, ok⟩ := hrs r (List.mem_of_getElem? hr1)
        rw [List.length_map] at hj
        have tr5 := s5 _ _ tr
        refine ⟨_, rfl, .inl ⟨rfl, _, sqL hl5⟩, ?_⟩
        refine ⟨_, rfl, (many : Int), rfl, by omega, by omega, fun D hD => ?_⟩
        refine lc_rel walk_range hD (by omega) (fun h => lastOk r.2 h) (fun k y H => ∃ g s', y = V.ref g ∧ TupAt H g s' ∧ RiseOk many (i + 1) s') (fun k v H H' h e => ?_) (fun _ _ => trivial) (fun k x H4 H3 hk sm hy K1 K2 k1 k2 => ?_) (fun H3 ys sm hl3 pr3 => ?_)
        · obtain ⟨g, s', g1, g2, g3⟩ := h
          exact ⟨g, s', g1, e _ _ g2, g3⟩
        · obtain ⟨rfl, rfl⟩ := hy
          have hk' : k < many := by omega
          have trk := sm _ _ tr5
          refine ⟨rfl, _, rfl, show 0 ≤ sizeLine by decide, fun em hem => ⟨r.1, em, r.2.map V.int, rfl, rfl, .inr ⟨sqT ((same_new hem) _ _ trk), sqT upd_same⟩, .inl ⟨_, rfl⟩, _, rfl, ?_⟩⟩
          have u1 : Same H3 (upd H3 em (.tup [])) := same_new hem
          have fin : lastOk r.2 k = true → tOp rCatS (tVar 5) (tTup (tCons (tVar 6) tNil)) [some (.int many), some (.int size), some (.ref fd), some (.int (0 + (i : Int))), some (.ref lg), some (.ref r.1), some (.int (0 + (k : Int)))] (upd H3 em (.tup [])) K1 := fun hlo => by
            refine ⟨_, rfl, _, rfl, show 1 ≤ sizeLine by decide, fun c hc => ?_⟩
            have u2 : Same (upd H3 em (.tup [])) (upd (upd H3 em (.tup [])) c (.tup [.int (0 + (k : Int))])) := same_new hc
            refine ⟨r.1, c, r.2.map V.int, _, rfl, rfl, u2 _ _ (u1 _ _ trk), upd_same, by rw [List.length_map, ok.len]; show _ + 1 ≤ 100000; omega, fun H5 g s7 hg => ?_⟩
            refine k1 _ _ hlo (u1.trans (u2.trans s7)) ⟨g, r.2 ++ [(k : Int)], rfl, ?_, rise_add ok hk' hlo⟩
            show H5 g = _
            rw [hg, List.map_append, Int.zero_add]
            rfl
          rcases List.eq_nil_or_concat r.2 with e0 | ⟨s0, v, e0⟩
          · rw [e0] at fin ⊢
            exact iteT (iteT (B := K2 _) (fin rfl))
          · rw [List.concat_eq_append] at e0
            have hne : (r.2.map V.int).isEmpty = false := by rw [e0, List.map_append]; cases s0 <;> rfl
            rw [hne]
            refine iteF ?_
            have hlast : atI (r.2.map V.int) (-1) = some (.int v) := by rw [e0, List.map_append]; exact atI_last _ _
            refine ⟨_, rfl, _, rfl, 1, rfl, r.1, r.2.map V.int, -1, _, rfl, rfl, sqT (u1 _ _ trk), hlast, _, _, rfl, rfl, _, rfl, ?_⟩
            have elo : lastOk r.2 k = decide (v < (k : Int)) := by unfold lastOk; rw [e0, List.getLast?_concat]
            by_cases c : v < (k : Int)
            · have hd : decide (0 + (k : Int) > v) = true := decide_eq_true (by omega)
              rw [hd]
              exact iteT (B := K2 _) (fin (by rw [elo]; exact decide_eq_true c))
            · have hd : decide (0 + (k : Int) > v) = false := decide_eq_false (by omega)
              rw [hd]
              exact iteF (k2 _ (by rw [elo]; exact decide_eq_false c) u1)
        · obtain ⟨rn, g1, g2, g3⟩ := set_ok pr3
          subst g1
          have hrn : rn.length ≤ 4 := by
            rw [g3]
            refine Nat.le_trans (List.length_filter_le _ _) ?_
            rw [List.length_range]; omega
          have s6 := s5.trans sm
          refine ⟨lg, D, _, _, rfl, rfl, sm _ _ hl5, hl3, ?_, ?_⟩
          · rw [List.length_map, List.length_map]
            exact small5 (by omega)
          · have hlg0 : H1 lg = none := hlg
            have ts : TSame H3 (upd H3 lg (.lst ((rl.map fun r => V.ref r.1) ++ rn.map fun r => V.ref r.1))) := tsame_mut (sm _ _ hl5) fun _ z => nomatch z
            refine ⟨_, _, rfl, same_mut s6 hlg0, rl ++ rn, by rw [upd_same, List.map_append], fun r hr => ?_, by rw [List.length_append]; omega⟩
            rcases List.mem_append.mp hr with hr | hr
            · exact ⟨ts _ _ (sm _ _ (hrl5 r hr).1), (hrl5 r hr).2⟩
            · exact ⟨ts _ _ (g2 r hr).1, (g2 r hr).2⟩
      · obtain ⟨a5, a6, rfl, s5, rl, hl5, hrl5, hll⟩ := h
        rw [List.length_map] at hll
        refine ⟨_, rfl, lg, _, _, _, _, rfl, s3.trans s5, rl, hl5, hrl5, ?_⟩
        rw [Nat.pow_succ]
        omega
    · obtain ⟨fd, a3, a4, a5, a6, rfl, s3, h⟩ := h
      exact ⟨_, rfl, q _ fd _ s3 h⟩
end
end HL

set_option Elab.async false
set_option linter.all false
set_option maxRecDepth 100000
set_option maxHeartbeats 8000000
namespace HL
open PySem PySem.Spec L2
open PyProof.Rows (envOfC)
def pos : List Nat → Nat → Nat
  | [], _ => 0
  | a :: l, x => if a = x then 0 else pos l x + 1
theorem pos_at : ∀ {l : List Nat} {x : Nat}, x ∈ l → l[pos l x]? = some x
  | a :: l, x, h => by
    unfold pos
    by_cases e : a = x
    · rw [if_pos e, e]; rfl
    · rw [if_neg e]
      rcases List.mem_cons.mp h with h | h
      · exact absurd h.symm e
      · simpa using pos_at h
theorem pos_first : ∀ {l : List Nat} {x m : Nat}, m < pos l x → l[m]? ≠ some x
  | [], _, m, h => absurd h (Nat.not_lt_zero m)
  | a :: l, x, m, h => by
    unfold pos at h
    by_cases e : a = x
    · rw [if_pos e] at h; exact absurd h (Nat.not_lt_zero m)
    · rw [if_neg e] at h
      cases m with
      | zero => simpa using e
      | succ m => simpa using pos_first (l := l) (m := m) (by omega)
def pts (ts : List Tie) (left : List Nat) : List Tie := (ts.filter fun t => decide (t.1 ∈ left) && decide (t.2 ∈ left)).map fun t => (pos left t.1, pos left t.2)
theorem paired_mapL {α β γ : Type} {F : γ → β → Prop} {g : α → γ} : ∀ {l : List α} {m : List β}, Paired (fun a b => F (g a) b) l m → Paired F (l.map g) m
  | _, _, .nil => .nil
  | _, _, .cons h t => .cons h (paired_mapL t)
theorem pts_len (ts : List Tie) (left : List Nat) : (pts ts left).length ≤ ts.length := by
  unfold pts
  rw [List.length_map]
  exact List.length_filter_le _ _
theorem toI_pos {l : List Nat} {x : Nat} (h : x ∈ l) : (toI l)[pos l x]? = some (x : Int) ∧ ∀ m, m < pos l x → (toI l)[m]? ≠ some (x : Int) := by
  refine ⟨by unfold toI; rw [List.getElem?_map, pos_at h]; rfl, fun m hm e => ?_⟩
  obtain ⟨z, h1, h2⟩ := toI_at e
  have : z = x := by omega
  exact pos_first hm (this ▸ h1)
section
variable {P : Program} {w : World} {K : PySem.W.Frag} {mg : Str → Option Value} {base : Heap}
def spPart : Sp := fun vs H Q _ => ∃ n ts left u b, vs = [u, .ref b] ∧ WebV H n ts u ∧ FTup H b ((toI left).map V.int) ∧ ts.length ≤ 10 ∧ ∀ H' r, Same H H' → WebV H' left.length (pts ts left) r → Q r H'
theorem ok_part_web (T : TX K mg) : Cal P w K mg base 1 "part_web" spPart := by
  refine cal_of T.d_part_web sc_part_web (fun vs H Q E h => ?_) (fun f cdv A outer s H vs Q E hr h => ?_)
  · obtain ⟨n, ts, left, u, b, rfl, _⟩ := h
    rfl
  · obtain ⟨n, ts, left, u, b, rfl, ⟨p, x, rfl, hp, ⟨p2, xs, rfl, hp2, pr⟩⟩, hb, hl, q⟩ := h
    have hxs : xs.length = ts.length := (Paired.length pr).symm
    refine ⟨_, (pss_cons (ps_setLc (i := 2) (own := [("one", 3), ("other", 4)]) rfl sc_part_web.nd rfl rfl rfl (pi_tup (pe_ix (kix_tup (K := K) rfl) (pv 0) pe_int (fun _ _ => rfl))) (blkOk_by (N := ["web", "places", "ties", "one", "other"]) (sc := defScope s_part_web) (by decide +kernel)) (fun _ _ _ _ _ => (kpg_tup (K := K) (n := 2) rfl rfl (pgs_cons (pg_name (i := 3) sc_part_web.nd rfl (Or.inl rfl)) (pgs_cons (pg_name (i := 4) sc_part_web.nd rfl (Or.inl rfl)) pgs_nil)))) (fun _ _ _ _ _ => (pts_one (PW.pt (pw_and (pt_cmpR (kop_in (K := K) rfl) (pv 3) (pv 1) rfl) (pw_and1 (pt_cmpR (kop_in (K := K) rfl) (pv 4) (pv 1) rfl)))))) (fun _ _ _ _ _ => (pe_tup (pa_cons (pe_idxF (pv 1) (pv 3)) (pa_cons (pe_idxF (pv 1) (pv 4)) pa_nil))))) (pss_one (ps_ret (pe_tup (pa_cons (pe_callB (kcall_len (K := K) rfl) (by rfl) T.b_len bt_len (pa_cons (pv 1) pa_nil)) (pa_cons (pe_callTy (call_tuple_of) (by rfl) T.b_tuple bt_tuple (pa_cons (pv 2) pa_nil)) pa_nil)))))), ?_⟩
    refine ⟨_, rfl, p, _, 1, _, rfl, rfl, sqT hp, atI_nat (j := 1) rfl, p2, rfl, ⟨_, sqT hp2⟩, fun D hD => ?_⟩
    refine lc_rel (walk_tup (xs := xs)) hD (by omega) (keepAt ts fun t => decide (t.1 ∈ left) && decide (t.2 ∈ left)) (fun i y H => ∃ t, ts[i]? = some t ∧ PairV H (pos left t.1, pos left t.2) y) (fun i y H H' h e => ?_) (fun H2 sm => same_seqT sm (sqT hp2)) (fun i x H3 H2 hi sm hy K1 K2 k1 k2 => ?_) (fun H2 ys sm hl2 pr2 => ?_)
    · obtain ⟨t, h1, h2⟩ := h
      exact ⟨t, h1, h2.t e⟩
    · obtain ⟨rfl, hx⟩ := hy
      obtain ⟨t, ht, pt, rfl, ept⟩ := paired_at pr hx
      have hb2 := hb.s sm
      rw [keepAt_some ht] at k1 k2
      refine ⟨pt, _, rfl, sqT (sm _ _ ept), rfl, _, _, rfl, _, _, rfl, rfl, rfl, ?_⟩
      refine ⟨_, rfl, _, rfl, b, _, rfl, .inr hb2.q, rfl, flatV_ints _, _, rfl, ?_⟩
      show (if inV (.int t.1) ((toI left).map V.int) = true then _ else _)
      rw [inV_ints]
      by_cases c1 : t.1 ∈ left
      · rw [if_pos (decide_eq_true (mem_toI.mpr c1))]
        refine ⟨_, rfl, _, rfl, b, _, rfl, .inr hb2.q, rfl, flatV_ints _, _, rfl, ?_⟩
        show (if inV (.int t.2) ((toI left).map V.int) = true then _ else _)
        rw [inV_ints]
        by_cases c2 : t.2 ∈ left
        · rw [if_pos (decide_eq_true (mem_toI.mpr c2))]
          refine ⟨_, rfl, ⟨b, _, rfl, hb2⟩, _, rfl, b, toI left, t.1, pos left t.1, rfl, rfl, hb2, (toI_pos c1).1, (toI_pos c1).2, ?_⟩
          refine ⟨_, rfl, ⟨b, _, rfl, hb2⟩, _, rfl, b, toI left, t.2, pos left t.2, rfl, rfl, hb2, (toI_pos c2).1, (toI_pos c2).2, ?_⟩
          refine ⟨show 2 ≤ sizeLine by decide, fun a ha => ?_⟩
          exact k1 _ _ (by rw [decide_eq_true c1, decide_eq_true c2]; rfl) (same_new ha) ⟨t, ht, a, rfl, upd_same⟩
        · rw [if_neg (fun z => c2 (mem_toI.mp (of_decide_eq_true z)))]
          exact k2 _ (by rw [decide_eq_false c2, Bool.and_false]) (Same.refl _)
      · rw [if_neg (fun z => c1 (mem_toI.mp (of_decide_eq_true z)))]
        exact iteF (k2 _ (by rw [decide_eq_false c1]; rfl) (Same.refl _))
    · rw [hxs] at pr2
      have pr3 := paired_mapL (g := fun t : Tie => (pos left t.1, pos left t.2)) (F := PairV H2) (pick_allR pr2)
      refine ⟨_, rfl, b, _, rfl, .inr (hb.s sm).q, _, rfl, D, ys, rfl, .inl ⟨sqL hl2, fun a ha => ⟨show 2 ≤ sizeLine by decide, fun c hc => ?_⟩⟩⟩
      have u1 : Same H2 (upd H2 a (.tup ys)) := same_new ha
      refine q _ _ (sm.trans (u1.trans (same_new hc))) ⟨c, .ref a, rfl, ?_, ?_⟩
      · rw [upd_same, List.length_map, toI_len]
      · exact ⟨a, ys, rfl, (same_new hc) _ _ upd_same, Paired.imp pr3 fun _ _ h => h.t (Same.t (u1.trans (same_new hc)))⟩
structure Good (fs : List Nat) (Ms : List (List Int)) : Prop where
  len : Ms.length = fs.length
  each : ∀ i, i < fs.length → (Ms.getD i []).Pairwise (· < ·) ∧ (Ms.getD i []).length = fs.getD i 0
def spBar (R : Nat) : Sp := fun vs H Q _ => ∃ n ts fs Ls u v z r, vs = [u, .ref v, z] ∧ WebV H n ts u ∧ H v = some (.lst ((toI fs).map V.int)) ∧ ListsV H Ls z ∧ fs.length = n ∧ (∀ x ∈ fs, x ≤ 8) ∧ 1 ≤ n ∧ n ≤ 5 ∧ ts.length ≤ 10 ∧ Ls.length + r = n ∧ r ≤ R ∧
  (∀ i, i < Ls.length → (Ls.getD i []).Pairwise (· < ·) ∧ (Ls.getD i []).length = fs.getD i 0) ∧ (∀ Ms, Good fs Ms → 0 < cnt ts Ms n []) ∧ ∀ H', Same H H' → Q .non H'
theorem mem_getD {Ls : List (List Int)} {L : List Int} (h : L ∈ Ls) : ∃ i, i < Ls.length ∧ Ls.getD i [] = L := by
  obtain ⟨i, hi, e⟩ := List.mem_iff_getElem.mp h
  exact ⟨i, hi, by rw [List.getD_eq_getElem?_getD, List.getElem?_eq_getElem hi, e]; rfl⟩
theorem fs_at {fs : List Nat} (h8 : ∀ x ∈ fs, x ≤ 8) (i : Nat) : fs.getD i 0 ≤ 8 := by
  rw [List.getD_eq_getElem?_getD]
  cases e : fs[i]? with
  | none => exact Nat.zero_le _
  | some x => exact h8 x (List.mem_of_getElem? e)
theorem lists_rs {H : Hp} : ∀ {Ls : List (List Int)} {xs : List V}, Paired (IntsV H) Ls xs → ∃ rs : List (Addr × List Int), xs = rs.map (fun r => V.ref r.1) ∧ ∀ r ∈ rs, TupAt H r.1 r.2
  | _, _, .nil => ⟨[], rfl, fun _ h => nomatch h⟩
  | L :: _, _, .cons ⟨b, e, hb⟩ t => by
    obtain ⟨rs, g1, g2⟩ := lists_rs t
    refine ⟨(b, L) :: rs, by rw [List.map_cons, ← g1, e], fun r hr => ?_⟩
    rcases List.mem_cons.mp hr with rfl | hr
    · exact hb
    · exact g2 r hr
theorem ok_bar0 (T : TX K mg) : Cal P w K mg base 10 "bar_here" (spBar 0) := by
  refine cal_of T.d_bar_here sc_bar_here (fun vs H Q E h => ?_) (fun f cdv A outer s H vs Q E hr h => ?_)
  · obtain ⟨n, ts, fs, Ls, u, v, z, r, rfl, _⟩ := h
    rfl
  · obtain ⟨n, ts, fs, Ls, u, v, z, r, rfl, hw, hv, hz, hfl, h8, n1, n5, htl, hlen, hr0, hpre, hall, q⟩ := h
    have hr1 : r = 0 := by omega
    subst hr1
    have hw' := hw
    obtain ⟨p, x, rfl, hp, hx⟩ := hw
    have hz' := hz
    obtain ⟨a, xs, rfl, ha, prl⟩ := hz
    have hxl : xs.length = n := by rw [← Paired.length prl]; omega
    refine ⟨_, (pss_cons (ps_if (pt_cmpR op_eq (pe_callB (kcall_len (K := K) rfl) (by rfl) T.b_len bt_len (pa_cons (pv 2) pa_nil)) (pe_ix (kix_tup (K := K) rfl) (pv 0) pe_int (fun _ _ => rfl)) (nomark _)) (pss_cons (ps_if (pt_cmp (pc_isN (pe_k (ok_first_of T) hr (pa_cons (pv 0) (pa_cons (pv 2) pa_nil))))) (pss_one (ps_ret (pv 2))) pss_nil) (pss_one (ps_ret pe_non))) pss_nil) pss_never), ?_⟩
    refine ⟨_, rfl, a, _, rfl, .inr (sqT ha), _, rfl, p, _, 0, _, rfl, rfl, sqT hp, atI_nat (j := 0) rfl, rfl, true, ?_, ?_⟩
    · rw [hxl, decide_eq_true rfl]
    refine iteT ?_
    have hg : Good fs Ls := ⟨by omega, fun i hi => hpre i (by omega)⟩
    refine ⟨_, rfl, _, rfl, n, ts, Ls, _, _, rfl, hw', hz', by omega, fun L hL => ?_, htl, n5, hall Ls hg, fun H2 r s2 => ⟨_, rfl, ?_⟩⟩
    · obtain ⟨i, hi, e⟩ := mem_getD hL
      have := (hpre i hi).2
      have := fs_at h8 i
      rw [← e]
      omega
    · refine iteF ?_
      exact q _ s2
theorem join {G : Prop} {A : Addr → Hp → Prop} {g : Addr → L2.St} (R : L2.St → Hp → Prop) (a : (∀ sm H', A sm H' → R (g sm) H') → G) (b : ∀ sm H', A sm H' → R (g sm) H') : G := a b
theorem ok_bar_here (T : TX K mg) : ∀ R : Nat, Cal P w K mg base (R + 10) "bar_here" (spBar R)
  | 0 => ok_bar0 T
  | R + 1 => by
    have ih := ok_bar_here T R
    refine cal_of T.d_bar_here sc_bar_here (fun vs H Q E h => ?_) (fun f cdv A outer s H vs Q E hr h => ?_)
    · obtain ⟨n, ts, fs, Ls, u, v, z, r, rfl, _⟩ := h
      rfl
    · obtain ⟨n, ts, fs, Ls, u, v, z, r, rfl, hw, hv, hz, hfl, h8, n1, n5, htl, hlen, hr0, hpre, hall, q⟩ := h
      have hw' := hw
      obtain ⟨p, x, rfl, hp, hx⟩ := hw
      have hz' := hz
      obtain ⟨a, xs, rfl, ha, prl⟩ := hz
      have hxl : xs.length = Ls.length := (Paired.length prl).symm
      refine ⟨_, (pss_cons (ps_if (pt_cmpR op_eq (pe_callB (kcall_len (K := K) rfl) (by rfl) T.b_len bt_len (pa_cons (pv 2) pa_nil)) (pe_ix (kix_tup (K := K) rfl) (pv 0) pe_int (fun _ _ => rfl)) (nomark _)) (pss_cons (ps_if (pt_cmp (pc_isN (pe_k (ok_first_of T) (hk := by omega) hr (pa_cons (pv 0) (pa_cons (pv 2) pa_nil))))) (pss_one (ps_ret (pv 2))) pss_nil) (pss_one (ps_ret pe_non))) pss_nil) (pss_cons (ps_set (i := 3) sc_bar_here.nd rfl (Or.inl rfl) (pe_k (ok_sets_of T) (hk := by omega) hr (pa_cons (pe_op op_sub (pe_ix (kix_tup (K := K) rfl) (pv 0) pe_int (fun _ _ => rfl)) pe_int) (pa_cons (pe_ix (kix_list (K := K) rfl) (pv 1) (pe_callB (kcall_len (K := K) rfl) (by rfl) T.b_len bt_len (pa_cons (pv 2) pa_nil)) (fun _ _ => rfl)) pa_nil)))) (pss_cons (ps_if (pt_cmpR (kop_eqE (K := K) rfl (hu64 hr)) (pv 2) (pe_tup pa_nil) (nomark _)) (pss_one (ps_set (i := 3) sc_bar_here.nd rfl (Or.inl rfl) (pe_slice sl_list (pv 3) po_none (po_some pe_int)))) pss_nil) (pss_cons (ps_for PassesOwn.never rfl (pi_list (pv 3)) (pg_name (i := 4) sc_bar_here.nd rfl (Or.inl rfl)) (pss_cons (ps_set (i := 5) sc_bar_here.nd rfl (Or.inl rfl) (pe_k (ih) (hk := by omega) hr (pa_cons (pv 0) (pa_cons (pv 1) (pa_cons (pe_op op_catS (pv 2) (pe_tup (pa_cons (pv 4) pa_nil))) pa_nil))))) (pss_one (ps_if (pt_cmp (pc_notN (pv 5))) (pss_one (ps_ret (pv 5))) pss_nil)))) (pss_one (ps_ret pe_non)))))), ?_⟩
      refine ⟨_, rfl, a, _, rfl, .inr (sqT ha), _, rfl, p, _, 0, _, rfl, rfl, sqT hp, atI_nat (j := 0) rfl, rfl, decide (V.int (Ls.length : Nat) = V.int (n : Nat)), by rw [hxl], ?_⟩
      cases r with
      | zero =>
        rw [decide_eq_true (by show V.int (Ls.length : Nat) = V.int (n : Nat); rw [← hlen]; rfl)]
        refine iteT ?_
        have hg : Good fs Ls := ⟨by omega, fun i hi => hpre i (by omega)⟩
        refine ⟨_, rfl, _, rfl, n, ts, Ls, _, _, rfl, hw', hz', by omega, fun L hL => ?_, htl, n5, hall Ls hg, fun H2 r s2 => ⟨_, rfl, ?_⟩⟩
        · obtain ⟨i, hi, e⟩ := mem_getD hL
          have := (hpre i hi).2
          have := fs_at h8 i
          rw [← e]
          omega
        · refine iteF ?_
          exact q _ s2
      | succ r =>
        rw [decide_eq_false (fun e => by have := V.int.inj e; omega)]
        refine iteF ?_
        have hsz : fs.getD Ls.length 0 ≤ 8 := fs_at h8 _
        have gf : ((toI fs).map V.int)[Ls.length]? = some (.int ((fs.getD Ls.length 0 : Nat) : Int)) := by
          unfold toI
          rw [List.getElem?_map, List.getElem?_map, List.getD_eq_getElem?_getD, List.getElem?_eq_getElem (by omega)]
          rfl
        refine ⟨_, rfl, p, _, 0, _, rfl, rfl, sqT hp, atI_nat (j := 0) rfl, (n : Int), 1, rfl, rfl, _, rfl, _, rfl, a, _, rfl, .inr (sqT ha), v, _, (Ls.length : Nat), _, rfl, by rw [hxl], sqL hv, atI_nat gf, n - 1, fs.getD Ls.length 0, ?_, by omega, hsz, fun H2 sm k s2 hs => ?_⟩
        · show [V.int ((n : Int) - 1), _] = [V.int ((n - 1 : Nat) : Int), _]
          rw [show ((n - 1 : Nat) : Int) = (n : Int) - 1 by omega]
        refine join (A := fun sm H' => Same H H' ∧ ∃ k, Sets H' sm (n - 1) (fs.getD Ls.length 0) k) (g := fun sm => [some (.ref p), some (.ref v), some (.ref a), some (.ref sm), none, none]) ?R (fun key => ?_) ?_
        rotate_left
        · refine ⟨_, rfl, show 0 ≤ sizeLine by decide, fun e he => ⟨a, e, _, rfl, rfl, .inr ⟨sqT ((same_new he) _ _ (s2 _ _ ha)), sqT upd_same⟩, ?_, _, rfl, ?_⟩⟩
          · obtain ⟨rs, g1, g2⟩ := lists_rs prl
            exact .inr ⟨rs, g1, fun r hr => (same_new he) _ _ (s2 _ _ (g2 r hr))⟩
          · have s3 := s2.trans (same_new (o := .tup []) he)
            obtain ⟨rs, hs1, hs2, hs3⟩ := hs
            by_cases c : xs.isEmpty = true
            · rw [show id xs.isEmpty = true from c]
              refine iteT ?_
              refine ⟨_, rfl, _, rfl, sm, _, rfl, sqL ((same_new he) _ _ hs1), fun sn hsn => ?_⟩
              have s4 := s3.trans (same_new (o := .lst (cutV (rs.map fun r => V.ref r.1) none (some 1))) hsn)
              show tSeq _ _ _ [some (.ref p), some (.ref v), some (.ref a), some (.ref sn), none, none] _
              refine key sn _ ⟨s4, k, rs.take 1, ?_, fun r hr => ?_, Nat.le_trans (List.length_take_le' ..) hs3⟩
              · rw [upd_same, List.map_take]
                congr 2
                exact cut_take _ 1
              · exact ⟨(same_new hsn) _ _ ((same_new he) _ _ (hs2 r (List.mem_of_mem_take hr)).1), (hs2 r (List.mem_of_mem_take hr)).2⟩
            · rw [show id xs.isEmpty = false by simpa using c]
              refine iteF ?_
              show tSeq _ _ _ [some (.ref p), some (.ref v), some (.ref a), some (.ref sm), none, none] _
              exact key sm _ ⟨s3, k, rs, (same_new he) _ _ hs1, fun r hr => ⟨(same_new he) _ _ (hs2 r hr).1, (hs2 r hr).2⟩, hs3⟩
        · intro sm H1 hA
          obtain ⟨s1, k, rs, hs1, hs2, hs3⟩ := hA
          refine ⟨_, rfl, sm, rfl, ⟨_, sqL hs1⟩, ?_⟩
          refine for_it (walk_list (xs := rs.map fun r => V.ref r.1)) (fun j σ H2 => ∃ a4 a5, σ = [some (.ref p), some (.ref v), some (.ref a), some (.ref sm), a4, a5] ∧ Same H1 H2) ⟨_, _, rfl, Same.refl _⟩ (fun j σ H2 _ h => ?_) (fun j x σ H3 H2 hj h y => ?_) (fun σ H2 h => ?_)
          · obtain ⟨_, _, _, s5⟩ := h
            exact sqL (s5 _ _ hs1)
          · obtain ⟨a4, a5, rfl, s5⟩ := h
            obtain ⟨rfl, hx⟩ := y
            obtain ⟨r0, hr1, rfl⟩ : ∃ r, rs[j]? = some r ∧ x = .ref r.1 := by
              rw [List.getElem?_map] at hx
              obtain ⟨r, h1, h2⟩ := Option.map_eq_some_iff.mp hx
              exact ⟨r, h1, h2.symm⟩
            obtain ⟨tr, rok⟩ := hs2 r0 (List.mem_of_getElem? hr1)
            have s15 := s1.trans s5
            refine ⟨_, rfl, _, rfl, _, rfl, _, rfl, show 1 ≤ sizeLine by decide, fun b hb => ?_⟩
            have u1 : Same H2 (upd H2 b (.tup [.ref r0.1])) := same_new hb
            refine ⟨a, b, xs, _, rfl, rfl, u1 _ _ (s15 _ _ ha), upd_same, by show _ + 1 ≤ 100000; omega, fun H5 g s7 hg => ?_⟩
            have u2 : Same H2 H5 := u1.trans s7
            have s07 := s15.trans u2
            refine ⟨n, ts, fs, Ls ++ [r0.2], _, v, _, r, rfl, WebV.t (Same.t s07) hw', s07 _ _ hv, ⟨g, _, rfl, hg, Paired.snoc (Paired.imp prl fun _ _ h => h.t (Same.t s07)) ⟨r0.1, rfl, u2 _ _ (s5 _ _ tr)⟩⟩, hfl, h8, n1, n5, htl, by rw [List.length_append]; show Ls.length + 1 + r = n; omega, by omega, fun i hi => ?_, hall, fun H6 s6 => ?_⟩
            · rw [List.length_append] at hi
              have hi' : i < Ls.length + 1 := hi
              by_cases c : i < Ls.length
              · rw [List.getD_eq_getElem?_getD, List.getElem?_append_left c, ← List.getD_eq_getElem?_getD]
                exact hpre i c
              · have : i = Ls.length := by omega
                subst this
                rw [List.getD_eq_getElem?_getD, List.getElem?_append_right (Nat.le_refl _), Nat.sub_self]
                exact ⟨rok.rise, rok.len⟩
            · refine ⟨_, rfl, _, rfl, ?_⟩
              refine iteF ?_
              exact ⟨_, _, rfl, s5.trans (u2.trans s6)⟩
          · obtain ⟨_, _, rfl, s5⟩ := h
            exact q _ (s1.trans s5)
end
end HL

set_option Elab.async false
set_option linter.all false
set_option maxRecDepth 100000
set_option maxHeartbeats 8000000
namespace HL
open PySem PySem.Spec L2
open PyProof.Rows (envOfC)
theorem pos_lt {l : List Nat} {x : Nat} (h : x ∈ l) : pos l x < l.length := (List.getElem?_eq_some_iff.mp (pos_at h)).1
theorem pos_self {l : List Nat} (nd : l.Nodup) {i x : Nat} (h : l[i]? = some x) : pos l x = i := by
  have h1 := pos_at (List.mem_of_getElem? h)
  obtain ⟨a, b⟩ := List.getElem?_eq_some_iff.mp h
  obtain ⟨a', b'⟩ := List.getElem?_eq_some_iff.mp h1
  rcases Nat.lt_trichotomy (pos l x) i with g | g | g
  · exact absurd (b'.trans b.symm) (List.pairwise_iff_getElem.mp nd _ _ a' a g)
  · exact g
  · exact absurd (b.trans b'.symm) (List.pairwise_iff_getElem.mp nd _ _ a a' g)
theorem nodup_rise {L : List Int} (h : L.Pairwise (· < ·)) : L.Nodup := h.imp fun h e => by omega
theorem nodup_toI {l : List Nat} (h : l.Nodup) : (toI l).Nodup := by
  unfold toI
  refine List.pairwise_map.mpr (h.imp fun h e => h (by omega))
theorem getD_map {α β : Type} (l : List α) (f : α → β) (i : Nat) (d : β) {x : α} (h : l[i]? = some x) : (l.map f).getD i d = f x := by
  rw [List.getD_eq_getElem?_getD, List.getElem?_map, h]; rfl
theorem part_count {n : Nat} {ts : List Tie} {ss p : List Int} {c : Int} {left : List Nat} {Ms : List (List Int)} (ok : WebOk n ts) (hp : (p, c) ∈ terms n ts) (hs : ∀ i, i < n → p.getD i 0 < ss.getD i 0)
    (hsub : left.Sublist (List.range n)) (hM : Good (left.map fun x => (ss.getD x 0).toNat) Ms) : 0 < cnt (pts ts left) Ms left.length [] := by
  have nd : left.Nodup := hsub.nodup List.nodup_range
  have hml : Ms.length = left.length := by rw [hM.len, List.length_map]
  have hlt : ∀ x ∈ left, x < n := fun x hx => List.mem_range.mp (hsub.subset hx)
  have pok : POk n ts.length p := ((terms_all ok.lt).2.2.2 _ hp).1
  have p0 : ∀ i, 0 ≤ p.getD i 0 := fun i => by
    rw [List.getD_eq_getElem?_getD]
    cases e : p[i]? with
    | none => exact Int.le_refl _
    | some x => exact pok.pos x (List.mem_of_getElem? e)
  let L : Nat → List Int := fun x => if x ∈ left then Ms.getD (pos left x) [] else toI (List.range (ss.getD x 0).toNat)
  have hLat : ∀ x, x < n → ((List.range n).map L).getD x [] = L x := fun x hx => getD_map _ _ _ _ (List.getElem?_range hx)
  have hgood : ∀ x ∈ left, (Ms.getD (pos left x) []).Pairwise (· < ·) ∧ (Ms.getD (pos left x) []).length = (ss.getD x 0).toNat := fun x hx => by
    have h1 := hM.each (pos left x) (by rw [List.length_map]; exact pos_lt hx)
    rw [getD_map _ _ _ _ (pos_at hx)] at h1
    exact h1
  have hnd : ∀ x, (L x).Nodup := fun x => by
    show (if x ∈ left then Ms.getD (pos left x) [] else toI (List.range (ss.getD x 0).toNat)).Nodup
    by_cases hx : x ∈ left
    · rw [if_pos hx]; exact nodup_rise (hgood x hx).1
    · rw [if_neg hx]; exact nodup_toI List.nodup_range
  have hlen : ∀ x, (L x).length = (ss.getD x 0).toNat := fun x => by
    show (if x ∈ left then Ms.getD (pos left x) [] else toI (List.range (ss.getD x 0).toNat)).length = _
    by_cases hx : x ∈ left
    · rw [if_pos hx]; exact (hgood x hx).2
    · rw [if_neg hx, toI_len, List.length_range]
  obtain ⟨h, h1, h2⟩ := alon ok.lt hp (Ls := (List.range n).map L) (by rw [List.length_map, List.length_range]) (fun M hM' => by
    obtain ⟨x, _, rfl⟩ := List.mem_map.mp hM'
    exact hnd x) fun i hi => by
    rw [hLat i hi, hlen]
    have := hs i hi
    have := p0 i
    omega
  have hmem : ∀ x ∈ left, h.getD x 0 ∈ Ms.getD (pos left x) [] := fun x hx => by
    have := h1.get x (by rw [List.length_map, List.length_range]; exact hlt x hx)
    rw [hLat x (hlt x hx)] at this
    have e : L x = Ms.getD (pos left x) [] := if_pos hx
    rw [e] at this
    exact this
  have hin : InPi (left.map fun x => h.getD x 0) Ms := InPi.of (by rw [List.length_map, hml]) fun i hi => by
    have e : left[i]? = some left[i] := List.getElem?_eq_getElem (by omega)
    rw [getD_map _ _ _ _ e]
    have := hmem _ (List.mem_of_getElem? e)
    rw [pos_self nd e] at this
    exact this
  have hd : ∀ t ∈ pts ts left, (left.map fun x => h.getD x 0).getD t.1 0 ≠ (left.map fun x => h.getD x 0).getD t.2 0 := fun t' ht' => by
    unfold pts at ht'
    obtain ⟨t, ht, rfl⟩ := List.mem_map.mp ht'
    obtain ⟨g1, g2⟩ := List.mem_filter.mp ht
    rw [Bool.and_eq_true] at g2
    have c1 := of_decide_eq_true g2.1
    have c2 := of_decide_eq_true g2.2
    show (left.map fun x => h.getD x 0).getD (pos left t.1) 0 ≠ (left.map fun x => h.getD x 0).getD (pos left t.2) 0
    rw [getD_map _ _ _ _ (pos_at c1), getD_map _ _ _ _ (pos_at c2)]
    exact h2 t g1
  have := cnt_of hin hd Ms.length (Nat.le_refl _)
  rw [Nat.sub_self, List.take_zero, hml] at this
  exact this
section
variable {P : Program} {w : World} {K : PySem.W.Frag} {mg : Str → Option Value} {base : Heap}
def Paper (n : Nat) (ts : List Tie) (ss : List Int) : Prop := ∃ p c, (p, c) ∈ terms n ts ∧ ∀ i, i < n → p.getD i 0 < ss.getD i 0
def spBarOf : Sp := fun vs H Q _ => ∃ n ts ss u v, vs = [u, v] ∧ WebV H n ts u ∧ IntsV H ss v ∧ WebOk n ts ∧ SizesOk n ss ∧ Paper n ts ss ∧ ∀ H', Same H H' → Q .non H'
theorem ok_bar_of (T : TX K mg) : Cal P w K mg base 16 "bar_of" spBarOf := by
  refine cal_of T.d_bar_of sc_bar_of (fun vs H Q E h => ?_) (fun f cdv A outer s H vs Q E hr h => ?_)
  · obtain ⟨n, ts, ss, u, v, rfl, _⟩ := h
    rfl
  · obtain ⟨n, ts, ss, u, v, rfl, hw, hv, ok, sok, ⟨pp, c, hpp, hps⟩, q⟩ := h
    refine ⟨_, (pss_cons (ps_set (i := 2) sc_bar_of.nd rfl (Or.inl rfl) (pe_ix (kix_tup (K := K) rfl) (pe_k (ok_peeled T) hr (pa_cons (pv 0) (pa_cons (pv 1) pa_nil))) pe_int (fun _ _ => rfl))) (pss_cons (ps_if (pt_cmpR (kop_eqE (K := K) rfl (hu64 hr)) (pv 2) (pe_tup pa_nil) (nomark _)) (pss_one (ps_ret pe_non)) pss_nil) (pss_cons (ps_setLc (i := 3) (own := [("place", 6)]) rfl sc_bar_of.nd rfl rfl rfl (pi_tup (pv 2)) (blkOk_by (N := ["web", "sizes", "places", "few", "found", "lists", "place"]) (sc := defScope s_bar_of) (by decide +kernel)) (fun _ _ _ _ _ => (pg_name (i := 6) sc_bar_of.nd rfl (Or.inl rfl))) (fun _ _ _ _ _ => pts_nil) (fun _ _ _ _ _ => (pe_ix (kix_tup (K := K) rfl) (pv 1) (pv 6) (fun _ _ => rfl)))) (pss_cons (ps_set (i := 4) sc_bar_of.nd rfl (Or.inl rfl) (pe_k (ok_bar_here T 5) hr (pa_cons (pe_k (ok_part_web T) hr (pa_cons (pv 0) (pa_cons (pv 2) pa_nil))) (pa_cons (pv 3) (pa_cons (pe_tup pa_nil) pa_nil))))) (pss_cons (ps_if (pt_cmp (pc_isN (pv 4))) (pss_one (ps_ret pe_non)) pss_nil) pss_never))))), ?_⟩
    refine ⟨_, rfl, _, rfl, n, ts, ss, u, v, rfl, hw, hv, sok.len, ok.n5, ok.len, fun H2 r a b gone left s2 hr2 ha hb pe => ?_⟩
    refine ⟨r, _, 1, _, rfl, rfl, sqT hr2, atI_nat (j := 1) rfl, ?_⟩
    refine ⟨_, rfl, show 0 ≤ sizeLine by decide, fun e he => ⟨b, e, _, rfl, rfl, .inr ⟨(hb.s (same_new he)).q, sqT upd_same⟩, .inl ⟨_, rfl⟩, _, rfl, ?_⟩⟩
    have s3 := s2.trans (same_new (o := .tup []) he)
    have hb3 := hb.s (same_new (o := .tup []) he)
    generalize upd H2 e (.tup []) = H3 at *
    by_cases hle : left = []
    · subst hle
      refine iteT ?_
      exact q _ s3
    have hne : ((toI left).map V.int).isEmpty = false := by cases left with
      | nil => exact absurd rfl hle
      | cons => rfl
    rw [hne]
    refine iteF ?_
    have hll : left.length ≤ n := by have := pe.len; omega
    have n5 := ok.n5
    have hl1 : 1 ≤ left.length := by cases left with
      | nil => exact absurd rfl hle
      | cons => exact Nat.succ_le_succ (Nat.zero_le _)
    obtain ⟨pv', rfl, hpv⟩ := hv
    refine ⟨_, rfl, b, rfl, ⟨_, hb3.q⟩, fun D hD => ?_⟩
    refine lc_rel (walk_tup (xs := (toI left).map V.int)) hD (by rw [List.length_map, toI_len]; omega) (keepAt left fun _ => true) (fun i y H => ∃ x, left[i]? = some x ∧ y = .int (ss.getD x 0)) (fun _ _ _ _ h _ => h) (fun H2 sm => (hb3.s sm).q) (fun i x H5 H4 hi sm hy K1 K2 k1 k2 => ?_) (fun H4 ys sm hl2 pr2 => ?_)
    · obtain ⟨rfl, hx⟩ := hy
      obtain ⟨z, hz, rfl⟩ := int_at hx
      obtain ⟨m, hm, rfl⟩ := toI_at hz
      rw [keepAt_some hm] at k1
      have hmn : m < n := List.mem_range.mp (pe.sub.subset (List.mem_of_getElem? hm))
      have gs : (ss.map V.int)[m]? = some (.int (ss.getD m 0)) := by
        rw [List.getElem?_map, List.getD_eq_getElem?_getD, List.getElem?_eq_getElem (by rw [sok.len]; exact hmn)]; rfl
      exact ⟨rfl, iteT (B := K2 H4) ⟨_, rfl, _, rfl, pv', _, m, _, rfl, rfl, sqT (sm _ _ (s3 _ _ hpv)), atI_nat gs, k1 _ _ rfl (Same.refl _) ⟨m, hm, rfl⟩⟩⟩
    · rw [List.length_map, toI_len] at pr2
      have e := pick_all pr2
      rw [List.filter_eq_self.mpr fun _ _ => rfl] at e
      subst e
      have s4 := s3.trans sm
      refine ⟨_, rfl, _, rfl, n, ts, left, u, b, rfl, WebV.t (Same.t s4) hw, hb3.s sm, ok.len, fun H5 r s5 hw5 => ?_⟩
      refine ⟨_, rfl, show 0 ≤ sizeLine by decide, fun e he => ?_⟩
      have s6 : Same H5 (upd H5 e (.tup [])) := same_new he
      have sb : ∀ x ∈ left, 0 ≤ ss.getD x 0 ∧ ss.getD x 0 ≤ 8 := fun x hx => by
        have hmn : x < n := List.mem_range.mp (pe.sub.subset hx)
        rw [List.getD_eq_getElem?_getD, List.getElem?_eq_getElem (by rw [sok.len]; exact hmn)]
        exact sok.bnd _ (List.getElem_mem _)
      have ef : left.map (fun x => V.int (ss.getD x 0)) = (toI (left.map fun x => (ss.getD x 0).toNat)).map V.int := by
        unfold toI
        rw [List.map_map, List.map_map]
        refine List.map_congr_left fun x hx => ?_
        show V.int (ss.getD x 0) = V.int (((ss.getD x 0).toNat : Nat) : Int)
        rw [Int.toNat_of_nonneg (sb x hx).1]
      refine ⟨left.length, pts ts left, left.map fun x => (ss.getD x 0).toNat, [], r, D, .ref e, left.length, rfl, WebV.t (Same.t s6) hw5, s6 _ _ (s5 _ _ (ef ▸ hl2)), ⟨e, [], rfl, upd_same, .nil⟩, List.length_map .., fun x hx => ?_, hl1, by omega, Nat.le_trans (pts_len ..) ok.len, Nat.zero_add _, by omega, fun i hi => absurd hi (Nat.not_lt_zero i), fun Ms hM => part_count ok hpp hps pe.sub hM, fun H7 s7 => ?_⟩
      · obtain ⟨y, hy, rfl⟩ := List.mem_map.mp hx
        have := sb y hy
        omega
      · refine ⟨_, rfl, _, rfl, ?_⟩
        refine iteT ?_
        exact q _ (s4.trans (s5.trans (s6.trans s7)))
def spAsked : Sp := fun vs H Q _ => ∃ n ts ss u v, vs = [u, v] ∧ WebV H n ts u ∧ IntsV H ss v ∧ WebOk n ts ∧ SizesOk n ss ∧ ∀ H', Same H H' → Q .non H'
theorem ok_need_asked (T : TX K mg) : Cal P w K mg base 7 "need_asked" spAsked := by
  refine cal_of T.d_need_asked sc_need_asked (fun vs H Q E h => ?_) (fun f cdv A outer s H vs Q E hr h => ?_)
  · obtain ⟨n, ts, ss, u, v, rfl, _⟩ := h
    rfl
  · obtain ⟨n, ts, ss, u, v, rfl, hw, hv, ok, sok, q⟩ := h
    refine ⟨_, (pss_cons (ps_expr (pe_k (ok_need_sizes T) hr (pa_cons (pv 0) (pa_cons (pv 1) pa_nil)))) (pss_one (ps_expr (pe_k (ok_need_small T) hr (pa_cons (pv 0) pa_nil))))), ?_⟩
    refine ⟨_, rfl, _, rfl, n, ts, ss, v, u, rfl, hv, hw, ok, sok, fun H2 s2 => ?_⟩
    exact ⟨_, rfl, n, ts, u, rfl, WebV.t (Same.t s2) hw, ok.n5, q _ s2⟩
def spAlways (r : V) : Sp := fun vs H Q _ => ∃ n ts ss u v, vs = [u, v] ∧ WebV H n ts u ∧ IntsV H ss v ∧ WebOk n ts ∧ SizesOk n ss ∧ Paper n ts ss ∧ ∀ H', Same H H' → Q r H'
theorem ok_always (T : TX K mg) : Cal P w K mg base 17 "always" (spAlways (.bl true)) := by
  refine cal_of T.d_always sc_always (fun vs H Q E h => ?_) (fun f cdv A outer s H vs Q E hr h => ?_)
  · obtain ⟨n, ts, ss, u, v, rfl, _⟩ := h
    rfl
  · obtain ⟨n, ts, ss, u, v, rfl, hw, hv, ok, sok, pp, q⟩ := h
    refine ⟨_, (pss_cons (ps_expr (pe_k (ok_need_asked T) hr (pa_cons (pv 0) (pa_cons (pv 1) pa_nil)))) (pss_one (ps_ret (pe_cmp (pc_isN (pe_k (ok_bar_of T) hr (pa_cons (pv 0) (pa_cons (pv 1) pa_nil)))))))), ?_⟩
    refine ⟨_, rfl, _, rfl, n, ts, ss, u, v, rfl, hw, hv, ok, sok, fun H2 s2 => ?_⟩
    exact ⟨_, rfl, _, rfl, n, ts, ss, u, v, rfl, WebV.t (Same.t s2) hw, IntsV.t (Same.t s2) hv, ok, sok, pp, fun H3 s3 => q _ (s2.trans s3)⟩
theorem ok_bar_for (T : TX K mg) : Cal P w K mg base 17 "bar_for" (spAlways .non) := by
  refine cal_of T.d_bar_for sc_bar_for (fun vs H Q E h => ?_) (fun f cdv A outer s H vs Q E hr h => ?_)
  · obtain ⟨n, ts, ss, u, v, rfl, _⟩ := h
    rfl
  · obtain ⟨n, ts, ss, u, v, rfl, hw, hv, ok, sok, pp, q⟩ := h
    refine ⟨_, (pss_cons (ps_expr (pe_k (ok_need_asked T) hr (pa_cons (pv 0) (pa_cons (pv 1) pa_nil)))) (pss_one (ps_ret (pe_k (ok_bar_of T) hr (pa_cons (pv 0) (pa_cons (pv 1) pa_nil)))))), ?_⟩
    refine ⟨_, rfl, _, rfl, n, ts, ss, u, v, rfl, hw, hv, ok, sok, fun H2 s2 => ?_⟩
    exact ⟨_, rfl, _, rfl, n, ts, ss, u, v, rfl, WebV.t (Same.t s2) hw, IntsV.t (Same.t s2) hv, ok, sok, pp, fun H3 s3 => q _ (s2.trans s3)⟩
end
end HL

set_option Elab.async false
set_option linter.all false
set_option maxRecDepth 100000
namespace HL
/-! an order gives a term paper -/
theorem perm_erase {α : Type} : ∀ {l : List α} {j : Nat} {x : α}, l[j]? = some x → l.Perm (x :: l.eraseIdx j)
  | [], _, _, h => by simp at h
  | a :: l, 0, x, h => by
    have : a = x := by simpa using h
    subst this
    exact List.Perm.refl _
  | a :: l, j + 1, x, h => by
    have ih := perm_erase (l := l) (j := j) (x := x) (by simpa using h)
    rw [List.eraseIdx_cons_succ]
    exact (List.Perm.cons a ih).trans (List.Perm.swap x a _)
theorem Peel.perm {ts : List Tie} {ss : List Int} {n : Nat} {gone left : List Nat} (h : Peel ts ss n gone left) : (gone ++ left).Perm (List.range n) := by
  induction h with
  | start => exact List.Perm.refl _
  | @step gone left x j _ hj _ ih =>
    refine List.Perm.trans ?_ ih
    have h1 : (gone ++ left).Perm (gone ++ x :: left.eraseIdx j) := List.Perm.append_left _ (perm_erase hj)
    exact (h1.trans List.perm_middle).symm
theorem Peel.nodup {ts : List Tie} {ss : List Int} {n : Nat} {gone left : List Nat} (h : Peel ts ss n gone left) : (gone ++ left).Nodup := h.perm.nodup_iff.mpr List.nodup_range
def bef (gone left : List Nat) (x o : Nat) : Bool := decide (o ∈ left ∨ (o ∈ gone ∧ pos gone o < pos gone x))
theorem Peel.count {ts : List Tie} {ss : List Int} {n : Nat} {gone left : List Nat} (h : Peel ts ss n gone left) : ∀ x ∈ gone, ((((nbrs ts x).filter (bef gone left x)).length : Nat) : Int) < ss.getD x 0 := by
  induction h with
  | start => exact fun _ h => nomatch h
  | @step gone left x j h hj hc ih =>
    have hxl : x ∈ left := List.mem_of_getElem? hj
    have nd := h.nodup
    have hxg : x ∉ gone := fun hg => by
      have := (List.nodup_append.mp nd).2.2 x hg x hxl
      exact this rfl
    have hsub : ∀ o, o ∈ left.eraseIdx j → o ∈ left := fun o ho => List.mem_of_mem_eraseIdx ho
    intro y hy
    have mono : ∀ (p q : Nat → Bool) (l : List Nat), (∀ o, p o = true → q o = true) → (l.filter p).length ≤ (l.filter q).length := fun p q l hpq => by
      rw [← List.countP_eq_length_filter, ← List.countP_eq_length_filter]
      exact List.countP_mono_left fun o _ => hpq o
    rcases List.mem_cons.mp hy with rfl | hy
    · refine Int.lt_of_le_of_lt (Int.ofNat_le.mpr (mono _ _ _ fun o ho => ?_)) hc
      have ho := of_decide_eq_true ho
      refine decide_eq_true ?_
      rcases ho with ho | ⟨_, ho⟩
      · exact hsub o ho
      · have : pos (y :: gone) y = 0 := by unfold pos; rw [if_pos rfl]
        omega
    · have hyx : x ≠ y := fun e => hxg (e ▸ hy)
      refine Int.lt_of_le_of_lt (Int.ofNat_le.mpr (mono _ _ _ fun o ho => ?_)) (ih y hy)
      have ho := of_decide_eq_true ho
      refine decide_eq_true ?_
      rcases ho with ho | ⟨ho, hp⟩
      · exact .inl (hsub o ho)
      · by_cases e : x = o
        · exact .inl (e ▸ hxl)
        · have e1 : pos (x :: gone) o = pos gone o + 1 := by show (if x = o then 0 else pos gone o + 1) = _; rw [if_neg e]
          have e2 : pos (x :: gone) y = pos gone y + 1 := by show (if x = y then 0 else pos gone y + 1) = _; rw [if_neg hyx]
          rw [e1, e2] at hp
          rcases List.mem_cons.mp ho with ho | ho
          · exact absurd ho.symm e
          · exact .inr ⟨ho, by omega⟩
theorem order_paper {ts : List Tie} {ss : List Int} {n : Nat} {gone : List Nat} (ok : WebOk n ts) (h : Peel ts ss n gone []) : Paper n ts ss := by
  have hall : ∀ x, x < n → x ∈ gone := fun x hx => by
    have := h.perm.mem_iff.mpr (List.mem_range.mpr hx)
    rwa [List.append_nil] at this
  have inj : ∀ i j, i < n → j < n → pos gone i = pos gone j → i = j := fun i j hi hj e => by
    have h1 := pos_at (hall i hi)
    have h2 := pos_at (hall j hj)
    rw [e, h2] at h1
    exact (Option.some.inj h1).symm
  refine rank_term (fun t ht => by have := ok.tie t ht; omega) (pos gone) inj fun v hv => ?_
  refine Int.lt_of_le_of_lt (Int.ofNat_le.mpr ?_) (h.count v (hall v hv))
  unfold nbrs
  rw [← List.countP_eq_length_filter, List.countP_map, List.countP_filter]
  show ((ts.map (hi (pos gone))).count v) ≤ _
  unfold List.count
  rw [List.countP_map]
  refine List.countP_mono_left fun t ht hc => ?_
  have hc : hi (pos gone) t = v := by simpa using hc
  have htt := ok.tie t ht
  have hne : pos gone t.1 ≠ pos gone t.2 := fun e => by have := inj t.1 t.2 (by omega) (by omega) e; omega
  unfold hi at hc
  rw [Bool.and_eq_true]
  by_cases c : pos gone t.1 < pos gone t.2
  · rw [if_pos c] at hc
    refine ⟨?_, decide_eq_true (.inr hc.symm)⟩
    show bef gone [] v (t.1 + t.2 - v) = true
    refine decide_eq_true (.inr ?_)
    have : t.1 + t.2 - v = t.1 := by omega
    rw [this, ← hc]
    exact ⟨hall _ (by omega), c⟩
  · rw [if_neg c] at hc
    refine ⟨?_, decide_eq_true (.inl hc.symm)⟩
    show bef gone [] v (t.1 + t.2 - v) = true
    refine decide_eq_true (.inr ?_)
    have : t.1 + t.2 - v = t.2 := by omega
    rw [this, ← hc]
    exact ⟨hall _ (by omega), by omega⟩
theorem less_iff {p ss : List Int} {n : Nat} (h1 : p.length = n) (h2 : ss.length = n) : lessB p ss = true ↔ ∀ i, i < n → p.getD i 0 < ss.getD i 0 := by
  unfold lessB
  rw [List.all_eq_true]
  constructor
  · intro h i hi
    have e1 : p[i]? = some (p.getD i 0) := by rw [List.getD_eq_getElem?_getD, List.getElem?_eq_getElem (by omega)]; rfl
    have e2 : ss[i]? = some (ss.getD i 0) := by rw [List.getD_eq_getElem?_getD, List.getElem?_eq_getElem (by omega)]; rfl
    have : (p.zip ss)[i]? = some (p.getD i 0, ss.getD i 0) := List.getElem?_zip_eq_some.mpr ⟨e1, e2⟩
    exact of_decide_eq_true (h _ (List.mem_of_getElem? this))
  · intro h x hx
    obtain ⟨i, hi, e⟩ := List.mem_iff_getElem.mp hx
    have e' : (p.zip ss)[i]? = some x := by rw [List.getElem?_eq_getElem hi, e]
    obtain ⟨e1, e2⟩ := List.getElem?_zip_eq_some.mp e'
    have hi' : i < n := by rw [List.length_zip] at hi; omega
    have := h i hi'
    rw [List.getD_eq_getElem?_getD, List.getD_eq_getElem?_getD, e1, e2] at this
    exact decide_eq_true this
theorem le_sum : ∀ {p : List Int}, (∀ x ∈ p, 0 ≤ x) → ∀ x ∈ p, x ≤ p.sum
  | a :: p, h, x, hx => by
    have hs : ∀ {p : List Int}, (∀ x ∈ p, 0 ≤ x) → 0 ≤ p.sum := fun {p} h => by
      induction p with
      | nil => exact Int.le_refl _
      | cons a p ih =>
        rw [List.sum_cons]
        have := h a List.mem_cons_self
        have := ih fun x hx => h x (List.mem_cons_of_mem _ hx)
        omega
    rw [List.sum_cons]
    have h0 := h a List.mem_cons_self
    have hp := fun x hx => h x (List.mem_cons_of_mem a hx)
    rcases List.mem_cons.mp hx with rfl | hx
    · have := hs hp
      omega
    · have := le_sum hp x hx
      omega
end HL

set_option Elab.async false
set_option linter.all false
set_option maxRecDepth 100000
set_option maxHeartbeats 8000000
namespace HL
open PySem PySem.Spec L2
open PyProof.Rows (envOfC)
theorem paired_app {α β : Type} {F : α → β → Prop} : ∀ {l l' : List α} {m m' : List β}, Paired F l m → Paired F l' m' → Paired F (l ++ l') (m ++ m')
  | _, _, _, _, .nil, h => h
  | _, _, _, _, .cons a t, h => .cons a (paired_app t h)
/-- all but the box stays -/
def BSame (b : Addr) (H H' : Hp) : Prop := ∀ x o, x ≠ b → H x = some o → H' x = some o
theorem BSame.refl (b : Addr) (H : Hp) : BSame b H H := fun _ _ _ h => h
theorem BSame.trans {b : Addr} {H H1 H2 : Hp} (x : BSame b H H1) (y : BSame b H1 H2) : BSame b H H2 := fun a o n h => y a o n (x a o n h)
theorem Same.b {b : Addr} {H H' : Hp} (s : Same H H') : BSame b H H' := fun x o _ h => s x o h
/-- nothing was at the box before -/
theorem BSame.same {b : Addr} {H H' : Hp} (s : BSame b H H') (h : H b = none) : Same H H' := fun x o hx => s x o (ne_of_none hx h) hx
theorem BSame.new {b p : Addr} {H H' : Hp} {o : HO} (s : BSame b H H') (h : H' p = none) : BSame b H (upd H' p o) := fun x u n hx => by
  have := s x u n hx
  rw [upd_ne (ne_of_none this h)]
  exact this
def BoxAt (H : Hp) (b : Addr) : Prop := ∃ z : Int, H b = some (.lst [.int z])
theorem BoxAt.s {b : Addr} {H H' : Hp} (h : BoxAt H b) (s : Same H H') : BoxAt H' b := let ⟨z, e⟩ := h; ⟨z, s _ _ e⟩
theorem BSame.t {b : Addr} {H H' : Hp} (s : BSame b H H') (h : BoxAt H b) : TSame H H' := fun x xs hx => by
  obtain ⟨z, e⟩ := h
  exact s x _ (fun z => by rw [z, e] at hx; exact nomatch hx) hx
section
variable {P : Program} {w : World} {K : PySem.W.Frag} {mg : Str → Option Value} {base : Heap}
def spCell (K : PySem.W.Frag) : Sp := fun vs H Q _ => ∃ a, ∃ ns : List Int, ∃ k : Nat, vs = [.ref a, .int k] ∧ SqL K H a (ns.map V.int) ∧ ∀ z : Int, Q (.int z) H
theorem ok_cell (T : TX K mg) : Cal P w K mg base 1 "_law_cell" (spCell K) := by
  refine cal_of T.d_cell sc_cell (fun vs H Q E h => ?_) (fun f cdv A outer s H vs Q E hr h => ?_)
  · obtain ⟨a, ns, k, rfl, _⟩ := h
    rfl
  · obtain ⟨a, ns, k, rfl, ha, q⟩ := h
    refine ⟨_, (pss_cons (ps_if (pt_cmpR op_lt (pv 1) (pe_callB (kcall_len (K := K) rfl) (by rfl) T.b_len bt_len (pa_cons (pv 0) pa_nil)) (nomark _)) (pss_one (ps_ret (pe_ix (kix_list (K := K) rfl) (pv 0) (pv 1) (fun _ _ => rfl)))) pss_nil) (pss_one (ps_ret pe_int))), ?_⟩
    refine ⟨_, rfl, _, rfl, a, _, rfl, .inl ha, k, _, rfl, rfl, _, rfl, ?_⟩
    rw [List.length_map]
    by_cases c : (k : Int) < (ns.length : Int)
    · rw [decide_eq_true c]
      refine iteT ?_
      have g : (ns.map V.int)[k]? = some (.int (ns.getD k 0)) := by
        rw [List.getElem?_map, List.getD_eq_getElem?_getD, List.getElem?_eq_getElem (by omega)]; rfl
      exact ⟨_, rfl, _, rfl, a, _, k, _, rfl, rfl, ha, atI_nat g, q _⟩
    · rw [decide_eq_false c]
      refine iteF ?_
      exact q 0
def spMix : Sp := fun vs H Q _ => ∃ z : Int, ∃ k : Nat, vs = [.int z, .int k] ∧ ∀ H' (z' : Int), Same H H' → Q (.int z') H'
theorem ok_mix (T : TX K mg) : Cal P w K mg base 1 "_law_mix" spMix := by
  refine cal_of T.d_mix sc_mix (fun vs H Q E h => ?_) (fun f cdv A outer s H vs Q E hr h => ?_)
  · obtain ⟨z, k, rfl, _⟩ := h
    rfl
  · obtain ⟨z, k, rfl, q⟩ := h
    refine ⟨_, (pss_cons (ps_set (i := 2) sc_mix.nd rfl (Or.inl rfl) (pe_lst (pa_cons pe_int (pa_cons pe_int (pa_cons pe_int (pa_cons pe_int (pa_cons pe_int (pa_cons pe_int (pa_cons pe_int (pa_cons pe_int (pa_cons pe_int (pa_cons pe_int (pa_cons pe_int (pa_cons pe_int (pa_cons pe_int pa_nil))))))))))))))) (pss_cons (ps_set (i := 3) sc_mix.nd rfl (Or.inl rfl) (pe_op op_add (pe_op op_add (pe_op op_mul (pe_op op_add (pe_op op_mod (pv 0) pe_int) pe_int) (pe_ix (kix_list (K := K) rfl) (pv 2) (pe_op op_mod (pv 1) pe_int) (fun _ _ => rfl))) (pe_op op_mul pe_int (pv 1))) (pe_op op_mul pe_int (pe_op op_fdiv (pv 1) pe_int)))) (pss_cons (ps_set (i := 3) sc_mix.nd rfl (Or.inl rfl) (pe_op op_mod (pv 3) pe_int)) (pss_one (ps_ret (pe_op op_fdiv (pe_op op_mod (pe_op op_add (pe_op op_mul (pv 3) (pv 3)) (pe_op op_mul pe_int (pv 1))) pe_int) pe_int)))))), ?_⟩
    refine ⟨show 13 ≤ sizeLine by decide, fun d hd => ?_⟩
    have hk : ((k : Int) % 13) = ((k % 13 : Nat) : Int) := by omega
    have hlt : k % 13 < 13 := Nat.mod_lt _ (by decide)
    generalize k % 13 = j at hk hlt
    have hz1 := Int.emod_nonneg z (show (2147483647 : Int) ≠ 0 by decide)
    have hz2 := Int.emod_lt_of_pos z (show (0 : Int) < 2147483647 by decide)
    have g : ∃ m : Int, ([48271, 69621, 16807, 39373, 30269, 40014, 40692, 50021, 61687, 71993, 83869, 95561, 30307].map V.int)[j]? = some (.int m) := by
      match j, hlt with
      | 0, _ => exact ⟨_, rfl⟩
      | 1, _ => exact ⟨_, rfl⟩
      | 2, _ => exact ⟨_, rfl⟩
      | 3, _ => exact ⟨_, rfl⟩
      | 4, _ => exact ⟨_, rfl⟩
      | 5, _ => exact ⟨_, rfl⟩
      | 6, _ => exact ⟨_, rfl⟩
      | 7, _ => exact ⟨_, rfl⟩
      | 8, _ => exact ⟨_, rfl⟩
      | 9, _ => exact ⟨_, rfl⟩
      | 10, _ => exact ⟨_, rfl⟩
      | 11, _ => exact ⟨_, rfl⟩
      | 12, _ => exact ⟨_, rfl⟩
    obtain ⟨m, g⟩ := g
    refine ⟨_, rfl, z, 2147483647, rfl, rfl, show (0 : Int) < 2147483647 by decide, _, 12345, rfl, rfl, _, rfl, _, rfl, (k : Int), 13, rfl, rfl, show (0 : Int) < 13 by decide, d, _, _, _, rfl, rfl, sqL upd_same, by rw [hk]; exact atI_nat g, _, _, rfl, rfl, .inl ⟨by omega, by omega⟩, ?_⟩
    refine ⟨_, rfl, 977, (k : Int), rfl, rfl, .inl (by decide), _, _, rfl, rfl, _, rfl, (k : Int), 13, rfl, rfl, ⟨by decide, by decide⟩, 7919, _, rfl, rfl, .inl (by decide), _, _, rfl, rfl, ?_⟩
    refine ⟨_, rfl, _, 1000000007, rfl, rfl, show (0 : Int) < 1000000007 by decide, ?_⟩
    refine ⟨_, rfl, _, rfl, _, _, rfl, rfl, .inl ⟨Int.lt_of_lt_of_le (by decide) (Int.emod_nonneg _ (by decide)), Int.lt_trans (Int.emod_lt_of_pos _ (by decide)) (by decide)⟩, ?_⟩
    refine ⟨_, rfl, 48271, (k : Int), rfl, rfl, .inl (by decide), _, _, rfl, rfl, _, 1000000007, rfl, rfl, show (0 : Int) < 1000000007 by decide, _, 7, rfl, rfl, ⟨by decide, by decide⟩, ?_⟩
    exact q _ _ (same_new hd)
def spBox (K : PySem.W.Frag) : Sp := fun vs H Q _ => ∃ a, ∃ ns : List Int, ∃ k : Nat, vs = [.ref a, .int k] ∧ SqL K H a (ns.map V.int) ∧ ∀ H' b, Same H H' → H b = none → BoxAt H' b → Q (.ref b) H'
theorem ok_box (T : TX K mg) : Cal P w K mg base 2 "_law_box" (spBox K) := by
  refine cal_of T.d_box sc_box (fun vs H Q E h => ?_) (fun f cdv A outer s H vs Q E hr h => ?_)
  · obtain ⟨a, ns, k, rfl, _⟩ := h
    rfl
  · obtain ⟨a, ns, k, rfl, ha, q⟩ := h
    refine ⟨_, (pss_cons (ps_set (i := 2) sc_box.nd rfl (Or.inl rfl) (pe_k (ok_cell T) hr (pa_cons (pv 0) (pa_cons (pv 1) pa_nil)))) (pss_cons (ps_if (pt_cmpR op_eq (pe_op op_mod (pv 2) pe_int) pe_int (nomark _)) (pss_one (ps_ret (pe_lst (pa_cons (pe_op op_fdiv (pe_callB (call_abs) (by rfl) T.b_abs bt_abs (pa_cons (pv 2) pa_nil)) pe_int) pa_nil)))) pss_nil) (pss_cons (ps_set (i := 3) sc_box.nd rfl (Or.inl rfl) pe_int) (pss_cons (ps_for PassesOwn.never rfl (pi_range1 (by rfl) T.b_range (pa_cons pe_int pa_nil)) (pg_name (i := 4) sc_box.nd rfl (Or.inl rfl)) (pss_one (ps_set (i := 3) sc_box.nd rfl (Or.inl rfl) (pe_op op_add (pe_op op_mul (pv 3) pe_int) (pe_k (ok_mix T) hr (pa_cons (pv 2) (pa_cons (pv 4) pa_nil))))))) (pss_one (ps_ret (pe_lst (pa_cons (pv 3) pa_nil)))))))), ?_⟩
    refine ⟨_, rfl, _, rfl, a, ns, k, rfl, ha, fun z => ?_⟩
    refine ⟨_, rfl, z, 2, rfl, rfl, show (0 : Int) < 2 by decide, rfl, _, rfl, ?_⟩
    by_cases c : decide (V.int (z % 2) = V.int 0) = true
    · rw [c]
      refine iteT ?_
      refine ⟨_, rfl, z, rfl, _, 2, rfl, rfl, ⟨by decide, by decide⟩, show 1 ≤ sizeLine by decide, fun b hb => ?_⟩
      exact q _ b (same_new hb) hb ⟨_, upd_same⟩
    · rw [show decide (V.int (z % 2) = V.int 0) = false by simpa using c]
      refine iteF ?_
      refine ⟨40, rfl, by decide, by decide, ?_⟩
      refine for_it walk_range (fun i σ H1 => ∃ (num : Int) (a4 : Option V), σ = [some (.ref a), some (.int k), some (.int z), some (.int num), a4] ∧ Same H H1) ⟨0, _, rfl, Same.refl _⟩ (fun _ _ _ _ _ => trivial) (fun i x σ H2 H1 hi h y => ?_) (fun σ H1 h => ?_)
      · obtain ⟨num, a4, rfl, s1⟩ := h
        obtain ⟨rfl, rfl⟩ := y
        refine ⟨_, rfl, num, 142857143, rfl, rfl, .inr (by decide), _, rfl, _, rfl, z, i, by show [V.int z, V.int (0 + (i : Int))] = [V.int z, V.int (i : Int)]; rw [Int.zero_add], fun H3 z' s3 => ?_⟩
        exact ⟨_, _, rfl, rfl, _, _, rfl, s1.trans s3⟩
      · obtain ⟨num, a4, rfl, s1⟩ := h
        refine ⟨_, rfl, show 1 ≤ sizeLine by decide, fun b hb => ?_⟩
        exact q _ b (s1.trans (same_new hb)) (s1.free hb) ⟨_, upd_same⟩
def spTake : Sp := fun vs H Q _ => ∃ b, ∃ m : Int, vs = [.ref b, .int m] ∧ BoxAt H b ∧ 0 < m ∧ m < 1000000 ∧ ∀ H' (d : Int), BSame b H H' → BoxAt H' b → 0 ≤ d → d < m → Q (.int d) H'
theorem ok_take (T : TX K mg) : Cal P w K mg base 1 "_law_take" spTake := by
  refine cal_of T.d_take sc_take (fun vs H Q E h => ?_) (fun f cdv A outer s H vs Q E hr h => ?_)
  · obtain ⟨b, m, rfl, _⟩ := h
    rfl
  · obtain ⟨b, m, rfl, ⟨z, hb⟩, m0, m1, q⟩ := h
    refine ⟨_, (pss_cons (ps_asg (pe_callB (call_divmod) (by rfl) T.b_divmod bt_divmod (pa_cons (pe_ix (kix_list (K := K) rfl) (pv 0) pe_int (fun _ _ => rfl)) (pa_cons (pv 1) pa_nil))) (kpg_tup (K := K) (n := 2) rfl rfl (pgs_cons (pg_name (i := 2) sc_take.nd rfl (Or.inl rfl)) (pgs_cons (pg_name (i := 3) sc_take.nd rfl (Or.inl rfl)) pgs_nil)))) (pss_cons (ps_asg (pv 2) (pg_sub (pv 0) pe_int set_list)) (pss_one (ps_ret (pv 3))))), ?_⟩
    refine ⟨_, rfl, b, _, 0, _, rfl, rfl, sqL hb, atI_nat (j := 0) rfl, _, rfl, z, m, rfl, ⟨m0, by omega⟩, fun p hp => ?_⟩
    have s1 : Same H (upd H p (.tup [.int (z / m), .int (z % m)])) := same_new hp
    have hb1 := s1 _ _ hb
    refine ⟨p, _, rfl, sqT upd_same, rfl, _, _, rfl, _, _, rfl, rfl, ?_⟩
    refine ⟨_, rfl, _, rfl, b, _, 0, 0, rfl, rfl, hb1, rfl, ?_⟩
    refine ⟨_, rfl, q _ _ (fun x o hx h => ?_) ⟨_, upd_same⟩ (Int.emod_nonneg z (by omega)) (Int.emod_lt_of_pos z m0)⟩
    rw [upd_ne hx]
    exact s1 _ _ h
def PL (H : Hp) (a : Addr) (n : Nat) (ps : List Tie) : Prop := ∃ xs, H a = some (.lst xs) ∧ Paired (PairV H) ps xs ∧ ∀ p ∈ ps, p.1 < p.2 ∧ p.2 < n
def spPairs : Sp := fun vs H Q _ => ∃ n : Nat, vs = [.int n] ∧ n ≤ 5 ∧ ∀ H' a ps, Same H H' → H a = none → PL H' a n ps → ps.length ≤ 25 → Q (.ref a) H'
theorem ok_pairs (T : TX K mg) : Cal P w K mg base 1 "_law_pairs" spPairs := by
  refine cal_of T.d_pairs sc_pairs (fun vs H Q E h => ?_) (fun f cdv A outer s H vs Q E hr h => ?_)
  · obtain ⟨n, rfl, _⟩ := h
    rfl
  · obtain ⟨n, rfl, n5, q⟩ := h
    refine ⟨_, (pss_cons (ps_set (i := 1) sc_pairs.nd rfl (Or.inl rfl) (pe_lst pa_nil)) (pss_cons (ps_for PassesOwn.never rfl (pi_range1 (by rfl) T.b_range (pa_cons (pv 0) pa_nil)) (pg_name (i := 2) sc_pairs.nd rfl (Or.inr rfl)) (pss_one (ps_set (i := 1) sc_pairs.nd rfl (Or.inl rfl) (pe_op op_cat (pv 1) (pe_lc (own := [("_law_other", 3)]) rfl sc_pairs.nd (pi_range2 (by rfl) T.b_range (pa_cons (pe_op op_add (pv 2) pe_int) (pa_cons (pv 0) pa_nil))) (blkOk_by (N := ["_law_many", "_law_found", "_law_one", "_law_other"]) (sc := defScope s_pairs) (by decide +kernel)) (fun _ _ _ _ _ => (pg_name (i := 3) sc_pairs.nd rfl (Or.inl rfl))) (fun _ _ _ _ _ => pts_nil) (fun _ _ _ _ _ => (pe_tup (pa_cons (pv 2) (pa_cons (pv 3) pa_nil))))))))) (pss_one (ps_ret (pv 1))))), ?_⟩
    refine ⟨show 0 ≤ sizeLine by decide, fun l hl => ⟨_, rfl, (n : Int), rfl, by omega, by omega, ?_⟩⟩
    refine for_it walk_range (fun i σ H1 => ∃ fd ps a2 a3, σ = [some (.int n), some (.ref fd), a2, a3] ∧ Same H H1 ∧ H fd = none ∧ PL H1 fd n ps ∧ ps.length ≤ 5 * i) ⟨l, [], _, _, rfl, same_new hl, hl, ⟨[], upd_same, .nil, (fun _ h => nomatch h)⟩, Nat.zero_le _⟩ (fun _ _ _ _ _ => trivial) (fun i x σ H2 H1 hi h y => ?_) (fun σ H1 h => ?_)
    · obtain ⟨fd, ps, a2, a3, rfl, s1, hf0, ⟨xs, hx1, hx2, hx3⟩, hpl⟩ := h
      obtain ⟨rfl, rfl⟩ := y
      have hin : i < n := by omega
      have hxl := Paired.length hx2
      refine ⟨_, rfl, _, rfl, _, 1, rfl, rfl, _, rfl, (i : Int) + 1, (n : Int), by show [V.int (0 + (i : Int) + 1), V.int (n : Int)] = [V.int ((i : Int) + 1), V.int (n : Int)]; rw [Int.zero_add], ⟨by omega, by omega, by omega, by omega⟩, fun D hD => ?_⟩
      refine lc_rel walk_range hD (by omega) (fun _ => true) (fun j y H => PairV H (i, i + 1 + j) y) (fun j y H H' h e => h.t e) (fun _ _ => trivial) (fun j x H4 H3 hj sm hy K1 K2 k1 k2 => ?_) (fun H3 ys sm hl2 pr2 => ?_)
      · obtain ⟨rfl, rfl⟩ := hy
        refine ⟨rfl, iteT (B := K2 H3) ⟨_, rfl, _, rfl, show 2 ≤ sizeLine by decide, fun c hc => ?_⟩⟩
        refine k1 _ _ rfl (same_new hc) ⟨c, rfl, ?_⟩
        rw [upd_same]
        show some (HO.tup [V.int (0 + (i : Int)), V.int ((i : Int) + 1 + (j : Int))]) = some (HO.tup [V.int (i : Int), V.int ((i : Int) + 1 + (j : Int))])
        rw [Int.zero_add]
      · have ey := paired_mapL (g := fun j => (i, i + 1 + j)) pr2
        have hfl : (List.filter (fun _ => true) (List.range ((n : Int) - ((i : Int) + 1)).toNat)).length ≤ 5 := by
          refine Nat.le_trans (List.length_filter_le _ _) ?_
          rw [List.length_range]; omega
        have hyl : ys.length ≤ 5 := by rw [← Paired.length pr2]; exact hfl
        refine ⟨fd, D, xs, ys, rfl, rfl, sm _ _ hx1, hl2, small5 (by omega), fun p hp => ?_⟩
        have s2 : Same H3 (upd H3 p (.lst (xs ++ ys))) := same_new hp
        refine ⟨p, ps ++ _, _, _, rfl, (s1.trans sm).trans s2, (s1.trans sm).free hp, ⟨_, upd_same, paired_app (Paired.imp hx2 fun _ _ h => h.t (Same.t (Same.trans sm s2))) (Paired.imp ey fun _ _ h => h.t (Same.t s2)), fun q hq => ?_⟩, ?_⟩
        · rcases List.mem_append.mp hq with hq | hq
          · exact hx3 q hq
          · obtain ⟨j, hj, rfl⟩ := List.mem_map.mp hq
            have := List.mem_range.mp (List.mem_filter.mp hj).1
            show i < i + 1 + j ∧ i + 1 + j < n
            omega
        · rw [List.length_append, List.length_map]; omega
    · obtain ⟨fd, ps, a2, a3, rfl, s1, hf0, h, hpl⟩ := h
      exact ⟨_, rfl, q _ fd ps s1 hf0 h (by omega)⟩
end
end HL

set_option Elab.async false
set_option linter.all false
set_option maxRecDepth 100000
set_option maxHeartbeats 8000000
namespace HL
open PySem PySem.Spec L2
open PyProof.Rows (envOfC)
section
variable {J : It} {n : Nat} {G : Hp → Prop} {Y : Nat → Hp → V → Hp → Prop}
/-- a comprehension that draws from the box -/
theorem lc_box (w : Walk J n G Y) {g : TG} {tt : TT} {te : TE} {vs : List Nat} {σ : L2.St} {H1 : Hp} {D b : Addr} {Qd : Hp → Prop} (hD : H1 D = none) (hb : BoxAt H1 b) (hn : n ≤ 100000) (allk : Bool) (R : Nat → V → Hp → Prop)
    (mono : ∀ i v H H', R i v H → TSame H H' → R i v H') (hG : ∀ H, BSame b H1 H → BoxAt H b → G H)
    (turn : ∀ i x H H', i < n → BSame b H1 H → BoxAt H b → Y i H x H' → ∀ (K1 : V → Hp → Prop) (K2 : Hp → Prop), (∀ y H4, BSame b H H4 → BoxAt H4 b → R i y H4 → K1 y H4) → (allk = false → ∀ H4, BSame b H H4 → BoxAt H4 b → K2 H4) →
      g x (wipe σ vs) H' fun σ2 H2 => wipe σ2 vs = wipe σ vs ∧ tt σ2 H2 fun b H3 => if b = true then te σ2 H3 K1 else K2 H3)
    (hd : ∀ H ys L', BSame b H1 H → BoxAt H b → H D = some (.lst ys) → L'.Sublist (List.range n) → (allk = true → L' = List.range n) → Paired (fun i y => R i y H) L' ys → Qd H) :
    ∃ W : Nat → Nat → Hp → Prop, (∃ m, W 0 m (upd H1 D (.lst []))) ∧ ∀ i m H, W i m H →
      (J.stop i H ∧ Qd H) ∨ (J.go i H ∧ ∃ Nx : Hp → Prop, (∀ H', Nx H' → ∃ m', m' < m ∧ W (i + 1) m' H') ∧ ∀ x H', J.yld i H x H' → g x (wipe σ vs) H' fun σ2 H2 => wipe σ2 vs = wipe σ vs ∧ tt σ2 H2 fun b H3 =>
        if b = true then te σ2 H3 fun y H4 => ∃ acc, H4 D = some (.lst acc) ∧ acc.length < sizeLine ∧ Nx (upd H4 D (.lst (acc ++ [y]))) else Nx H3) := by
  have hne : D ≠ b := fun e => by obtain ⟨z, hz⟩ := hb; rw [e, hz] at hD; exact nomatch hD
  have boxD : ∀ {H : Hp} {o : HO}, BoxAt H b → BoxAt (upd H D o) b := fun ⟨z, h⟩ => ⟨z, by rw [upd_ne hne.symm]; exact h⟩
  have mutD : ∀ {H : Hp} {o : HO}, BSame b H1 H → BSame b H1 (upd H D o) := fun s x u hx h => by
    rw [upd_ne (ne_of_none h hD)]
    exact s x u hx h
  refine lc_it w (fun i H => i ≤ n ∧ ∃ ys L', BSame b H1 H ∧ BoxAt H b ∧ H D = some (.lst ys) ∧ L'.Sublist (List.range i) ∧ (allk = true → L' = List.range i) ∧ Paired (fun i y => R i y H) L' ys) ⟨Nat.zero_le _, [], [], mutD (BSame.refl _ _), boxD hb, upd_same, List.Sublist.refl _, fun _ => rfl, .nil⟩ (fun i H _ h => ?_) (fun i x H H' hi h y => ?_) (fun H h => ?_)
  · obtain ⟨_, ys, L', s, hbx, _⟩ := h
    exact hG H s hbx
  · obtain ⟨_, ys, L', s, hbx, hl, hsub, hall, pr⟩ := h
    refine turn i x H H' hi s hbx y _ _ (fun z H4 s4 hb4 r => ?_) (fun hk H4 s4 hb4 => ?_)
    · have hlen : ys.length ≤ n := by
        rw [← Paired.length pr]
        refine Nat.le_trans hsub.length_le ?_
        rw [List.length_range]; omega
      have hl4 := s4 _ _ hne hl
      have ts : TSame H4 (upd H4 D (.lst (ys ++ [z]))) := tsame_mut hl4 fun _ z => nomatch z
      refine ⟨ys, hl4, lt5 (by omega), hi, ys ++ [z], L' ++ [i], mutD (s.trans s4), boxD hb4, upd_same, ?_, fun h => ?_, ?_⟩
      · rw [List.range_succ]
        exact List.Sublist.append hsub (List.Sublist.refl _)
      · rw [List.range_succ, hall h]
      · exact Paired.snoc (Paired.imp pr fun j v q => mono _ _ _ _ q ((s4.t hbx).trans ts)) (mono _ _ _ _ r ts)
    · refine ⟨hi, ys, L', s.trans s4, hb4, s4 _ _ hne hl, ?_, fun h => ?_, Paired.imp pr fun j v q => mono _ _ _ _ q (s4.t hbx)⟩
      · rw [List.range_succ]
        exact hsub.trans (List.sublist_append_left _ _)
      · rw [hk] at h; exact nomatch h
  · obtain ⟨_, ys, L', s, hbx, hl, hsub, hall, pr⟩ := h
    exact hd H ys L' s hbx hl hsub hall pr
end
theorem paired_take {α β : Type} {F : α → β → Prop} : ∀ {l : List α} {m : List β} (k : Nat), Paired F l m → Paired F (l.take k) (m.take k)
  | _, _, 0, _ => .nil
  | _, _, _ + 1, .nil => .nil
  | _, _, k + 1, .cons a t => .cons a (paired_take k t)
theorem mono_take : ∀ {xs : List Int} {p : List Int} {j : Nat} {x k : Int}, xs[j]? = some x → p[j]? = some k → mono (xs.take (j + 1)) (p.take (j + 1)) = mono (xs.take j) (p.take j) * x ^ k.toNat
  | [], _, _, _, _, h, _ => by simp at h
  | _ :: _, [], _, _, _, _, h => by simp at h
  | a :: xs, b :: p, 0, x, k, h1, h2 => by
    have e1 : a = x := by simpa using h1
    have e2 : b = k := by simpa using h2
    subst e1 e2
    simp [mono]
  | a :: xs, b :: p, j + 1, x, k, h1, h2 => by
    have := mono_take (xs := xs) (p := p) (j := j) (x := x) (k := k) (by simpa using h1) (by simpa using h2)
    rw [List.take_succ_cons, List.take_succ_cons, List.take_succ_cons, List.take_succ_cons]
    show a ^ b.toNat * mono (xs.take (j + 1)) (p.take (j + 1)) = a ^ b.toNat * mono (xs.take j) (p.take j) * x ^ k.toNat
    rw [this, Int.mul_assoc]
section
variable {P : Program} {w : World} {K : PySem.W.Frag} {mg : Str → Option Value} {base : Heap}
def spTied2 : Sp := fun vs H Q _ => ∃ n ts u v, vs = [u, .int v] ∧ WebV H n ts u ∧ ts.length ≤ 10 ∧ ∀ H' r ns, Same H H' → IntsV H' ns r → ns.length ≤ 20 → Q r H'
theorem ok_tied (T : TX K mg) : Cal P w K mg base 1 "_law_tied" spTied2 := by
  refine cal_of T.d_tied sc_tied (fun vs H Q E h => ?_) (fun f cdv A outer s H vs Q E hr h => ?_)
  · obtain ⟨n, ts, u, v, rfl, _⟩ := h
    rfl
  · obtain ⟨n, ts, u, v, rfl, ⟨p, x, rfl, hp, ⟨p2, xs, rfl, hp2, pr⟩⟩, hl, q⟩ := h
    have hxs : xs.length = ts.length := (Paired.length pr).symm
    refine ⟨_, (pss_cons (ps_set (i := 2) sc_tied.nd rfl (Or.inl rfl) (pe_lst pa_nil)) (pss_cons (ps_for PassesOwn.never rfl (pi_tup (pe_ix (kix_tup (K := K) rfl) (pv 0) pe_int (fun _ _ => rfl))) (kpg_tup (K := K) (n := 2) rfl rfl (pgs_cons (pg_name (i := 3) sc_tied.nd rfl (Or.inl rfl)) (pgs_cons (pg_name (i := 4) sc_tied.nd rfl (Or.inl rfl)) pgs_nil))) (pss_cons (ps_if (pt_cmpR op_eq (pv 3) (pv 1) (nomark _)) (pss_one (ps_expr (pe_bm PySem.F.plainAttrs_list PySem.F.slot_list_append PySem.F.type_list_append (mt_append) (pv 2) (pa_cons (pv 4) pa_nil)))) pss_nil) (pss_one (ps_if (pt_cmpR op_eq (pv 4) (pv 1) (nomark _)) (pss_one (ps_expr (pe_bm PySem.F.plainAttrs_list PySem.F.slot_list_append PySem.F.type_list_append (mt_append) (pv 2) (pa_cons (pv 3) pa_nil)))) pss_nil)))) (pss_one (ps_ret (pe_callTy (call_tuple_of) (by rfl) T.b_tuple bt_tuple (pa_cons (pe_callB (cr_sorted) (by rfl) T.b_sorted bt_sorted (pa_cons (pv 2) pa_nil)) pa_nil)))))), ?_⟩
    refine ⟨show 0 ≤ sizeLine by decide, fun fd hfd => ?_⟩
    have s1 : Same H (upd H fd (.lst [])) := same_new hfd
    refine ⟨_, rfl, p, _, 1, _, rfl, rfl, sqT (s1 _ _ hp), atI_nat (j := 1) rfl, p2, rfl, ⟨_, sqT (s1 _ _ hp2)⟩, ?_⟩
    refine for_it (walk_tup (xs := xs)) (fun i σ H1 => ∃ (ns : List Int) (a3 a4 : Option V), σ = [some (.ref p), some (.int v), some (.ref fd), a3, a4] ∧ Same H H1 ∧ H1 fd = some (.lst (ns.map V.int)) ∧ ns.length ≤ 2 * i) ⟨[], _, _, rfl, s1, upd_same, Nat.zero_le _⟩ (fun i σ H1 _ h => ?_) (fun i x σ H2 H1 hi h y => ?_) (fun σ H1 h => ?_)
    · obtain ⟨_, _, _, _, sm, _⟩ := h
      exact same_seqT sm (sqT hp2)
    · obtain ⟨ns, a3, a4, rfl, s2, hf, hnl⟩ := h
      obtain ⟨rfl, hx⟩ := y
      obtain ⟨t, hti, ⟨pt, rfl, hpt⟩⟩ := paired_at pr hx
      refine ⟨pt, _, rfl, sqT (s2 _ _ hpt), rfl, _, _, rfl, _, _, rfl, rfl, ?_⟩
      refine ⟨_, rfl, _, rfl, rfl, _, rfl, ite2 (fun _ => ?_) (fun _ => ?_)⟩
      · refine ⟨_, rfl, .inl ⟨rfl, _, sqL hf⟩, _, rfl, fd, _, _, rfl, rfl, hf, lt5 (by rw [List.length_map]; omega), ?_⟩
        have s3 : Same H (upd H1 fd (.lst (ns.map V.int ++ [.int t.2]))) := same_mut s2 hfd
        refine ⟨_, rfl, _, rfl, rfl, _, rfl, ite2 (fun _ => ?_) (fun _ => ?_)⟩
        · refine ⟨_, rfl, .inl ⟨rfl, _, sqL upd_same⟩, _, rfl, fd, _, _, rfl, rfl, upd_same, lt5 (by rw [List.length_append, List.length_map]; show ns.length + 1 ≤ _; omega), ?_⟩
          exact ⟨ns ++ [(t.2 : Int)] ++ [(t.1 : Int)], _, _, rfl, same_mut s3 hfd, by rw [upd_same, List.map_append, List.map_append]; rfl, by rw [List.length_append, List.length_append]; show ns.length + 1 + 1 ≤ _; omega⟩
        · exact ⟨ns ++ [(t.2 : Int)], _, _, rfl, s3, by rw [upd_same, List.map_append]; rfl, by rw [List.length_append]; show ns.length + 1 ≤ _; omega⟩
      · refine ⟨_, rfl, _, rfl, rfl, _, rfl, ite2 (fun _ => ?_) (fun _ => ?_)⟩
        · refine ⟨_, rfl, .inl ⟨rfl, _, sqL hf⟩, _, rfl, fd, _, _, rfl, rfl, hf, lt5 (by rw [List.length_map]; omega), ?_⟩
          exact ⟨ns ++ [(t.1 : Int)], _, _, rfl, same_mut s2 hfd, by rw [upd_same, List.map_append]; rfl, by rw [List.length_append]; show ns.length + 1 ≤ _; omega⟩
        · exact ⟨ns, _, _, rfl, s2, hf, by omega⟩
    · obtain ⟨ns, a3, a4, rfl, s2, hf, hnl⟩ := h
      refine ⟨_, rfl, fd, ns, rfl, sqL hf, by omega, fun ns' p3 hpm _ hp3 => ⟨p3, _, rfl, .inl ⟨sqL upd_same, fun p4 hp4 => ?_⟩⟩⟩
      exact q _ _ ns' ((s2.trans (same_new hp3)).trans (same_new hp4)) ⟨p4, rfl, upd_same⟩ (by rw [hpm.length_eq]; omega)
def spFew : Sp := fun vs H Q _ => ∃ n ts u, vs = [u] ∧ WebV H n ts u ∧ ∀ H' r, Same H H' → WebV H' n (ts.take 10) r → Q r H'
theorem ok_few_ties (T : TX K mg) : Cal P w K mg base 1 "_law_few_ties" spFew := by
  refine cal_of T.d_few_ties sc_few_ties (fun vs H Q E h => ?_) (fun f cdv A outer s H vs Q E hr h => ?_)
  · obtain ⟨n, ts, u, rfl, _⟩ := h
    rfl
  · obtain ⟨n, ts, u, rfl, ⟨p, x, rfl, hp, ⟨p2, xs, rfl, hp2, pr⟩⟩, q⟩ := h
    refine ⟨_, (pss_one (ps_ret (pe_tup (pa_cons (pe_ix (kix_tup (K := K) rfl) (pv 0) pe_int (fun _ _ => rfl)) (pa_cons (pe_slice sl_s (pe_ix (kix_tup (K := K) rfl) (pv 0) pe_int (fun _ _ => rfl)) po_none (po_some pe_int)) pa_nil))))), ?_⟩
    refine ⟨_, rfl, p, _, 0, _, rfl, rfl, sqT hp, atI_nat (j := 0) rfl, _, rfl, p, _, 1, _, rfl, rfl, sqT hp, atI_nat (j := 1) rfl, 10, rfl, p2, _, rfl, hp2, fun H2 g s2 hg => ⟨show 2 ≤ sizeLine by decide, fun c hc => ?_⟩⟩
    have e := cut_take xs 10
    rw [show ((10 : Nat) : Int) = 10 from rfl] at e
    rw [e] at hg
    have s3 : Same H2 (upd H2 c (.tup [.int n, .ref g])) := same_new hc
    exact q _ _ (Same.trans s2 s3) ⟨c, .ref g, rfl, upd_same, g, _, rfl, s3 _ _ hg, paired_take 10 (Paired.imp pr fun _ _ h => h.t (Same.t (Same.trans s2 s3)))⟩
theorem num_at {ns : List Int} {i : Nat} (h : i < ns.length) : (ns.map V.int)[i]? = some (.int (ns.getD i 0)) := by
  rw [List.getElem?_map, List.getD_eq_getElem?_getD, List.getElem?_eq_getElem h]; rfl
theorem getD_mem {ns : List Int} {i : Nat} (h : i < ns.length) : ns.getD i 0 ∈ ns := by
  rw [List.getD_eq_getElem?_getD, List.getElem?_eq_getElem h]
  exact List.getElem_mem h
def spPut : Sp := fun vs H Q _ => ∃ d l od kvs ns, vs = [.ref d, .ref l] ∧ H d = some (.frz od (.dT (kvs.map emb))) ∧ Nd kvs ∧ H l = some (.lst (ns.map V.int)) ∧ (∀ x ∈ ns, -100 ≤ x ∧ x ≤ 100) ∧ ns.length ≤ 100 ∧ (∀ kv ∈ kvs, kv.1.length = ns.length ∧ ∀ x ∈ kv.1, 0 ≤ x ∧ x ≤ 100) ∧ Q (.int (S kvs (mono ns))) H
theorem ok_put (T : TX K mg) : Cal P w K mg base 1 "_law_put" spPut := by
  refine cal_of T.d_put sc_put (fun vs H Q E h => ?_) (fun f cdv A outer s H vs Q E hr h => ?_)
  · obtain ⟨d, l, od, kvs, ns, rfl, _⟩ := h
    rfl
  · obtain ⟨d, l, od, kvs, ns, rfl, hd, nd, hl, hb, hnl, hk, q⟩ := h
    refine ⟨_, (pss_cons (ps_set (i := 2) sc_put.nd rfl (Or.inl rfl) pe_int) (pss_cons (ps_for PassesOwn.never rfl (pi_keys (pv 0)) (pg_name (i := 3) sc_put.nd rfl (Or.inl rfl)) (pss_cons (ps_set (i := 4) sc_put.nd rfl (Or.inl rfl) (pe_dget (hu_of hr) (pv 0) (pv 3) (fun _ _ => rfl))) (pss_cons (ps_for PassesOwn.never rfl (pi_range1 (by rfl) T.b_range (pa_cons (pe_callB (kcall_len (K := K) rfl) (by rfl) T.b_len bt_len (pa_cons (pv 3) pa_nil)) pa_nil)) (pg_name (i := 5) sc_put.nd rfl (Or.inl rfl)) (pss_one (ps_for PassesOwn.never rfl (pi_range1 (by rfl) T.b_range (pa_cons (pe_ix (kix_tup (K := K) rfl) (pv 3) (pv 5) (fun _ _ => rfl)) pa_nil)) (pg_name (i := 6) sc_put.nd rfl (Or.inl rfl)) (pss_one (ps_set (i := 4) sc_put.nd rfl (Or.inl rfl) (pe_op op_mul (pv 4) (pe_ix (kix_list (K := K) rfl) (pv 1) (pv 5) (fun _ _ => rfl)))))))) (pss_one (ps_set (i := 2) sc_put.nd rfl (Or.inl rfl) (pe_op op_add (pv 2) (pv 4))))))) (pss_one (ps_ret (pv 2))))), ?_⟩
    refine ⟨_, rfl, d, od, rfl, .inr ⟨_, hd, ?_⟩⟩
    refine for_it (walk_keysT (kvs := kvs.map emb)) (fun i σ H1 => H1 = H ∧ ∃ a3 a4 a5 a6, σ = [some (.ref d), some (.ref l), some (.int (S (kvs.take i) (mono ns))), a3, a4, a5, a6]) ⟨rfl, _, _, _, _, rfl⟩ (fun i σ H1 _ h => ?_) (fun i x σ H2 H1 hi h y => ?_) (fun σ H1 h => ?_)
    · obtain ⟨rfl, _⟩ := h
      exact hd
    · obtain ⟨rfl, a3, a4, a5, a6, rfl⟩ := h
      obtain ⟨rfl, k, vv, b, hkk, rfl, hbb⟩ := y
      have hi' : i < kvs.length := by rw [emb_len] at hi; exact hi
      have e1 : kvs[i]? = some kvs[i] := List.getElem?_eq_getElem hi'
      generalize hpc : kvs[i] = pc at e1
      obtain ⟨pp, c⟩ := pc
      have hk2 : k = pp.map Sum.inl := by
        rw [List.getElem?_map, e1] at hkk
        exact (congrArg Prod.fst (Option.some.inj hkk)).symm
      subst hk2
      have hbt : TupAt H1 b pp := by rw [inl_kV] at hbb; exact hbb
      have hpm := List.mem_of_getElem? e1
      obtain ⟨hlen, hpos⟩ := hk _ hpm
      have hlen : pp.length = ns.length := hlen
      refine ⟨_, rfl, _, rfl, d, _, rfl, dget_emb (.inr ⟨od, hd⟩) hbt nd hpm, ?_⟩
      refine ⟨_, rfl, b, _, rfl, .inr (sqT hbt), _, rfl, by rw [List.length_map]; omega, by rw [List.length_map]; omega, ?_⟩
      refine for_it walk_range (fun j σ H2 => H2 = H1 ∧ ∃ a5 a6, σ = [some (.ref d), some (.ref l), some (.int (S (kvs.take i) (mono ns))), some (.ref b), some (.int (c * mono (ns.take j) (pp.take j))), a5, a6]) ⟨rfl, a5, a6, ?_⟩ (fun _ _ _ _ _ => trivial) (fun j x σ H3 H2 hj h y => ?_) (fun σ H2 h => ?_)
      · rw [List.take_zero, List.take_zero, show mono ([] : List Int) ([] : Pw) = 1 from rfl, Int.mul_one]
        rfl
      · obtain ⟨rfl, a5, a6, rfl⟩ := h
        obtain ⟨rfl, rfl⟩ := y
        rw [List.length_map] at hj
        have hj1 : j < pp.length := by omega
        have hj2 : j < ns.length := by omega
        have hz : (0 : Int) + (j : Int) = (j : Int) := Int.zero_add _
        have hpj : 0 ≤ pp.getD j 0 ∧ pp.getD j 0 ≤ 100 := hpos _ (getD_mem hj1)
        refine ⟨_, rfl, _, rfl, b, _, j, _, rfl, congrArg V.int hz, sqT hbt, atI_nat (num_at hj1), _, rfl, by omega, by omega, ?_⟩
        refine for_it walk_range (fun m σ H3 => H3 = H2 ∧ ∃ a6, σ = [some (.ref d), some (.ref l), some (.int (S (kvs.take i) (mono ns))), some (.ref b), some (.int (c * mono (ns.take j) (pp.take j) * ns.getD j 0 ^ m)), some (.int (0 + (j : Int))), a6]) ⟨rfl, a6, ?_⟩ (fun _ _ _ _ _ => trivial) (fun m x σ H4 H3 hm h y => ?_) (fun σ H3 h => ?_)
        · rw [Int.pow_zero, Int.mul_one]
          rfl
        · obtain ⟨rfl, a6, rfl⟩ := h
          obtain ⟨rfl, rfl⟩ := y
          have hbj := hb _ (getD_mem hj2)
          refine ⟨_, rfl, _, rfl, _, rfl, l, _, j, _, rfl, congrArg V.int hz, sqL hl, atI_nat (num_at hj2), _, _, rfl, rfl, .inr ⟨by omega, by omega⟩, rfl, some (.int (0 + (m : Int))), ?_⟩
          rw [Int.pow_succ, ← Int.mul_assoc]
          rfl
        · obtain ⟨rfl, a6, rfl⟩ := h
          refine ⟨rfl, some (.int (0 + (j : Int))), a6, ?_⟩
          have g1 : ns[j]? = some (ns.getD j 0) := by rw [List.getD_eq_getElem?_getD, List.getElem?_eq_getElem hj2]; rfl
          have g2 : pp[j]? = some (pp.getD j 0) := by rw [List.getD_eq_getElem?_getD, List.getElem?_eq_getElem hj1]; rfl
          rw [mono_take g1 g2, ← Int.mul_assoc]
      · obtain ⟨rfl, a5, a6, rfl⟩ := h
        have e2 : S (kvs.take (i + 1)) (mono ns) = S (kvs.take i) (mono ns) + c * mono ns pp := by
          rw [List.take_succ, e1, S_append]
          show _ + S [(pp, c)] (mono ns) = _
          rw [S_cons, S_nil, Int.add_zero]
        have e3 : ns.take ((pp.map V.int).length : Int).toNat = ns ∧ pp.take ((pp.map V.int).length : Int).toNat = pp := by
          rw [List.length_map, Int.toNat_natCast]
          exact ⟨by rw [hlen, List.take_length], List.take_length⟩
        refine ⟨_, rfl, _, rfl, _, _, rfl, rfl, rfl, some (.ref b), some (.int (c * mono (ns.take ((pp.map V.int).length : Int).toNat) (pp.take ((pp.map V.int).length : Int).toNat))), a5, a6, ?_⟩
        rw [e3.1, e3.2, e2]
        rfl
    · obtain ⟨rfl, a3, a4, a5, a6, rfl⟩ := h
      rw [emb_len, List.take_length]
      exact ⟨_, rfl, q⟩
def spProduct : Sp := fun vs H Q _ => ∃ n ts u l ns, vs = [u, .ref l] ∧ WebV H n ts u ∧ (∀ t ∈ ts, t.1 < n ∧ t.2 < n) ∧ H l = some (.lst (ns.map V.int)) ∧ (∀ x ∈ ns, (-100 : Int) ≤ x ∧ x ≤ 100) ∧ ns.length = n ∧ Q (.int (prod ts ns)) H
theorem ok_product (T : TX K mg) : Cal P w K mg base 1 "_law_product" spProduct := by
  refine cal_of T.d_product sc_product (fun vs H Q E h => ?_) (fun f cdv A outer s H vs Q E hr h => ?_)
  · obtain ⟨n, ts, u, l, ns, rfl, _⟩ := h
    rfl
  · obtain ⟨n, ts, u, l, ns, rfl, ⟨p, x, rfl, hp, ⟨p2, xs, rfl, hp2, pr⟩⟩, ht, hl, hb, hnl, q⟩ := h
    have hxs : xs.length = ts.length := (Paired.length pr).symm
    refine ⟨_, (pss_cons (ps_set (i := 2) sc_product.nd rfl (Or.inl rfl) pe_int) (pss_cons (ps_for PassesOwn.never rfl (pi_tup (pe_ix (kix_tup (K := K) rfl) (pv 0) pe_int (fun _ _ => rfl))) (kpg_tup (K := K) (n := 2) rfl rfl (pgs_cons (pg_name (i := 3) sc_product.nd rfl (Or.inl rfl)) (pgs_cons (pg_name (i := 4) sc_product.nd rfl (Or.inl rfl)) pgs_nil))) (pss_one (ps_set (i := 2) sc_product.nd rfl (Or.inl rfl) (pe_op op_mul (pv 2) (pe_op op_sub (pe_ix (kix_list (K := K) rfl) (pv 1) (pv 3) (fun _ _ => rfl)) (pe_ix (kix_list (K := K) rfl) (pv 1) (pv 4) (fun _ _ => rfl))))))) (pss_one (ps_ret (pv 2))))), ?_⟩
    refine ⟨_, rfl, p, _, 1, _, rfl, rfl, sqT hp, atI_nat (j := 1) rfl, p2, rfl, ⟨_, sqT hp2⟩, ?_⟩
    refine for_it (walk_tup (xs := xs)) (fun i σ H1 => H1 = H ∧ ∃ a3 a4, σ = [some (.ref p), some (.ref l), some (.int (prod (ts.take i) ns)), a3, a4]) ⟨rfl, _, _, rfl⟩ (fun i σ H1 _ h => ?_) (fun i x σ H2 H1 hi h y => ?_) (fun σ H1 h => ?_)
    · obtain ⟨rfl, _⟩ := h
      exact sqT hp2
    · obtain ⟨rfl, a3, a4, rfl⟩ := h
      obtain ⟨rfl, hx⟩ := y
      obtain ⟨t, hti, ⟨pt, rfl, hpt⟩⟩ := paired_at pr hx
      obtain ⟨h1, h2⟩ := ht t (List.mem_of_getElem? hti)
      have b1 := hb _ (getD_mem (ns := ns) (i := t.1) (by omega))
      have b2 := hb _ (getD_mem (ns := ns) (i := t.2) (by omega))
      refine ⟨pt, _, rfl, sqT hpt, rfl, _, _, rfl, _, _, rfl, rfl, ?_⟩
      refine ⟨_, rfl, _, rfl, _, rfl, l, _, t.1, _, rfl, rfl, sqL hl, atI_nat (num_at (by omega)), _, rfl, _, rfl, l, _, t.2, _, rfl, rfl, sqL hl, atI_nat (num_at (by omega)), _, _, rfl, rfl, _, _, rfl, rfl, .inr ⟨by omega, by omega⟩, rfl, some (.int t.1), some (.int t.2), ?_⟩
      have e : prod (ts.take (i + 1)) ns = prod (ts.take i) ns * (ns.getD t.1 0 - ns.getD t.2 0) := by
        unfold prod
        rw [List.take_succ, hti, List.foldl_append]
        rfl
      rw [e]
      rfl
    · obtain ⟨rfl, a3, a4, rfl⟩ := h
      rw [hxs, List.take_length]
      exact ⟨_, rfl, q⟩
def spDSizes : Sp := fun vs H Q _ => ∃ n ts b u, vs = [.ref b, u, .int 3] ∧ BoxAt H b ∧ WebV H n ts u ∧ 1 ≤ n ∧ n ≤ 5 ∧ ts.length ≤ 10 ∧ ∀ H' r ss, BSame b H H' → BoxAt H' b → IntsV H' ss r → SizesOk n ss → Q r H'
theorem WebV.b {b : Addr} {H H' : Hp} {n : Nat} {ts : List Tie} {u : V} (s : BSame b H H') (hb : BoxAt H b) (h : WebV H n ts u) : WebV H' n ts u := h.t (s.t hb)
theorem ok_drawn_sizes (T : TX K mg) : Cal P w K mg base 2 "_law_drawn_sizes" spDSizes := by
  refine cal_of T.d_drawn_sizes sc_drawn_sizes (fun vs H Q E h => ?_) (fun f cdv A outer s H vs Q E hr h => ?_)
  · obtain ⟨n, ts, b, u, rfl, _⟩ := h
    rfl
  · obtain ⟨n, ts, b, u, rfl, hbx, hw, n1, n5, htl, q⟩ := h
    refine ⟨_, (pss_cons (ps_set (i := 3) sc_drawn_sizes.nd rfl (Or.inl rfl) (pe_k (ok_take T) hr (pa_cons (pv 0) (pa_cons pe_int pa_nil)))) (pss_cons (ps_if (pt_cmpR op_eq (pv 3) pe_int (nomark _)) (pss_one (ps_ret (pe_op (kop_repN (K := K) rfl) (pe_tup (pa_cons (pe_op op_add pe_int (pe_k (ok_take T) hr (pa_cons (pv 0) (pa_cons (pv 2) pa_nil)))) pa_nil)) (pe_ix (kix_tup (K := K) rfl) (pv 1) pe_int (fun _ _ => rfl))))) pss_nil) (pss_cons (ps_set (i := 4) sc_drawn_sizes.nd rfl (Or.inl rfl) (pe_lst pa_nil)) (pss_cons (ps_for PassesOwn.never rfl (pi_range1 (by rfl) T.b_range (pa_cons (pe_ix (kix_tup (K := K) rfl) (pv 1) pe_int (fun _ _ => rfl)) pa_nil)) (pg_name (i := 5) sc_drawn_sizes.nd rfl (Or.inl rfl)) (pss_cons (ps_set (i := 6) sc_drawn_sizes.nd rfl (Or.inl rfl) (pe_callB (kcall_len (K := K) rfl) (by rfl) T.b_len bt_len (pa_cons (pe_k (ok_tied T) hr (pa_cons (pv 1) (pa_cons (pv 5) pa_nil))) pa_nil))) (pss_one (ps_expr (pe_bm PySem.F.plainAttrs_list PySem.F.slot_list_append PySem.F.type_list_append (mt_append) (pv 4) (pa_cons (pe_callB (call_min2 rfl) (by rfl) T.b_min bt_min (pa_cons pe_int (pa_cons (pe_ix (kix_list (K := K) rfl) (pe_lst (pa_cons (pe_k (ok_take T) hr (pa_cons (pv 0) (pa_cons (pe_op op_add (pv 2) pe_int) pa_nil))) (pa_cons (pv 6) (pa_cons (pe_callB (call_max2 rfl) (by rfl) T.b_max bt_max (pa_cons pe_int (pa_cons (pe_op op_sub (pe_op op_add (pv 6) pe_int) (pe_k (ok_take T) hr (pa_cons (pv 0) (pa_cons pe_int pa_nil)))) pa_nil))) pa_nil)))) (pe_op op_sub (pv 3) pe_int) (fun _ _ => rfl)) pa_nil))) pa_nil)))))) (pss_one (ps_ret (pe_callTy (call_tuple_of) (by rfl) T.b_tuple bt_tuple (pa_cons (pv 4) pa_nil)))))))), ?_⟩
    refine ⟨_, rfl, b, 4, rfl, hbx, by decide, by decide, fun H2 way s2 hb2 w0 w4 => ?_⟩
    have hw2 := hw.b s2 hbx
    obtain ⟨p, x, rfl, hp, hx⟩ := hw2
    refine ⟨_, rfl, rfl, _, rfl, ite2 (fun _ => ?_) (fun hway => ?_)⟩
    · refine ⟨_, rfl, _, rfl, b, 3, rfl, hb2, by decide, by decide, fun H3 d s3 hb3 d0 d3 => ⟨1, d, rfl, rfl, show 1 ≤ sizeLine by decide, fun z hz => ?_⟩⟩
      have s4 : Same H3 (upd H3 z (.tup [.int (1 + d)])) := same_new hz
      have hp4 : upd H3 z (.tup [.int (1 + d)]) p = some (.tup [.int n, x]) := s4 _ _ (s3.t hb2 _ _ hp)
      refine ⟨_, rfl, p, _, 0, _, rfl, rfl, sqT hp4, atI_nat (j := 0) rfl, z, 1 + d, n, rfl, rfl, upd_same, n1, by omega, fun r H5 s5 hr5 => ?_⟩
      refine q H5 _ (List.replicate n (1 + d)) ((s2.trans s3).trans (Same.b (Same.trans s4 s5))) (hb3.s (Same.trans s4 s5)) ⟨r, rfl, hr5⟩ ⟨List.length_replicate .., fun y hy => ?_⟩
      rw [List.mem_replicate] at hy
      omega
    · have hway' : way ≠ 0 := fun e => hway (decide_eq_true (by rw [e]))
      refine ⟨show 0 ≤ sizeLine by decide, fun fd hfd => ?_⟩
      have hfb : fd ≠ b := fun e => by obtain ⟨z, hz⟩ := hb2; rw [e, hz] at hfd; exact nomatch hfd
      have s3 : Same H2 (upd H2 fd (.lst [])) := same_new hfd
      have hf0 : H fd = none := by
        cases e : H fd with
        | none => rfl
        | some o => have := s2 _ _ hfb e; rw [this] at hfd; exact nomatch hfd
      refine ⟨_, rfl, p, _, 0, _, rfl, rfl, sqT (s3 _ _ hp), atI_nat (j := 0) rfl, (n : Int), rfl, by omega, by omega, ?_⟩
      refine for_it walk_range (fun i σ H1 => ∃ (ss : List Int) (a5 a6 : Option V), σ = [some (.ref b), some (.ref p), some (.int 3), some (.int way), some (.ref fd), a5, a6] ∧ BSame b H H1 ∧ BoxAt H1 b ∧ H1 fd = some (.lst (ss.map V.int)) ∧ ss.length = i ∧ ∀ y ∈ ss, 0 ≤ y ∧ y ≤ 8) ⟨[], _, _, rfl, s2.trans (Same.b s3), hb2.s s3, upd_same, rfl, (fun _ h => nomatch h)⟩ (fun _ _ _ _ _ => trivial) (fun i x σ H4 H3 hi h y => ?_) (fun σ H3 h => ?_)
      · obtain ⟨ss, a5, a6, rfl, s4, hb4, hf4, hsl, hsb⟩ := h
        obtain ⟨rfl, rfl⟩ := y
        have hin : i < n := by omega
        have hz : (0 : Int) + (i : Int) = (i : Int) := Int.zero_add _
        refine ⟨_, rfl, _, rfl, n, ts, .ref p, 0 + (i : Int), rfl, hw.b s4 hbx, htl, fun H5 r ns s5 hr5 hnl => ?_⟩
        obtain ⟨pn, rfl, hpn⟩ := hr5
        refine ⟨pn, _, rfl, .inr (sqT hpn), ?_⟩
        have hf5 := s5 _ _ hf4
        refine ⟨_, rfl, .inl ⟨rfl, _, sqL hf5⟩, _, rfl, _, rfl, 3, 1, rfl, rfl, b, 4, rfl, hb4.s s5, by decide, by decide, fun H6 d1 s6 hb6 d10 d11 => ?_⟩
        refine ⟨_, rfl, _, rfl, _, 1, rfl, rfl, _, rfl, b, 3, rfl, hb6, by decide, by decide, fun H7 d2 s7 hb7 d20 d21 => ⟨_, _, rfl, rfl, 0, _, rfl, show 3 ≤ sizeLine by decide, fun ls hls => ?_⟩⟩
        have s8 : Same H7 (upd H7 ls (.lst [.int d1, .int ((ns.map V.int).length : Nat), .int (if (((ns.map V.int).length : Nat) : Int) + 1 - d2 > 0 then (((ns.map V.int).length : Nat) : Int) + 1 - d2 else 0)])) := same_new hls
        have hf7 := s7 _ _ hfb (s6 _ _ hfb hf5)
        obtain ⟨v, hv0, hv⟩ : ∃ v : Int, 0 ≤ v ∧ atI [V.int d1, V.int ((ns.map V.int).length : Nat), V.int (if (((ns.map V.int).length : Nat) : Int) + 1 - d2 > 0 then (((ns.map V.int).length : Nat) : Int) + 1 - d2 else 0)] (way - 1) = some (.int v) := by
          have : way = 1 ∨ way = 2 ∨ way = 3 := by omega
          rcases this with rfl | rfl | rfl
          · exact ⟨_, d10, atI_nat (j := 0) rfl⟩
          · exact ⟨_, Int.natCast_nonneg _, atI_nat (j := 1) rfl⟩
          · exact ⟨_, by split <;> omega, atI_nat (j := 2) rfl⟩
        refine ⟨_, rfl, way, 1, rfl, rfl, ls, _, _, _, rfl, rfl, sqL upd_same, hv, 8, v, rfl, fd, _, _, rfl, rfl, s8 _ _ hf7, lt5 (by rw [List.length_map]; omega), ?_⟩
        have bs : BSame b H (upd (upd H7 ls (.lst [.int d1, .int ((ns.map V.int).length : Nat), .int (if (((ns.map V.int).length : Nat) : Int) + 1 - d2 > 0 then (((ns.map V.int).length : Nat) : Int) + 1 - d2 else 0)])) fd (.lst (ss.map V.int ++ [.int (if v < 8 then v else 8)]))) := fun x o hx h => by
          have h7 := s8 _ _ (s7 _ _ hx (s6 _ _ hx (s5 _ _ (s4 _ _ hx h))))
          rw [upd_ne (ne_of_none h hf0)]
          exact h7
        refine ⟨ss ++ [if v < 8 then v else 8], _, _, rfl, bs, ?_, ?_, ?_, fun y hy => ?_⟩
        · obtain ⟨z, hz⟩ := hb7.s s8
          exact ⟨z, by rw [upd_ne hfb.symm]; exact hz⟩
        · rw [upd_same, List.map_append]; rfl
        · rw [List.length_append, hsl]; rfl
        · rcases List.mem_append.mp hy with hy | hy
          · exact hsb y hy
          · rw [List.mem_singleton] at hy
            subst hy
            split <;> omega
      · obtain ⟨ss, a5, a6, rfl, s4, hb4, hf4, hsl, hsb⟩ := h
        refine ⟨_, rfl, fd, _, rfl, .inl ⟨sqL hf4, fun a ha => ?_⟩⟩
        have s5 : Same H3 (upd H3 a (.tup (ss.map V.int))) := same_new ha
        exact q _ _ ss (s4.trans (Same.b s5)) (hb4.s s5) ⟨a, rfl, upd_same⟩ ⟨by omega, hsb⟩
end
end HL

set_option Elab.async false
set_option linter.all false
set_option maxRecDepth 100000
set_option maxHeartbeats 8000000
namespace HL
open PySem PySem.Spec L2
open PyProof.Rows (envOfC)
theorem good_of {H : Hp} {Gd : Tie → Prop} : ∀ {L : List Nat} {ys : List V}, Paired (fun _ y => ∃ t, Gd t ∧ PairV H t y) L ys → ∃ qs, Paired (PairV H) qs ys ∧ (∀ q ∈ qs, Gd q) ∧ qs.length = L.length
  | _, _, .nil => ⟨[], .nil, (fun _ h => nomatch h), rfl⟩
  | _, _, .cons ⟨t, h1, h2⟩ r => by
    obtain ⟨qs, g1, g2, g3⟩ := good_of r
    refine ⟨t :: qs, .cons h2 g1, fun q hq => ?_, by rw [List.length_cons, List.length_cons, g3]⟩
    rcases List.mem_cons.mp hq with rfl | hq
    · exact h1
    · exact g2 q hq
theorem ks_of {H : Hp} {many : Nat} : ∀ {ps : List Tie} {xs : List V}, Paired (PairV H) ps xs → ∃ ks : List (Addr × List Int), xs = ks.map (fun p => V.ref p.1) ∧ (∀ p ∈ ks, TupAt H p.1 p.2 ∧ ∃ t ∈ ps, p.2 = [(t.1 : Int), (t.2 : Int)]) ∧ ks.length = ps.length
  | _, _, .nil => ⟨[], rfl, (fun _ h => nomatch h), rfl⟩
  | t :: _, _, .cons ⟨b, e, hb⟩ r => by
    obtain ⟨ks, g1, g2, g3⟩ := ks_of (many := many) r
    refine ⟨(b, [(t.1 : Int), (t.2 : Int)]) :: ks, by rw [List.map_cons, ← g1, e], fun p hp => ?_, by rw [List.length_cons, List.length_cons, g3]⟩
    rcases List.mem_cons.mp hp with rfl | hp
    · exact ⟨hb, t, List.mem_cons_self, rfl⟩
    · obtain ⟨h1, t', h2, h3⟩ := g2 p hp
      exact ⟨h1, t', List.mem_cons_of_mem _ h2, h3⟩
def tieOf (p : Addr × List Int) : Tie := ((p.2.getD 0 0).toNat, (p.2.getD 1 0).toNat)
theorem tieOf_eq {p : Addr × List Int} {t : Tie} (h : p.2 = [(t.1 : Int), (t.2 : Int)]) : tieOf p = t := by
  unfold tieOf
  rw [h]
  show ((t.1 : Int).toNat, (t.2 : Int).toNat) = t
  rw [Int.toNat_natCast, Int.toNat_natCast]
theorem ties_of {H : Hp} : ∀ (L : List (Addr × List Int)), (∀ p ∈ L, TupAt H p.1 p.2 ∧ ∃ t : Tie, p.2 = [(t.1 : Int), (t.2 : Int)]) → Paired (PairV H) (L.map tieOf) (L.map fun p => V.ref p.1)
  | [], _ => .nil
  | p :: L, h => by
    obtain ⟨h1, t, h2⟩ := h p List.mem_cons_self
    refine .cons ⟨p.1, rfl, ?_⟩ (ties_of L fun q hq => h q (List.mem_cons_of_mem _ hq))
    rw [tieOf_eq h2]
    have : H p.1 = some (.tup (p.2.map V.int)) := h1
    rw [this, h2]
    rfl
/-- pairs of so many places, rising -/
structure Ris (n : Nat) (ts : List Tie) : Prop where
  tie : ∀ t ∈ ts, t.1 < t.2 ∧ t.2 < n
  rise : ∀ (i : Nat) (a b : Tie), ts[i]? = some a → ts[i + 1]? = some b → a.1 < b.1 ∨ (a.1 = b.1 ∧ a.2 < b.2)
theorem Ris.web {n : Nat} {ts : List Tie} (h : Ris n ts) (n1 : 1 ≤ n) (n5 : n ≤ 5) : WebOk n (ts.take 10) where
  n1 := n1
  n5 := n5
  tie := fun t ht => h.tie t (List.mem_of_mem_take ht)
  len := by rw [List.length_take]; omega
  rise := fun i a b ha hb => by
    rw [List.getElem?_take] at ha hb
    split at hb
    · split at ha
      · exact h.rise i a b ha hb
      · exact nomatch ha
    · exact nomatch hb
section
variable {P : Program} {w : World} {K : PySem.W.Frag} {mg : Str → Option Value} {base : Heap}
def DW (H0 : Hp) (b : Addr) (many : Nat) (a : Addr) (H' : Hp) : Prop := BSame b H0 H' ∧ BoxAt H' b ∧ ∃ ps, PL H' a many ps ∧ ps.length ≤ 30
def spDWeb : Sp := fun vs H Q _ => ∃ b, vs = [.ref b, .int 5] ∧ BoxAt H b ∧ ∀ H' r n ts, BSame b H H' → BoxAt H' b → WebV H' n ts r → 1 ≤ n → n ≤ 5 → Ris n ts → Q r H'
theorem ok_drawn_web (T : TX K mg) : Cal P w K mg base 2 "_law_drawn_web" spDWeb := by
  refine cal_of T.d_drawn_web sc_drawn_web (fun vs H Q E h => ?_) (fun f cdv A outer s H vs Q E hr h => ?_)
  · obtain ⟨b, rfl, _⟩ := h
    rfl
  · obtain ⟨b, rfl, hbx, q⟩ := h
    refine ⟨_, (pss_cons (ps_set (i := 2) sc_drawn_web.nd rfl (Or.inl rfl) (pe_op op_add pe_int (pe_k (ok_take T) hr (pa_cons (pv 0) (pa_cons (pv 1) pa_nil))))) (pss_cons (ps_set (i := 3) sc_drawn_web.nd rfl (Or.inl rfl) (pe_k (ok_take T) hr (pa_cons (pv 0) (pa_cons pe_int pa_nil)))) (pss_cons (ps_set (i := 4) sc_drawn_web.nd rfl (Or.inr rfl) (pe_ix (kix_list (K := K) rfl) (pe_lst (pa_cons pe_int (pa_cons pe_int (pa_cons pe_int (pa_cons pe_int pa_nil))))) (pe_k (ok_take T) hr (pa_cons (pv 0) (pa_cons pe_int pa_nil))) (fun _ _ => rfl))) (pss_cons (ps_setLc (i := 5) (own := [("_law_pair", 6)]) rfl sc_drawn_web.nd rfl rfl rfl (pi_list (pe_k (ok_pairs T) hr (pa_cons (pv 2) pa_nil))) (blkOk_by (N := ["_law_box_here", "_law_most", "_law_many", "_law_way", "_law_often", "_law_pairs_here", "_law_pair", "_law_place"]) (sc := defScope s_drawn_web) (by decide +kernel)) (fun _ _ _ _ _ => (pg_name (i := 6) sc_drawn_web.nd rfl (Or.inl rfl))) (fun _ _ _ _ _ => (pts_one (pt_cmpR op_lt (pe_k (ok_take T) hr (pa_cons (pv 0) (pa_cons pe_int pa_nil))) (pv 4) (nomark _)))) (fun _ _ _ _ _ => (pv 6))) (pss_cons (ps_if (pt_cmpR op_eq (pv 3) pe_int (nomark _)) (pss_one (ps_setLc (i := 5) (own := [("_law_place", 7)]) rfl sc_drawn_web.nd rfl rfl rfl (pi_range2 (by rfl) T.b_range (pa_cons pe_int (pa_cons (pv 2) pa_nil))) (blkOk_by (N := ["_law_box_here", "_law_most", "_law_many", "_law_way", "_law_often", "_law_pairs_here", "_law_pair", "_law_place"]) (sc := defScope s_drawn_web) (by decide +kernel)) (fun _ _ _ _ _ => (pg_name (i := 7) sc_drawn_web.nd rfl (Or.inl rfl))) (fun _ _ _ _ _ => pts_nil) (fun _ _ _ _ _ => (pe_tup (pa_cons (pe_k (ok_take T) hr (pa_cons (pv 0) (pa_cons (pv 7) pa_nil))) (pa_cons (pv 7) pa_nil)))))) pss_nil) (pss_cons (ps_if (PW.pt (pw_and (pt_cmpR op_eq (pv 3) pe_int (nomark _)) (pw_and1 (pt_cmpR op_gt (pv 2) pe_int (nomark _))))) (pss_one (ps_set (i := 5) sc_drawn_web.nd rfl (Or.inl rfl) (pe_op op_cat (pe_lc (own := [("_law_place", 7)]) rfl sc_drawn_web.nd (pi_range1 (by rfl) T.b_range (pa_cons (pe_op op_sub (pv 2) pe_int) pa_nil)) (blkOk_by (N := ["_law_box_here", "_law_most", "_law_many", "_law_way", "_law_often", "_law_pairs_here", "_law_pair", "_law_place"]) (sc := defScope s_drawn_web) (by decide +kernel)) (fun _ _ _ _ _ => (pg_name (i := 7) sc_drawn_web.nd rfl (Or.inl rfl))) (fun _ _ _ _ _ => pts_nil) (fun _ _ _ _ _ => (pe_tup (pa_cons (pv 7) (pa_cons (pe_op op_add (pv 7) pe_int) pa_nil))))) (pe_lst (pa_cons (pe_tup (pa_cons pe_int (pa_cons (pe_op op_sub (pv 2) pe_int) pa_nil))) pa_nil))))) pss_nil) (pss_cons (ps_if (pt_cmpR op_eq (pv 3) pe_int (nomark _)) (pss_one (ps_setLc (i := 5) (own := [("_law_pair", 6)]) rfl sc_drawn_web.nd rfl rfl rfl (pi_list (pe_k (ok_pairs T) hr (pa_cons (pv 2) pa_nil))) (blkOk_by (N := ["_law_box_here", "_law_most", "_law_many", "_law_way", "_law_often", "_law_pairs_here", "_law_pair", "_law_place"]) (sc := defScope s_drawn_web) (by decide +kernel)) (fun _ _ _ _ _ => (pg_name (i := 6) sc_drawn_web.nd rfl (Or.inl rfl))) (fun _ _ _ _ _ => (pts_one (PW.pt (pw_or (pt_cmpR op_ne (pe_op op_mod (pe_ix (kix_tup (K := K) rfl) (pv 6) pe_int (fun _ _ => rfl)) pe_int) (pe_op op_mod (pe_ix (kix_tup (K := K) rfl) (pv 6) pe_int (fun _ _ => rfl)) pe_int) (nomark _)) (pw_or1 (pt_cmpR op_eq (pe_op op_add (pe_ix (kix_tup (K := K) rfl) (pv 6) pe_int (fun _ _ => rfl)) (pe_ix (kix_tup (K := K) rfl) (pv 6) pe_int (fun _ _ => rfl))) (pv 4) (nomark _))))))) (fun _ _ _ _ _ => (pv 6)))) pss_nil) (pss_one (ps_ret (pe_tup (pa_cons (pv 2) (pa_cons (pe_callTy (call_tuple_of) (by rfl) T.b_tuple bt_tuple (pa_cons (pe_callB (cr_sortedT rfl) (by rfl) T.b_sorted bt_sorted (pa_cons (pe_callTy (cr_setOfT rfl (hu64 hr)) (by rfl) T.b_set bt_set (pa_cons (pv 5) pa_nil)) pa_nil)) pa_nil)) pa_nil)))))))))))), ?_⟩
    refine ⟨_, rfl, _, rfl, b, 5, rfl, hbx, by decide, by decide, fun H1 d1 s1 hb1 d10 d11 => ⟨1, d1, rfl, rfl, ?_⟩⟩
    obtain ⟨many, em⟩ : ∃ many : Nat, (1 : Int) + d1 = (many : Int) := ⟨(1 + d1).toNat, by omega⟩
    have m1 : 1 ≤ many := by omega
    have m5 : many ≤ 5 := by omega
    show gName 2 (V.int (1 + d1)) _ _ _
    rw [em]
    refine ⟨_, rfl, b, 6, rfl, hb1, by decide, by decide, fun H2 way s2 hb2 _ _ => ?_⟩
    refine ⟨show 4 ≤ sizeLine by decide, fun l hl => ⟨_, rfl, b, 4, rfl, ?_⟩⟩
    have u1 : Same H2 (upd H2 l (.lst [.int 2, .int 4, .int 6, .int 7])) := same_new hl
    have hlb : l ≠ b := fun e => by obtain ⟨z, hz⟩ := hb2; rw [e, hz] at hl; exact nomatch hl
    refine ⟨hb2.s u1, by decide, by decide, fun H3 d2 s3 hb3 d20 d21 => ?_⟩
    have hl3 := s3 _ _ hlb (upd_same (H := H2) (a := l) (o := .lst [.int 2, .int 4, .int 6, .int 7]))
    obtain ⟨often, ho⟩ : ∃ often : Int, atI [V.int 2, V.int 4, V.int 6, V.int 7] d2 = some (.int often) := by
      have : d2 = 0 ∨ d2 = 1 ∨ d2 = 2 ∨ d2 = 3 := by omega
      rcases this with rfl | rfl | rfl | rfl
      · exact ⟨_, atI_nat (j := 0) rfl⟩
      · exact ⟨_, atI_nat (j := 1) rfl⟩
      · exact ⟨_, atI_nat (j := 2) rfl⟩
      · exact ⟨_, atI_nat (j := 3) rfl⟩
    refine ⟨l, _, _, _, rfl, rfl, sqL hl3, ho, ?_⟩
    have s13 : BSame b H H3 := s1.trans (s2.trans ((Same.b u1).trans s3))
    refine ⟨_, rfl, many, rfl, m5, fun H4 a ps s4 ha0 hpl hpn => ⟨a, rfl, ?_⟩⟩
    obtain ⟨xs, hx1, hx2, hx3⟩ := hpl
    have hab : a ≠ b := fun e => by obtain ⟨z, hz⟩ := hb3; rw [e, hz] at ha0; exact nomatch ha0
    have hxl := Paired.length hx2
    refine ⟨⟨xs, sqL hx1⟩, fun D hD => ?_⟩
    have hb4 := hb3.s s4
    have s14 : BSame b H H4 := s13.trans (Same.b s4)
    refine lc_box (b := b) (walk_list (xs := xs)) hD hb4 (by omega) false (fun i y H => ∃ t : Tie, (t.1 < t.2 ∧ t.2 < many) ∧ PairV H t y) (fun i y H H' h e => ?_) (fun H s hb => sqL (s _ _ hab hx1)) (fun i x H6 H5 hi s5 hb5 hy K1 K2 k1 k2 => ?_) (fun H5 ys L' s5 hb5 hl5 hsub _ pr => ?_)
    · obtain ⟨t, h1, h2⟩ := h
      exact ⟨t, h1, h2.t e⟩
    · obtain ⟨rfl, hx⟩ := hy
      obtain ⟨t, hti, ⟨pt, rfl, hpt⟩⟩ := paired_at hx2 hx
      refine ⟨rfl, _, rfl, b, 8, rfl, hb5, by decide, by decide, fun H7 d s7 hb7 _ _ => ⟨_, rfl, d, often, rfl, rfl, _, rfl, ite2 (fun _ => ?_) (fun _ => ?_)⟩⟩
      · exact ⟨_, rfl, k1 _ _ s7 hb7 ⟨t, hx3 t (List.mem_of_getElem? hti), pt, rfl, s7.t hb5 _ _ (s5.t hb4 _ _ hpt)⟩⟩
      · exact k2 rfl _ s7 hb7
    -- the first if
    obtain ⟨qs, g1, g2, g3⟩ := good_of (Gd := fun t => t.1 < t.2 ∧ t.2 < many) pr
    have hql : qs.length ≤ 30 := by
      rw [g3]
      have := hsub.length_le
      rw [List.length_range] at this
      omega
    have st1 : DW H b many D H5 := ⟨s14.trans s5, hb5, qs, ⟨ys, hl5, g1, g2⟩, hql⟩
    clear hl5 g1 g2 g3 hql pr hsub qs ys
    refine join (A := fun a H' => DW H b many a H') (g := fun a => [some (.ref b), some (.int 5), some (.int many), some (.int way), some (.int often), some (.ref a), none, none]) ?R1 (fun key => ?_) ?_
    rotate_left
    · refine ⟨_, rfl, rfl, _, rfl, ite2 (fun _ => ?_) (fun _ => ?_)⟩
      · obtain ⟨t1, t2, _⟩ := st1
        refine ⟨_, rfl, 1, (many : Int), rfl, ⟨by decide, by decide, by omega, by omega⟩, fun D2 hD2 => ?_⟩
        refine lc_box (b := b) walk_range hD2 t2 (by omega) true (fun i y H => ∃ t : Tie, (t.1 < t.2 ∧ t.2 < many) ∧ PairV H t y) (fun i y H H' h e => ?_) (fun _ _ _ => trivial) (fun i x H7 H6 hi s6 hb6 hy K1 K2 k1 k2 => ?_) (fun H6 ys L' s6 hb6 hl6 hsub _ pr => ?_)
        · obtain ⟨t, h1, h2⟩ := h
          exact ⟨t, h1, h2.t e⟩
        · obtain ⟨rfl, rfl⟩ := hy
          refine ⟨rfl, ?_⟩
          refine iteT (B := K2 H6) ⟨_, rfl, _, rfl, b, 1 + (i : Int), rfl, hb6, by omega, by omega, fun H8 d s8 hb8 dd0 dd1 => ⟨_, rfl, show 2 ≤ sizeLine by decide, fun c hc => ?_⟩⟩
          refine k1 _ _ (s8.trans (Same.b (same_new hc))) (hb8.s (same_new hc)) ⟨(d.toNat, 1 + i), ⟨by show d.toNat < 1 + i; omega, by show 1 + i < many; omega⟩, c, rfl, ?_⟩
          rw [upd_same]
          show some (HO.tup [V.int d, V.int (1 + (i : Int))]) = some (HO.tup [V.int ((d.toNat : Nat) : Int), V.int ((1 + i : Nat) : Int)])
          rw [Int.toNat_of_nonneg dd0, Int.natCast_add]
          rfl
        · obtain ⟨qs, g1, g2, g3⟩ := good_of (Gd := fun t => t.1 < t.2 ∧ t.2 < many) pr
          show tSeq _ _ _ [some (.ref b), some (.int 5), some (.int many), some (.int way), some (.int often), some (.ref D2), none, none] _
          refine key D2 _ ⟨t1.trans s6, hb6, qs, ⟨ys, hl6, g1, g2⟩, ?_⟩
          rw [g3]
          have := hsub.length_le
          rw [List.length_range] at this
          omega
      · show tSeq _ _ _ [some (.ref b), some (.int 5), some (.int many), some (.int way), some (.int often), some (.ref D), none, none] _
        exact key D _ st1
    clear st1
    intro D H5 st1
    refine join (A := fun a H' => DW H b many a H') (g := fun a => [some (.ref b), some (.int 5), some (.int many), some (.int way), some (.int often), some (.ref a), none, none]) ?R2 (fun key => ?_) ?_
    rotate_left
    · refine ⟨_, rfl, rfl, _, rfl, ite2 (fun _ => ?_) (fun _ => ?_)⟩
      · refine ⟨_, rfl, many, 2, rfl, rfl, _, rfl, ite2 (fun h2 => ?_) (fun _ => ?_)⟩
        · have hm2 : 2 < many := by have := of_decide_eq_true h2; omega
          obtain ⟨t1, t2, _⟩ := st1
          refine ⟨_, rfl, many, 1, rfl, rfl, (many : Int) - 1, rfl, by omega, by omega, fun D2 hD2 => ?_⟩
          refine lc_rel walk_range hD2 (by omega) (fun _ => true) (fun i y H => ∃ t : Tie, (t.1 < t.2 ∧ t.2 < many) ∧ PairV H t y) (fun i y H H' h e => ?_) (fun _ _ => trivial) (fun i x H7 H6 hi sm hy K1 K2 k1 k2 => ?_) (fun H6 ys sm hl6 pr => ?_)
          · obtain ⟨t, h1, h2⟩ := h
            exact ⟨t, h1, h2.t e⟩
          · obtain ⟨rfl, rfl⟩ := hy
            refine ⟨rfl, ?_⟩
            refine iteT (B := K2 H6) ⟨_, rfl, _, rfl, 0 + (i : Int), 1, rfl, rfl, show 2 ≤ sizeLine by decide, fun c hc => ?_⟩
            refine k1 _ _ rfl (same_new hc) ⟨(i, i + 1), ⟨Nat.lt_succ_self _, by show i + 1 < many; omega⟩, c, rfl, ?_⟩
            rw [upd_same]
            show some (HO.tup [V.int (0 + (i : Int)), V.int (0 + (i : Int) + 1)]) = some (HO.tup [V.int (i : Int), V.int ((i + 1 : Nat) : Int)])
            rw [Int.zero_add, Int.natCast_add]
            rfl
          · obtain ⟨qs, g1, g2, g3⟩ := good_of (Gd := fun t => t.1 < t.2 ∧ t.2 < many) pr
            have hql : qs.length ≤ 5 := by
              rw [g3]
              refine Nat.le_trans (List.length_filter_le _ _) ?_
              rw [List.length_range]; omega
            refine ⟨_, rfl, many, 1, rfl, rfl, show 2 ≤ sizeLine by decide, fun c hc => ⟨show 1 ≤ sizeLine by decide, fun l2 hl2 => ?_⟩⟩
            have v1 : Same H6 (upd H6 c (.tup [.int 0, .int ((many : Int) - 1)])) := same_new hc
            have v2 : Same _ (upd (upd H6 c (.tup [.int 0, .int ((many : Int) - 1)])) l2 (.lst [.ref c])) := same_new hl2
            refine ⟨D2, l2, ys, [.ref c], rfl, rfl, v2 _ _ (v1 _ _ hl6), upd_same, small5 (by rw [← Paired.length g1]; show qs.length + 1 ≤ _; omega), fun D3 hD3 => ?_⟩
            have v3 : Same _ (upd (upd (upd H6 c (.tup [.int 0, .int ((many : Int) - 1)])) l2 (.lst [.ref c])) D3 (.lst (ys ++ [.ref c]))) := same_new hD3
            have v13 := v1.trans (v2.trans v3)
            show tSeq _ _ _ [some (.ref b), some (.int 5), some (.int many), some (.int way), some (.int often), some (.ref D3), none, none] _
            refine key D3 _ ⟨(t1.trans (Same.b sm)).trans (Same.b v13), (t2.s sm).s v13, qs ++ [(0, many - 1)], ⟨_, upd_same, Paired.snoc (Paired.imp g1 fun _ _ h => h.t (Same.t v13)) ⟨c, rfl, ?_⟩, fun q hq => ?_⟩, ?_⟩
            · rw [v3 _ _ (v2 _ _ upd_same)]
              show some (HO.tup [V.int 0, V.int ((many : Int) - 1)]) = some (HO.tup [V.int ((0 : Nat) : Int), V.int ((many - 1 : Nat) : Int)])
              rw [show ((many - 1 : Nat) : Int) = (many : Int) - 1 by omega]
              rfl
            · rcases List.mem_append.mp hq with hq | hq
              · exact g2 q hq
              · rw [List.mem_singleton] at hq
                subst hq
                exact ⟨by show 0 < many - 1; omega, by show many - 1 < many; omega⟩
            · rw [List.length_append]; show qs.length + 1 ≤ 30; omega
        · show tSeq _ _ _ [some (.ref b), some (.int 5), some (.int many), some (.int way), some (.int often), some (.ref D), none, none] _
          exact key D _ st1
      · refine iteF ?_
        show tSeq _ _ _ [some (.ref b), some (.int 5), some (.int many), some (.int way), some (.int often), some (.ref D), none, none] _
        exact key D _ st1
    clear st1
    intro D H5 st1
    refine join (A := fun a H' => DW H b many a H') (g := fun a => [some (.ref b), some (.int 5), some (.int many), some (.int way), some (.int often), some (.ref a), none, none]) ?R3 (fun key => ?_) ?_
    rotate_left
    · refine ⟨_, rfl, rfl, _, rfl, ite2 (fun _ => ?_) (fun _ => ?_)⟩
      · obtain ⟨t1, t2, _⟩ := st1
        refine ⟨_, rfl, many, rfl, m5, fun H4 a ps s4 ha0 hpl hpn => ⟨a, rfl, ?_⟩⟩
        obtain ⟨xs, hx1, hx2, hx3⟩ := hpl
        have hxl := Paired.length hx2
        refine ⟨⟨xs, sqL hx1⟩, fun D2 hD2 => ?_⟩
        have hb4 := t2.s s4
        have hab : a ≠ b := fun e => by obtain ⟨z, hz⟩ := t2; rw [e, hz] at ha0; exact nomatch ha0
        refine lc_box (b := b) (walk_list (xs := xs)) hD2 hb4 (by omega) false (fun i y H => ∃ t : Tie, (t.1 < t.2 ∧ t.2 < many) ∧ PairV H t y) (fun i y H H' h e => ?_) (fun H s hb => sqL (s _ _ hab hx1)) (fun i x H7 H6 hi s6 hb6 hy K1 K2 k1 k2 => ?_) (fun H6 ys L' s6 hb6 hl6 hsub _ pr => ?_)
        · obtain ⟨t, h1, h2⟩ := h
          exact ⟨t, h1, h2.t e⟩
        · obtain ⟨rfl, hx⟩ := hy
          obtain ⟨t, hti, ⟨pt, rfl, hpt⟩⟩ := paired_at hx2 hx
          have hpt6 := s6.t hb4 _ _ hpt
          have key1 : K1 (.ref pt) H6 := k1 _ _ (BSame.refl _ _) hb6 ⟨t, hx3 t (List.mem_of_getElem? hti), pt, rfl, hpt6⟩
          refine ⟨rfl, _, rfl, pt, _, 0, _, rfl, rfl, sqT hpt6, atI_nat (j := 0) rfl, t.1, 2, rfl, rfl, show (0 : Int) < 2 by decide, _, rfl, pt, _, 1, _, rfl, rfl, sqT hpt6, atI_nat (j := 1) rfl, t.2, 2, rfl, rfl, show (0 : Int) < 2 by decide, rfl, _, rfl, ite2 (fun _ => ?_) (fun _ => ?_)⟩
          · exact iteT (B := K2 H6) ⟨_, rfl, key1⟩
          · refine ⟨_, rfl, pt, _, 0, _, rfl, rfl, sqT hpt6, atI_nat (j := 0) rfl, _, rfl, pt, _, 1, _, rfl, rfl, sqT hpt6, atI_nat (j := 1) rfl, t.1, t.2, rfl, rfl, _, rfl, rfl, _, rfl, ite2 (fun _ => ?_) (fun _ => ?_)⟩
            · exact ⟨_, rfl, key1⟩
            · exact k2 rfl _ (BSame.refl _ _) hb6
        · obtain ⟨qs, g1, g2, g3⟩ := good_of (Gd := fun t => t.1 < t.2 ∧ t.2 < many) pr
          unfold gName
          refine key D2 _ ⟨(t1.trans (Same.b s4)).trans s6, hb6, qs, ⟨ys, hl6, g1, g2⟩, ?_⟩
          rw [g3]
          have := hsub.length_le
          rw [List.length_range] at this
          omega
      · unfold tNext
        exact key D _ st1
    clear st1
    intro D H5 st1
    obtain ⟨t1, t2, ps, ⟨xs, hx1, hx2, hx3⟩, hpl⟩ := st1
    obtain ⟨ks, k1, k2, k3⟩ := ks_of (many := many) hx2
    subst k1
    refine ⟨_, rfl, _, rfl, D, ks, rfl, sqL hx1, fun p hp => sqT (k2 p hp).1, by omega, fun a L ha hL1 hL2 => ?_⟩
    have v1 : Same H5 (upd H5 a (SetTO P w a L)) := same_new ha
    refine ⟨a, L, 2, 64, rfl, upd_same, fun p hp => sqT (v1 _ _ (k2 p (hL1 p hp)).1), by decide, fun p hp => ?_, fun L' c pm nd hfew pw hc => ?_⟩
    · obtain ⟨_, t, ht, e⟩ := k2 p (hL1 p hp)
      have := hx3 t ht
      refine ⟨by rw [e]; rfl, fun m hm => ?_⟩
      rw [e] at hm
      rcases List.mem_cons.mp hm with rfl | hm
      · omega
      · rw [List.mem_singleton] at hm
        subst hm
        omega
    · have hk2 : ∀ p ∈ L', TupAt H5 p.1 p.2 ∧ ∃ t ∈ ps, p.2 = [(t.1 : Int), (t.2 : Int)] := fun p hp => k2 p (hL1 p (pm.mem_iff.mp hp))
      have v2 : Same _ (upd (upd H5 a (SetTO P w a L)) c (.lst (L'.map fun q => V.ref q.1))) := same_new hc
      refine ⟨c, _, rfl, .inl ⟨sqL upd_same, fun e he => ⟨show 2 ≤ sizeLine by decide, fun r hr => ?_⟩⟩⟩
      have v3 : Same _ (upd (upd (upd H5 a (SetTO P w a L)) c (.lst (L'.map fun q => V.ref q.1))) e (.tup (L'.map fun q => V.ref q.1))) := same_new he
      have v4 : Same _ (upd (upd (upd (upd H5 a (SetTO P w a L)) c (.lst (L'.map fun q => V.ref q.1))) e (.tup (L'.map fun q => V.ref q.1))) r (.tup [.int many, .ref e])) := same_new hr
      have v14 := v1.trans (v2.trans (v3.trans v4))
      refine q _ _ many (L'.map tieOf) (t1.trans (Same.b v14)) (t2.s v14) ⟨r, .ref e, rfl, upd_same, e, _, rfl, v4 _ _ upd_same, Paired.imp (ties_of L' fun p hp => ⟨(hk2 p hp).1, let ⟨t, _, h⟩ := (hk2 p hp).2; ⟨t, h⟩⟩) fun _ _ h => h.t (Same.t v14)⟩ m1 m5 ⟨fun t ht => ?_, fun i x y hx hy => ?_⟩
      · obtain ⟨p, hp, rfl⟩ := List.mem_map.mp ht
        obtain ⟨_, t, ht, e⟩ := hk2 p hp
        rw [tieOf_eq e]
        exact hx3 t ht
      · rw [List.getElem?_map] at hx hy
        obtain ⟨p, hp, rfl⟩ := Option.map_eq_some_iff.mp hx
        obtain ⟨p', hp', rfl⟩ := Option.map_eq_some_iff.mp hy
        obtain ⟨_, t, ht, e1⟩ := hk2 p (List.mem_of_getElem? hp)
        obtain ⟨_, t', ht', e2⟩ := hk2 p' (List.mem_of_getElem? hp')
        obtain ⟨i1, j1⟩ := List.getElem?_eq_some_iff.mp hp
        obtain ⟨i2, j2⟩ := List.getElem?_eq_some_iff.mp hp'
        have hc := List.pairwise_iff_getElem.mp pw i (i + 1) i1 i2 (Nat.lt_succ_self _)
        have hn := List.pairwise_iff_getElem.mp nd i (i + 1) (by rw [List.length_map]; exact i1) (by rw [List.length_map]; exact i2) (Nat.lt_succ_self _)
        rw [List.getElem_map, List.getElem_map, j1, j2, e1, e2] at hn
        rw [j1, j2, e1, e2] at hc
        have b1 := hx3 t ht
        have b2 := hx3 t' ht'
        rw [tieOf_eq e1, tieOf_eq e2]
        have := pair_lt hc hn ⟨by omega, by omega⟩ ⟨by omega, by omega⟩ ⟨by omega, by omega⟩ ⟨by omega, by omega⟩
        omega
end
end HL

set_option Elab.async false
set_option linter.all false
set_option maxRecDepth 100000
set_option maxHeartbeats 16000000
namespace HL
open PySem PySem.Spec L2
open PyProof.Rows (envOfC)
def LCx (H1 : Hp) (b : Addr) (n : Nat) (ts : List Tie) (u : V) (d : Addr) (od : Obj) (H : Hp) : Prop := BSame b H1 H ∧ BoxAt H b ∧ WebV H n ts u ∧ H d = some (.frz od (.dT ((terms n ts).map emb)))
theorem LCx.b {H1 : Hp} {b : Addr} {n : Nat} {ts : List Tie} {u : V} {d : Addr} {od : Obj} {H H' : Hp} (h : LCx H1 b n ts u d od H) (s : BSame b H H') (hb : BoxAt H' b) : LCx H1 b n ts u d od H' := by
  obtain ⟨h1, h2, h3, h4⟩ := h
  refine ⟨h1.trans s, hb, h3.t (s.t h2), s _ _ (fun e => ?_) h4⟩
  obtain ⟨z, hz⟩ := h2
  rw [e, hz] at h4
  exact nomatch h4
theorem LCx.s {H1 : Hp} {b : Addr} {n : Nat} {ts : List Tie} {u : V} {d : Addr} {od : Obj} {H H' : Hp} (h : LCx H1 b n ts u d od H) (s : Same H H') : LCx H1 b n ts u d od H' := h.b (Same.b s) (h.2.1.s s)
theorem same_seqL {K : PySem.W.Frag} {H H' : Hp} {a : Addr} {xs : List V} (e : Same H H') (h : SqL K H a xs) : SqL K H' a xs := by
  rcases h with (h | ⟨o, h⟩) | h
  · exact .inl (.inl (e _ _ h))
  · exact .inl (.inr ⟨o, e _ _ h⟩)
  · exact .inr h
theorem nums_of {Gd : Int → Prop} : ∀ {L : List Nat} {ys : List V}, Paired (fun _ y => ∃ x, Gd x ∧ y = V.int x) L ys → ∃ ns : List Int, ys = ns.map V.int ∧ (∀ x ∈ ns, Gd x) ∧ ns.length = L.length
  | _, _, .nil => ⟨[], rfl, (fun _ h => nomatch h), rfl⟩
  | _, _, .cons ⟨x, h1, h2⟩ r => by
    obtain ⟨qs, g1, g2, g3⟩ := nums_of r
    refine ⟨x :: qs, by rw [List.map_cons, ← g1, h2], fun q hq => ?_, by rw [List.length_cons, List.length_cons, g3]⟩
    rcases List.mem_cons.mp hq with rfl | hq
    · exact h1
    · exact g2 q hq
theorem key_at_i {kvs : List (List Int × Int)} {i : Nat} {k : List L2.Key} {v : V} (h : (kvs.map emb)[i]? = some (k, v)) : ∃ p c, kvs[i]? = some (p, c) ∧ k = p.map Sum.inl := by
  rw [List.getElem?_map] at h
  obtain ⟨pc, h1, h2⟩ := Option.map_eq_some_iff.mp h
  exact ⟨pc.1, pc.2, h1, (congrArg Prod.fst h2).symm⟩
section
variable {X : Cx} {K : PySem.W.Frag} {o e : Expr} {es : List Expr} {to : TE} {t : TA} {name : Str} {apos cpos : Pos} {T id : String} {r : V → List V → Hp → VK → Prop}
theorem kpe_bm (h : X.K = K) (pa : PlainAttrs T) (slot : Slot T name id) (hty : typeOf (.builtin id) = pure (.type "method_descriptor")) (hm : MtR X id r) (ho : PE X o to) (ha : PA X (e :: es) t)
    (hbase : attributeBase o name X.env (eval o X.env) = eval o X.env := by rfl)
    (hfew : ((backTo cpos (starEach (e :: es) X.env)).all (fun x => !x.1) && (backToKw cpos (keywordEach [] X.env)).all (fun x => x.1.isSome)
      && decide ((e :: es).length + ([] : List Keyword).length + (if ([] : List Keyword).isEmpty then 0 else 1) < 30)) = true := by rfl)
    (hline : (apos.endLine == cpos.line) = true := by rfl) (hs : starEach (e :: es) X.env = (false, eval e X.env) :: starEach es X.env := by rfl) (hplain : (backTo cpos (starEach es X.env)).any (·.1) = false := by rfl) :
    PE X (.Call (.Attribute o name apos) (e :: es) [] cpos) (tBM K T r to t) := h ▸ pe_bm pa slot hty hm ho ha hbase hfew hline hs hplain
end
theorem yes_then {σ : L2.St} {H : Hp} {A B : Hp → Prop} (h : A H) : tYes σ H (fun b H3 => if b = true then A H3 else B H3) := iteT (B := B H) h
/-- the box and the new list apart, all stays -/
def Keep (b l : Addr) (H H' : Hp) : Prop := ∀ x o, x ≠ b → x ≠ l → H x = some o → H' x = some o
theorem LCx.k {H1 : Hp} {b l : Addr} {n : Nat} {ts : List Tie} {u : V} {d : Addr} {od : Obj} {H H' : Hp} (h : LCx H1 b n ts u d od H) (hl : ∃ xs, H l = some (.lst xs)) (h1 : H1 l = none) (s : Keep b l H H') (hb : BoxAt H' b) : LCx H1 b n ts u d od H' ∧ TSame H H' := by
  obtain ⟨g1, ⟨z, g2⟩, g3, g4⟩ := h
  obtain ⟨xs, hl⟩ := hl
  have ts : TSame H H' := fun x ys hx => s x _ (fun e => by rw [e, g2] at hx; exact nomatch hx) (fun e => by rw [e, hl] at hx; exact nomatch hx) hx
  refine ⟨⟨fun x o hx hx1 => s x o hx (ne_of_none hx1 h1) (g1 x o hx hx1), hb, g3.t ts, s _ _ (fun e => by rw [e, g2] at g4; exact nomatch g4) (fun e => by rw [e, hl] at g4; exact nomatch g4) g4⟩, ts⟩
theorem pop_perm {acc rest full : List Int} {k : Nat} {y : Int} (h : (acc ++ rest).Perm full) (hy : rest[k]? = some y) : ((acc ++ [y]) ++ rest.eraseIdx k).Perm full := by
  refine List.Perm.trans ?_ h
  rw [List.append_assoc]
  exact List.Perm.append_left acc (perm_erase hy).symm
theorem erase_map_int (l : List Int) (k : Nat) : (l.map V.int).eraseIdx k = (l.eraseIdx k).map V.int := by
  induction l generalizing k with
  | nil => rfl
  | cons a l ih =>
    cases k with
    | zero => rfl
    | succ k => simp only [List.map_cons, List.eraseIdx_cons_succ, ih]
structure Lst1 (ss : List Int) (m : Nat) (Ls : List (List Int)) : Prop where
  len : Ls.length = m
  each : ∀ j, j < m → ListOk (Ls.getD j []) ∧ ((Ls.getD j []).length : Int) = ss.getD j 0
theorem Lst1.add {ss : List Int} {m : Nat} {Ls : List (List Int)} {L : List Int} (h : Lst1 ss m Ls) (ok : ListOk L) (hl : (L.length : Int) = ss.getD m 0) : Lst1 ss (m + 1) (Ls ++ [L]) := by
  refine ⟨by rw [List.length_append, h.len]; rfl, fun j hj => ?_⟩
  by_cases c : j < m
  · rw [List.getD_eq_getElem?_getD, List.getElem?_append_left (by rw [h.len]; exact c), ← List.getD_eq_getElem?_getD]
    exact h.each j c
  · have e : j = m := by omega
    subst e
    rw [List.getD_eq_getElem?_getD, List.getElem?_append_right (by rw [h.len]; exact Nat.le_refl _), h.len, Nat.sub_self]
    exact ⟨ok, hl⟩
/-- numbers drawn without another from 0 .. top - 1, sorted -/
theorem drawn_ok {acc rest ns : List Int} {top : Nat} (h : (acc ++ rest).Perm (toI (List.range top))) (ht : top ≤ 10) (hl : acc.length ≤ 8) (pm : ns.Perm acc) (pw : ns.Pairwise (· ≤ ·)) : ListOk ns := by
  have nd : acc.Nodup := by
    have := h.nodup_iff.mpr (nodup_toI List.nodup_range)
    exact (List.nodup_append.mp this).1
  have nd2 : ns.Nodup := pm.nodup_iff.mpr nd
  refine ⟨by rw [pm.length_eq]; exact hl, fun x hx => ?_, ?_⟩
  · have := h.mem_iff.mp (List.mem_append_left _ (pm.mem_iff.mp hx))
    obtain ⟨m, hm, rfl⟩ := List.mem_map.mp this
    have := List.mem_range.mp hm
    omega
  · exact List.pairwise_and_iff.mpr ⟨pw, nd2⟩ |>.imp fun ⟨a, b⟩ => by omega
theorem choice_cnt {n : Nat} {ts : List Tie} {ss p : List Int} {c : Int} {Ls : List (List Int)} (ok : WebOk n ts) (hp : (p, c) ∈ terms n ts) (hs : ∀ i, i < n → p.getD i 0 < ss.getD i 0) (hL : Lst1 ss n Ls) : 0 < cnt ts Ls n [] := by
  obtain ⟨h, h1, h2⟩ := alon ok.lt hp hL.len (fun L hL' => by
    obtain ⟨i, hi, rfl⟩ := mem_getD hL'
    exact nodup_rise (hL.each i (by rw [← hL.len]; exact hi)).1.rise) fun i hi => by
    rw [(hL.each i hi).2]
    exact hs i hi
  have := cnt_of h1 h2 Ls.length (Nat.le_refl _)
  rw [Nat.sub_self, List.take_zero, hL.len] at this
  exact this
section
variable {P : Program} {w : World} {K : PySem.W.Frag} {mg : Str → Option Value} {base : Heap}
def spLaw (K : PySem.W.Frag) : Sp := fun vs H Q _ => ∃ a, ∃ ns : List Int, vs = [.ref a] ∧ SqL K H a (ns.map V.int) ∧ ns.length ≤ 63 ∧ ∀ H', Q (.bl true) H'
theorem ok_law (T : TX K mg) {f : Addr} {fd : FuncData} (F : Fun K "law" "law" s_law f fd) : FnOk P w K mg base CX0 18 f fd ["_law_script"] (spLaw K) := by
  refine F.ok sc_law (fun vs H Q E h => ?_) (fun cdv A outer s H vs Q E hr h => ?_)
  · obtain ⟨a, ns, rfl, _⟩ := h
    rfl
  · obtain ⟨a, ns, rfl, ha, hn, q⟩ := h
    refine ⟨_, (pss_cons (ps_for PassesOwn.never rfl (pi_range1 (by rfl) T.b_range (pa_cons (pe_callB (call_max2 rfl) (by rfl) T.b_max bt_max (pa_cons pe_int (pa_cons (pe_callB (call_min2 rfl) (by rfl) T.b_min bt_min (pa_cons (pe_callB (kcall_len (K := K) rfl) (by rfl) T.b_len bt_len (pa_cons (pv 0) pa_nil)) (pa_cons pe_int pa_nil))) pa_nil))) pa_nil)) (pg_name (i := 1) sc_law.nd rfl (Or.inl rfl)) (pss_cons (ps_set (i := 2) sc_law.nd rfl (Or.inr rfl) (pe_k (ok_box T) hr (pa_cons (pv 0) (pa_cons (pv 1) pa_nil)))) (pss_cons (ps_set (i := 3) sc_law.nd rfl (Or.inr rfl) (pe_k (ok_few_ties T) hr (pa_cons (pe_k (ok_drawn_web T) hr (pa_cons (pv 2) (pa_cons pe_int pa_nil))) pa_nil))) (pss_cons (ps_set (i := 4) sc_law.nd rfl (Or.inl rfl) (pe_k (ok_terms T) hr (pa_cons (pv 3) pa_nil))) (pss_cons (ps_if (pt_cmpR (kop_neE (K := K) rfl (hu64 hr)) (pe_lc (own := [("_law_powers", 6)]) rfl sc_law.nd (pi_keys (pv 4)) (blkOk_by (N := ["_law_script", "_law_k", "_law_box_here", "_law_web", "_law_told", "_law_numbers", "_law_powers", "_law_even", "_law_odd", "_law_sizes", "_law_paper", "_law_lists", "_law_size", "_law_some", "_law_place", "_law_hue"]) (sc := defScope s_law) (by decide +kernel)) (fun _ _ _ _ _ => (pg_name (i := 6) sc_law.nd rfl (Or.inl rfl))) (fun _ _ _ _ _ => (pts_one (pt_cmpR op_ne (pe_callB (kcr_sumT (K := K) rfl rfl) (by rfl) T.b_sum bt_sum (pa_cons (pv 6) pa_nil)) (pe_callB (kcall_len (K := K) rfl) (by rfl) T.b_len bt_len (pa_cons (pe_ix (kix_tup (K := K) rfl) (pv 3) pe_int (fun _ _ => rfl)) pa_nil)) (nomark _)))) (fun _ _ _ _ _ => (pv 6))) (pe_lst pa_nil) (nomark _)) (pss_one (ps_ret pe_bl)) pss_nil) (pss_cons (ps_if (pt_cmpR op_ne (pe_cmpR op_eq (pe_sumVals rfl (by rfl) T.b_sum (pv 4)) pe_int (nomark _)) (pe_cmpR (kop_neE (K := K) rfl (hu64 hr)) (pe_ix (kix_tup (K := K) rfl) (pv 3) pe_int (fun _ _ => rfl)) (pe_tup pa_nil) (nomark _)) (nomark _)) (pss_one (ps_ret pe_bl)) pss_nil) (pss_cons (ps_setLc (i := 5) (own := [("_law_place", 14)]) rfl sc_law.nd rfl rfl rfl (pi_range1 (by rfl) T.b_range (pa_cons (pe_ix (kix_tup (K := K) rfl) (pv 3) pe_int (fun _ _ => rfl)) pa_nil)) (blkOk_by (N := ["_law_script", "_law_k", "_law_box_here", "_law_web", "_law_told", "_law_numbers", "_law_powers", "_law_even", "_law_odd", "_law_sizes", "_law_paper", "_law_lists", "_law_size", "_law_some", "_law_place", "_law_hue"]) (sc := defScope s_law) (by decide +kernel)) (fun _ _ _ _ _ => (pg_name (i := 14) sc_law.nd rfl (Or.inl rfl))) (fun _ _ _ _ _ => pts_nil) (fun _ _ _ _ _ => (pe_op op_sub (pe_k (ok_take T) hr (pa_cons (pv 2) (pa_cons pe_int pa_nil))) pe_int))) (pss_cons (ps_if (pt_cmpR op_ne (pe_k (ok_put T) hr (pa_cons (pv 4) (pa_cons (pv 5) pa_nil))) (pe_k (ok_product T) hr (pa_cons (pv 3) (pa_cons (pv 5) pa_nil))) (nomark _)) (pss_one (ps_ret pe_bl)) pss_nil) (pss_cons (ps_for PassesOwn.never rfl (pi_list (pe_slice sl_list (pe_callB (cr_sortedD rfl) (by rfl) T.b_sorted bt_sorted (pa_cons (pv 4) pa_nil)) po_none (po_some pe_int))) (pg_name (i := 6) sc_law.nd rfl (Or.inl rfl)) (pss_cons (ps_asg (pe_k (ok_runs_many T) hr (pa_cons (pv 3) (pa_cons (pv 6) pa_nil))) (kpg_tup (K := K) (n := 2) rfl rfl (pgs_cons (pg_name (i := 7) sc_law.nd rfl (Or.inl rfl)) (pgs_cons (pg_name (i := 8) sc_law.nd rfl (Or.inl rfl)) pgs_nil)))) (pss_one (ps_if (PW.pt (pw_or (pt_cmpR op_ne (pe_op op_sub (pv 7) (pv 8)) (pe_dget (hu_of hr) (pv 4) (pv 6) (fun _ _ => rfl)) (nomark _)) (pw_or1 (pt_cmpR op_ne (pe_k (ok_term T) hr (pa_cons (pv 3) (pa_cons (pv 6) pa_nil))) (pe_dget (hu_of hr) (pv 4) (pv 6) (fun _ _ => rfl)) (nomark _))))) (pss_one (ps_ret pe_bl)) pss_nil)))) (pss_cons (ps_set (i := 9) sc_law.nd rfl (Or.inl rfl) (pe_k (ok_drawn_sizes T) hr (pa_cons (pv 2) (pa_cons (pv 3) (pa_cons pe_int pa_nil))))) (pss_cons (ps_set (i := 10) sc_law.nd rfl (Or.inl rfl) (pe_k (ok_term_for T) hr (pa_cons (pv 3) (pa_cons (pv 9) pa_nil)))) (pss_cons (ps_if (PW.pt (pw_and (pt_cmp (pc_isN (pv 10))) (pw_and1 (pt_cmp (pc_notN (pe_k (ok_order_for T) hr (pa_cons (pv 3) (pa_cons (pv 9) pa_nil)))))))) (pss_one (ps_ret pe_bl)) pss_nil) (pss_one (ps_if (pt_cmp (pc_notN (pv 10))) (pss_cons (ps_if (PW.pt (pw_or (pt_not (pt_val (pe_k (ok_is_term_paper T) hr (pa_cons (pv 10) (pa_cons (pv 3) (pa_cons (pv 9) pa_nil)))))) (pw_or1 (pt_cmpR op_isnot_bl (pe_k (ok_always T) hr (pa_cons (pv 3) (pa_cons (pv 9) pa_nil))) pe_bl (nomark _))))) (pss_one (ps_ret pe_bl)) pss_nil) (pss_cons (ps_if (pt_cmp (pc_notN (pe_k (ok_bar_for T) hr (pa_cons (pv 3) (pa_cons (pv 9) pa_nil))))) (pss_one (ps_ret pe_bl)) pss_nil) (pss_cons (ps_set (i := 11) sc_law.nd rfl (Or.inl rfl) (pe_lst pa_nil)) (pss_cons (ps_for PassesOwn.never rfl (pi_tup (pv 9)) (pg_name (i := 12) sc_law.nd rfl (Or.inl rfl)) (pss_cons (ps_set (i := 13) sc_law.nd rfl (Or.inr rfl) (pe_listRg rfl (by rfl) T.b_list (prg_1 (by rfl) T.b_range (pe_op op_add (pv 12) pe_int)))) (pss_one (ps_expr (pe_bm PySem.F.plainAttrs_list PySem.F.slot_list_append PySem.F.type_list_append (mt_append) (pv 11) (pa_cons (pe_callTy (call_tuple_of) (by rfl) T.b_tuple bt_tuple (pa_cons (pe_callB (cr_sorted) (by rfl) T.b_sorted bt_sorted (pa_cons (pe_lc (own := [("_law_hue", 15)]) rfl sc_law.nd (pi_range1 (by rfl) T.b_range (pa_cons (pv 12) pa_nil)) (blkOk_by (N := ["_law_script", "_law_k", "_law_box_here", "_law_web", "_law_told", "_law_numbers", "_law_powers", "_law_even", "_law_odd", "_law_sizes", "_law_paper", "_law_lists", "_law_size", "_law_some", "_law_place", "_law_hue"]) (sc := defScope s_law) (by decide +kernel)) (fun _ _ _ _ _ => (pg_name (i := 15) sc_law.nd rfl (Or.inl rfl))) (fun _ _ _ _ _ => pts_nil) (fun _ _ _ _ _ => (kpe_bm (K := K) rfl PySem.F.plainAttrs_list PySem.F.slot_list_pop PySem.F.type_list_pop (mt_popAt) (pv 13) (pa_cons (pe_k (ok_take T) hr (pa_cons (pv 2) (pa_cons (pe_callB (kcall_len (K := K) rfl) (by rfl) T.b_len bt_len (pa_cons (pv 13) pa_nil)) pa_nil))) pa_nil)))) pa_nil)) pa_nil)) pa_nil)))))) (pss_one (ps_if (pt_cmp (pc_isN (pe_k (ok_first_choice T) hr (pa_cons (pv 3) (pa_cons (pe_callTy (call_tuple_of) (by rfl) T.b_tuple bt_tuple (pa_cons (pv 11) pa_nil)) pa_nil))))) (pss_one (ps_ret pe_bl)) pss_nil)))))) pss_nil)))))))))))))) (pss_one (ps_ret pe_bl))), ?_⟩
    refine ⟨_, rfl, a, _, rfl, .inl ha, _, 4, rfl, 1, _, rfl, _, rfl, ?_, ?_, ?_⟩
    · split <;> split <;> omega
    · split <;> split <;> omega
    refine for_it walk_range (fun i σ H1 => ∃ a1 a2 a3 a4 a5 a6 a7 a8 a9 a10 a11 a12 a13 a14 a15, σ = [some (.ref a), a1, a2, a3, a4, a5, a6, a7, a8, a9, a10, a11, a12, a13, a14, a15] ∧ Same H H1) ⟨_, _, _, _, _, _, _, _, _, _, _, _, _, _, _, rfl, Same.refl _⟩ (fun _ _ _ _ _ => trivial) (fun i x σ H2 H1 hi h y => ?_) (fun σ H1 h => ?_)
    rotate_left
    · exact q _
    obtain ⟨a1, a2, a3, a4, a5, a6, a7, a8, a9, a10, a11, a12, a13, a14, a15, rfl, s1⟩ := h
    obtain ⟨rfl, rfl⟩ := y
    refine ⟨_, rfl, _, rfl, a, ns, i, by show [V.ref a, V.int (0 + (i : Int))] = [V.ref a, V.int (i : Int)]; rw [Int.zero_add], same_seqL s1 ha, fun H2 b s2 hb0 hbx => ?_⟩
    refine ⟨_, rfl, b, rfl, hbx, fun H3 r n ts0 s3 hb3 hw3 n1 n5 ris => ⟨n, ts0, r, rfl, hw3, fun H4 u s4 hw4 => ?_⟩⟩
    have ok := ris.web n1 n5
    generalize ts0.take 10 = ts at hw4 ok
    refine ⟨_, rfl, n, ts, u, rfl, hw4, ok, fun H5 r5 s5 hd5 => ?_⟩
    obtain ⟨d, od, rfl, hd5⟩ := hd5
    have C : LCx H1 b n ts u d od H5 := ⟨(Same.b s2).trans (s3.trans ((Same.b s4).trans (Same.b s5))), (hb3.s s4).s s5, hw4.t (Same.t s5), hd5⟩
    have ta := terms_all ok.lt
    have htl : (terms n ts).length ≤ 1024 := Nat.le_trans ta.2.2.1 (Nat.le_trans (Nat.pow_le_pow_right (by decide) ok.len) (by decide))
    clear s2 s3 s4 s5 hb3 hw3 hw4 hd5 hbx ris
    -- the powers' sums
    refine ⟨_, rfl, d, od, rfl, .inr ⟨_, C.2.2.2, fun D hD => ?_⟩⟩
    refine lc_rel (walk_keysT (kvs := (terms n ts).map emb)) hD (by rw [emb_len]; omega) (fun _ => false) (fun _ _ _ => False) (fun _ _ _ _ h _ => h) (fun H2 sm => sm _ _ C.2.2.2) (fun j x H7 H6 hj sm hy K1 K2 k1 k2 => ?_) (fun H6 ys sm hl6 pr => ?_)
    · obtain ⟨rfl, k, vv, kb, hk, rfl, hkb⟩ := hy
      obtain ⟨p, c, e1, rfl⟩ := key_at_i hk
      have pok := (ta.2.2.2 _ (List.mem_of_getElem? e1)).1
      rw [inl_kV] at hkb
      obtain ⟨pw, xw, rfl, hpw, ⟨p2, xs, rfl, hp2, prt⟩⟩ := (C.s sm).2.2.1
      have hxs : xs.length = ts.length := (Paired.length prt).symm
      refine ⟨rfl, _, rfl, kb, p, rfl, sqT hkb, _, rfl, pw, _, 1, _, rfl, rfl, sqT hpw, atI_nat (j := 1) rfl, p2, _, rfl, .inr (sqT hp2), rfl, _, rfl, ?_⟩
      rw [hxs, show decide (V.int p.sum = V.int (ts.length : Nat)) = true from decide_eq_true (congrArg V.int pok.sum)]
      exact iteF (k2 _ rfl (Same.refl _))
    have hys : ys = [] := by
      rw [List.filter_eq_nil_iff.mpr fun _ _ => Bool.false_ne_true] at pr
      cases pr
      rfl
    subst hys
    have C6 := C.s sm
    refine ⟨show 0 ≤ sizeLine by decide, fun e he => ⟨D, e, [], rfl, rfl, .inl ⟨sqL ((same_new he) _ _ hl6), sqL upd_same⟩, .inl ⟨[], rfl⟩, _, rfl, ?_⟩⟩
    refine iteF ?_
    have C7 := C6.s (same_new (o := .lst []) he)
    generalize upd H6 e (.lst []) = H7 at C7
    clear C6 hl6 pr sm C he
    -- the sum of all numbers
    obtain ⟨pw, xw, rfl, hpw, ⟨p2, xs, rfl, hp2, prt⟩⟩ := C7.2.2.1
    have hxs : xs.length = ts.length := (Paired.length prt).symm
    refine ⟨_, rfl, d, _, rfl, .inr ⟨od, C7.2.2.2⟩, rfl, _, rfl, pw, _, 1, _, rfl, rfl, sqT hpw, atI_nat (j := 1) rfl, show 0 ≤ sizeLine by decide, fun e he => ?_⟩
    obtain ⟨ks, k1, k2, _⟩ := ks_of (many := n) prt
    refine ⟨p2, e, xs, rfl, rfl, .inr ⟨sqT ((same_new he) _ _ hp2), sqT upd_same⟩, .inr ⟨ks, k1, fun r hr => (same_new he) _ _ (k2 r hr).1⟩, rfl, _, rfl, ?_⟩
    have hsum : decide (V.int (((terms n ts).map (·.2)).sum) = V.int 0) = !xs.isEmpty := by
      rw [terms_sum ok.lt]
      cases ts with
      | nil =>
        have : xs = [] := List.length_eq_zero_iff.mp hxs
        subst this
        rfl
      | cons t ts =>
        cases xs with
        | nil => simp at hxs
        | cons x xs => rfl
    rw [show decide (V.bl (decide (V.int (((terms n ts).map (·.2)).sum) = V.int 0)) = V.bl (!xs.isEmpty)) = true from decide_eq_true (congrArg V.bl hsum)]
    refine iteF ?_
    have C8 := C7.s (same_new (o := .tup []) he)
    generalize upd H7 e (.tup []) = H8 at C8
    clear C7 he hpw hp2 prt k1 k2 hsum
    -- the numbers
    obtain ⟨pw', xw, epw, hpw, _⟩ := C8.2.2.1
    cases epw
    refine ⟨_, rfl, pw, _, 0, _, rfl, rfl, sqT hpw, atI_nat (j := 0) rfl, (n : Int), rfl, by omega, by omega, fun D2 hD2 => ?_⟩
    refine lc_box (b := b) walk_range hD2 C8.2.1 (by omega) true (fun i y H => ∃ x : Int, (-100 ≤ x ∧ x ≤ 100) ∧ y = .int x) (fun _ _ _ _ h _ => h) (fun _ _ _ => trivial) (fun i x H10 H9 hi s9 hb9 hy K1 K2 k1 k2 => ?_) (fun H9 ys L' s9 hb9 hl9 hsub hall pr => ?_)
    · obtain ⟨rfl, rfl⟩ := hy
      refine ⟨rfl, ?_⟩
      refine iteT (B := K2 H9) ⟨_, rfl, b, 19, rfl, hb9, by decide, by decide, fun H11 dd s11 hb11 d0 d1 => ⟨dd, 9, rfl, rfl, ?_⟩⟩
      exact k1 _ _ s11 hb11 ⟨dd - 9, by omega, rfl⟩
    obtain ⟨nums, rfl, hnb, hnl⟩ := nums_of (Gd := fun x => -100 ≤ x ∧ x ≤ 100) pr
    rw [hall rfl, List.length_range] at hnl
    have hnl : nums.length = n := hnl
    have C9 := C8.b s9 hb9
    clear C8 pr hpw
    -- put and product
    refine ⟨_, rfl, _, rfl, d, D2, od, terms n ts, nums, rfl, C9.2.2.2, ta.1, hl9, hnb, by omega, fun kv hkv => ?_, ?_⟩
    · have pok := (ta.2.2.2 kv hkv).1
      refine ⟨by rw [pok.len, hnl], fun x hx => ⟨pok.pos x hx, ?_⟩⟩
      have h1 := le_sum pok.pos x hx
      have h2 := pok.sum
      have h3 := ok.len
      omega
    refine ⟨_, rfl, _, rfl, n, ts, _, D2, nums, rfl, C9.2.2.1, ok.lt, hl9, hnb, hnl, rfl, _, rfl, ?_⟩
    rw [show decide (V.int (S (terms n ts) (mono nums)) = V.int (prod ts nums)) = true from decide_eq_true (congrArg V.int (terms_put ok.lt hnl))]
    refine iteF ?_
    -- the first six terms
    have hne : ∀ kv ∈ terms n ts, kv.1 ≠ [] := fun kv hkv e => by
      have := (ta.2.2.2 kv hkv).1.len
      rw [e] at this
      have h0 : 0 = n := this
      omega
    refine ⟨_, rfl, d, terms n ts, rfl, .inr ⟨od, C9.2.2.2⟩, hne, fun bs pl hbs hpl => ⟨6, rfl, pl, _, rfl, sqL upd_same, fun p3 hp3 => ⟨p3, rfl, ⟨_, sqL upd_same⟩, ?_⟩⟩⟩
    have v1 : Same H9 (upd H9 pl (.lst (bs.map V.ref))) := same_new hpl
    have v2 : Same (upd H9 pl (.lst (bs.map V.ref))) (upd (upd H9 pl (.lst (bs.map V.ref))) p3 (.lst (cutV (bs.map V.ref) none (some 6)))) := same_new hp3
    have C10 := C9.s (v1.trans v2)
    have hbs10 : ∀ kb ∈ bs, ∃ kv ∈ terms n ts, TupAt (upd (upd H9 pl (.lst (bs.map V.ref))) p3 (.lst (cutV (bs.map V.ref) none (some 6)))) kb kv.1 := fun kb hk => by
      obtain ⟨kv, h1, h2⟩ := hbs kb hk
      exact ⟨kv, h1, (v1.trans v2) _ _ h2⟩
    have hl10 : upd (upd H9 pl (.lst (bs.map V.ref))) p3 (.lst (cutV (bs.map V.ref) none (some 6))) p3 = some (.lst (cutV (bs.map V.ref) none (some 6))) := upd_same
    generalize upd (upd H9 pl (.lst (bs.map V.ref))) p3 (.lst (cutV (bs.map V.ref) none (some 6))) = H10 at C10 hbs10 hl10 ⊢
    clear C9 v1 v2 hbs hpl hp3 hl9
    have ecut : cutV (bs.map V.ref) none (some 6) = (bs.take 6).map V.ref := by rw [List.map_take]; exact cut_take _ 6
    rw [ecut] at hl10
    refine for_it (walk_list (xs := (bs.take 6).map V.ref)) (fun j σ H11 => ∃ a6 a7 a8, σ = [some (.ref a), some (.int (0 + (i : Int))), some (.ref b), some (.ref pw), some (.ref d), some (.ref D2), a6, a7, a8, a9, a10, a11, a12, a13, a14, a15] ∧ Same H10 H11) ⟨_, _, _, rfl, Same.refl _⟩ (fun j σ H11 _ h => ?_) (fun j x σ H12 H11 hj h y => ?_) (fun σ H11 h => ?_)
    · obtain ⟨_, _, _, _, s⟩ := h
      exact sqL (s _ _ hl10)
    · obtain ⟨a6, a7, a8, rfl, s11⟩ := h
      obtain ⟨rfl, hx⟩ := y
      obtain ⟨kb, hkb, rfl⟩ : ∃ kb, kb ∈ bs ∧ x = .ref kb := by
        rw [List.getElem?_map] at hx
        obtain ⟨kb, h1, h2⟩ := Option.map_eq_some_iff.mp hx
        exact ⟨kb, List.mem_of_mem_take (List.mem_of_getElem? h1), h2.symm⟩
      obtain ⟨kv, hkv, htup⟩ := hbs10 kb hkb
      obtain ⟨p, c⟩ := kv
      have pok := (ta.2.2.2 _ hkv).1
      have hge : aget (terms n ts) p = c := aget_mem ta.1 hkv
      have C11 := C10.s s11
      have htup : TupAt H11 kb p := s11 _ _ htup
      refine ⟨_, rfl, _, rfl, n, ts, p, .ref kb, _, rfl, ⟨kb, rfl, htup⟩, C11.2.2.1, ok, pok.len, pok.pos, fun H12 r s12 hr12 => ⟨r, _, rfl, sqT hr12, rfl, _, _, rfl, _, _, rfl, rfl, ?_⟩⟩
      have C12 := C11.s s12
      have htup2 : TupAt H12 kb p := s12 _ _ htup
      refine ⟨_, rfl, _, rfl, _, _, rfl, rfl, _, rfl, _, rfl, d, _, rfl, dget_emb (.inr ⟨od, C12.2.2.2⟩) htup2 ta.1 hkv, rfl, _, rfl, ?_⟩
      rw [show decide (V.int (aget (runs n ts) (p, 0) - aget (runs n ts) (p, 1)) = V.int c) = true from decide_eq_true (by rw [runs_term ok.lt, hge])]
      refine iteF ?_
      refine ⟨_, rfl, _, rfl, n, ts, p, .ref kb, _, rfl, ⟨kb, rfl, htup2⟩, C12.2.2.1, ok, pok.len, pok.pos, fun H13 s13 => ?_⟩
      have C13 := C12.s s13
      refine ⟨_, rfl, _, rfl, d, _, rfl, dget_emb (.inr ⟨od, C13.2.2.2⟩) (s13 _ _ htup2) ta.1 hkv, rfl, _, rfl, ?_⟩
      rw [show decide (V.int (aget (terms n ts) p) = V.int c) = true from decide_eq_true (by rw [hge])]
      refine iteF ?_
      exact ⟨_, _, _, rfl, s11.trans (Same.trans s12 s13)⟩
    obtain ⟨a6, a7, a8, rfl, s11⟩ := h
    have C11 := C10.s s11
    clear C10 hbs10 hl10 s11
    -- the sizes
    refine ⟨_, rfl, _, rfl, n, ts, b, _, rfl, C11.2.1, C11.2.2.1, n1, n5, ok.len, fun H12 rs ss s12 hb12 hss sok => ?_⟩
    have C12 := C11.b s12 hb12
    clear C11
    have hfin : ∀ H', LCx H1 b n ts (.ref pw) d od H' → Same H H' := fun H' C => s1.trans (C.1.same hb0)
    refine ⟨_, rfl, _, rfl, n, ts, ss, _, rs, rfl, C12.2.2.1, hss, ok, sok, fun H13 pr p s13 hp hle hc => ?_, fun H13 s13 hno => ?_⟩
    rotate_left
    · -- no paper
      have C13 := C12.s s13
      refine ⟨_, rfl, _, rfl, ?_⟩
      refine iteT ?_
      refine ⟨_, rfl, _, rfl, n, ts, ss, _, rs, rfl, C13.2.2.1, hss.t (Same.t s13), ok, sok, fun H14 s14 => ⟨_, rfl, ?_⟩, fun H14 r gone s14 pe => ?_⟩
      · refine iteF ?_
        refine ⟨_, rfl, _, rfl, ?_⟩
        refine iteF ?_
        exact ⟨_, _, _, _, _, _, _, _, _, _, _, _, _, _, _, rfl, hfin _ (C13.s s14)⟩
      · obtain ⟨p, c, hp, hlt⟩ := order_paper ok pe
        have h1 := hno _ hp
        have h2 := (less_iff (ta.2.2.2 _ hp).1.len sok.len).mpr hlt
        exact absurd (h2.symm.trans h1) (by decide)
    · obtain ⟨c, hc⟩ := hc
      have C13 := C12.s s13
      have hss13 := hss.t (Same.t s13)
      have pok := (ta.2.2.2 _ hc).1
      have hlt := (less_iff pok.len sok.len).mp hle
      have pap : Paper n ts ss := ⟨p, c, hc, hlt⟩
      refine ⟨_, rfl, _, rfl, ?_⟩
      refine iteF ?_
      refine iteF ?_
      refine ⟨_, rfl, _, rfl, ?_⟩
      refine iteT ?_
      refine ⟨_, rfl, _, rfl, _, rfl, n, ts, p, ss, .ref pr, _, rs, rfl, ⟨pr, rfl, hp⟩, C13.2.2.1, hss13, ok, sok, hle, ⟨c, hc⟩, fun H14 s14 => ⟨true, rfl, ?_⟩⟩
      refine iteF ?_
      have C14 := C13.s s14
      have hss14 := hss13.t (Same.t s14)
      refine ⟨_, rfl, _, rfl, n, ts, ss, _, rs, rfl, C14.2.2.1, hss14, ok, sok, pap, fun H15 s15 => ⟨true, true, rfl, rfl, _, rfl, ?_⟩⟩
      refine iteF ?_
      have C15 := C14.s s15
      have hss15 := hss14.t (Same.t s15)
      refine ⟨_, rfl, _, rfl, n, ts, ss, _, rs, rfl, C15.2.2.1, hss15, ok, sok, pap, fun H16 s16 => ⟨_, rfl, ?_⟩⟩
      refine iteF ?_
      have C16 := C15.s s16
      have hss16 := hss15.t (Same.t s16)
      clear C12 C13 C14 C15 hss hss13 hss14 hss15 s12 hb12
      -- the lists
      obtain ⟨ra, rfl, hra⟩ := hss16
      refine ⟨show 0 ≤ sizeLine by decide, fun lf hlf => ?_⟩
      have C17 := C16.s (same_new (o := .lst []) hlf)
      have hra17 : upd H16 lf (.lst []) ra = some (.tup (ss.map V.int)) := (same_new hlf) _ _ hra
      have hlf1 : H1 lf = none := by
        cases e : H1 lf with
        | none => rfl
        | some o =>
          have hnb : lf ≠ b := fun z => by obtain ⟨y, hy⟩ := C16.2.1; rw [z, hy] at hlf; exact nomatch hlf
          have := C16.1 _ _ hnb e
          rw [this] at hlf
          exact nomatch hlf
      have hlb : lf ≠ b := fun z => by obtain ⟨y, hy⟩ := C16.2.1; rw [z, hy] at hlf; exact nomatch hlf
      have hl17 : upd H16 lf (.lst []) lf = some (.lst []) := upd_same
      generalize upd H16 lf (.lst []) = H17 at C17 hra17 hl17
      clear C16 hra hlf
      refine ⟨_, rfl, ra, rfl, ⟨_, sqT hra17⟩, ?_⟩
      refine for_it (walk_tup (xs := ss.map V.int)) (fun m σ Hm => ∃ Ls xs a12 a13, σ = [some (.ref a), some (.int (0 + (i : Int))), some (.ref b), some (.ref pw), some (.ref d), some (.ref D2), a6, a7, a8, some (.ref ra), some (.ref pr), some (.ref lf), a12, a13, a14, a15] ∧ LCx H1 b n ts (.ref pw) d od Hm ∧ TupAt Hm ra ss ∧ Hm lf = some (.lst xs) ∧ Paired (IntsV Hm) Ls xs ∧ Lst1 ss m Ls) ⟨[], [], _, _, rfl, C17, hra17, hl17, .nil, ⟨rfl, fun j hj => absurd hj (Nat.not_lt_zero j)⟩⟩ (fun m σ Hm _ h => ?_) (fun m x σ Hm' Hm hm h y => ?_) (fun σ Hm h => ?_)
      · obtain ⟨_, _, _, _, _, _, h, _⟩ := h
        exact sqT h
      · obtain ⟨Ls, xs, a12, a13, rfl, Cm, hram, hlm, prm, hLm⟩ := h
        obtain ⟨rfl, hx⟩ := y
        rw [List.length_map] at hm
        obtain ⟨sz, hsz, rfl⟩ := int_at hx
        have hbz := sok.bnd sz (List.mem_of_getElem? hsz)
        have hsd : ss.getD m 0 = sz := by rw [List.getD_eq_getElem?_getD, hsz]; rfl
        have hmn : m < n := by rw [← sok.len]; exact hm
        have n5' := ok.n5
        have hxsl : xs.length = m := by rw [← Paired.length prm, hLm.len]
        obtain ⟨sN, esN⟩ : ∃ sN : Nat, sz = (sN : Int) := ⟨sz.toNat, by omega⟩
        subst esN
        refine ⟨_, rfl, (sN : Int), 2, rfl, rfl, (sN : Int) + 2, rfl, RgOk.of_le (by omega) (by omega) (by omega) (by omega), fun sm hsm => ?_⟩
        have erg : rgV 0 ((sN : Int) + 2) = (toI (List.range (sN + 2))).map V.int := by
          unfold rgV toI
          rw [List.map_map, show ((sN : Int) + 2 - 0).toNat = sN + 2 by omega]
          refine List.map_congr_left fun i _ => ?_
          show V.int (0 + (i : Int)) = V.int (i : Int)
          rw [Int.zero_add]
        have hbm := Cm.2.1
        have hsb : sm ≠ b := fun e => by obtain ⟨z, hz⟩ := hbm; rw [e, hz] at hsm; exact nomatch hsm
        have hslf : sm ≠ lf := fun e => by rw [e, hlm] at hsm; exact nomatch hsm
        have w1 : Same Hm (upd Hm sm (.lst (rgV 0 ((sN : Int) + 2)))) := same_new hsm
        have hs0 : upd Hm sm (.lst (rgV 0 ((sN : Int) + 2))) sm = some (.lst ((toI (List.range (sN + 2))).map V.int)) := by rw [upd_same, erg]
        have hb0' := hbm.s w1
        generalize upd Hm sm (.lst (rgV 0 ((sN : Int) + 2))) = G0 at w1 hs0 hb0'
        refine ⟨_, rfl, .inl ⟨rfl, xs, sqL (w1 _ _ hlm)⟩, ?_⟩
        refine ⟨_, rfl, (sN : Int), rfl, by omega, by omega, fun D hD => ?_⟩
        have hDb : D ≠ b := fun e => by obtain ⟨z, hz⟩ := hb0'; rw [e, hz] at hD; exact nomatch hD
        have hDs : D ≠ sm := fun e => by rw [e, hs0] at hD; exact nomatch hD
        refine lc_it walk_range (fun t G => ∃ acc rest : List Int, (∀ x o, x ≠ b → x ≠ sm → G0 x = some o → G x = some o) ∧ BoxAt G b ∧ G sm = some (.lst (rest.map V.int)) ∧ G D = some (.lst (acc.map V.int)) ∧ (acc ++ rest).Perm (toI (List.range (sN + 2))) ∧ acc.length = t) ⟨[], toI (List.range (sN + 2)), fun x o _ _ h => (by rw [upd_ne (ne_of_none h hD)]; exact h), ?_, ?_, upd_same, List.Perm.refl _, rfl⟩ (fun _ _ _ _ => trivial) (fun t x G' G ht h y => ?_) (fun G h => ?_)
        · obtain ⟨z, hz⟩ := hb0'
          exact ⟨z, by rw [upd_ne hDb.symm]; exact hz⟩
        · rw [upd_ne hDs.symm]; exact hs0
        · obtain ⟨acc, rest, k1, k2, k3, k4, k5, k6⟩ := h
          obtain ⟨rfl, rfl⟩ := y
          have hrl : rest.length = sN + 2 - t := by
            have := k5.length_eq
            rw [List.length_append, toI_len, List.length_range] at this
            omega
          have ht' : t < sN := by omega
          refine ⟨rfl, ?_⟩
          refine yes_then ?_
          refine ⟨_, rfl, .inl ⟨rfl, _, sqL k3⟩, _, rfl, _, rfl, sm, _, rfl, .inl (sqL k3), b, ((rest.map V.int).length : Nat), rfl, k2, by rw [List.length_map]; omega, by rw [List.length_map]; omega, fun G2 dd q1 q2 d0 d1 => ?_⟩
          rw [List.length_map] at d1
          have hk3 := q1 _ _ hsb k3
          have hdn : dd.toNat < rest.length := by omega
          obtain ⟨j, j1, j2, _⟩ := atI_get (at_of (z := dd) (by omega) (num_at hdn))
          obtain ⟨v, hy, ev⟩ := int_at j2
          have ev := V.int.inj ev
          refine ⟨sm, _, dd, j, _, rfl, rfl, hk3, by omega, by omega, j1, j2, ?_⟩
          have hD2 : upd G2 sm (.lst ((rest.map V.int).eraseIdx j)) D = some (.lst (acc.map V.int)) := by rw [upd_ne hDs]; exact q1 _ _ hDb k4
          refine ⟨acc.map V.int, hD2, lt5 (by rw [List.length_map]; omega), acc ++ [v], rest.eraseIdx j, fun x o h1 h2 h3 => ?_, ?_, ?_, ?_, pop_perm k5 hy, by rw [List.length_append, k6]; rfl⟩
          · rw [upd_ne (ne_of_none h3 hD), upd_ne h2]
            exact q1 _ _ h1 (k1 _ _ h1 h2 h3)
          · obtain ⟨z, hz⟩ := q2
            exact ⟨z, by rw [upd_ne hDb.symm, upd_ne hsb.symm]; exact hz⟩
          · rw [upd_ne hDs.symm, upd_same, erase_map_int]
          · rw [upd_same, List.map_append, ev]; rfl
        · obtain ⟨acc, rest, k1, k2, k3, k4, k5, k6⟩ := h
          have k6' : acc.length = sN := k6
          refine ⟨D, acc, rfl, sqL k4, by omega, fun ns' p3 pm pw3 hp3 => ⟨p3, _, rfl, .inl ⟨sqL upd_same, fun p4 hp4 => ?_⟩⟩⟩
          have y1 : Same G (upd G p3 (.lst (ns'.map V.int))) := same_new hp3
          have y2 : Same (upd G p3 (.lst (ns'.map V.int))) (upd (upd G p3 (.lst (ns'.map V.int))) p4 (.tup (ns'.map V.int))) := same_new hp4
          have y12 := y1.trans y2
          have hlG : G lf = some (.lst xs) := k1 _ _ hlb hslf.symm (w1 _ _ hlm)
          refine ⟨lf, xs, .ref p4, rfl, rfl, y12 _ _ hlG, lt5 (by omega), ?_⟩
          have kp : Keep b lf Hm (upd (upd (upd G p3 (.lst (ns'.map V.int))) p4 (.tup (ns'.map V.int))) lf (.lst (xs ++ [.ref p4]))) := fun x o h1 h2 h3 => by
            rw [upd_ne h2]
            exact y12 _ _ (k1 _ _ h1 (ne_of_none h3 hsm) (w1 _ _ h3))
          have hbn : BoxAt (upd (upd (upd G p3 (.lst (ns'.map V.int))) p4 (.tup (ns'.map V.int))) lf (.lst (xs ++ [.ref p4]))) b := by
            obtain ⟨z, hz⟩ := k2.s y12
            exact ⟨z, by rw [upd_ne hlb.symm]; exact hz⟩
          obtain ⟨Cn, tn⟩ := Cm.k ⟨xs, hlm⟩ hlf1 kp hbn
          have hp4l : p4 ≠ lf := fun e => by rw [e, y1 _ _ hlG] at hp4; exact nomatch hp4
          refine ⟨Ls ++ [ns'], xs ++ [.ref p4], _, _, rfl, Cn, tn _ _ hram, upd_same, Paired.snoc (Paired.imp prm fun _ _ h => h.t tn) ⟨p4, rfl, by rw [upd_ne hp4l, upd_same]⟩, hLm.add (drawn_ok k5 (by omega) (by omega) pm pw3) (by rw [hsd, pm.length_eq, k6'])⟩
      · obtain ⟨Ls, xs, a12, a13, rfl, Cm, hram, hlm, prm, hLm⟩ := h
        rw [List.length_map, sok.len] at hLm
        refine ⟨_, rfl, _, rfl, lf, xs, rfl, .inl ⟨sqL hlm, fun p5 hp5 => ?_⟩⟩
        have y1 : Same Hm (upd Hm p5 (.tup xs)) := same_new hp5
        have C5 := Cm.s y1
        refine ⟨n, ts, Ls, _, .ref p5, rfl, C5.2.2.1, ⟨p5, xs, rfl, upd_same, Paired.imp prm fun _ _ h => h.t (Same.t y1)⟩, ok, hLm.len, fun L hL => ?_, choice_cnt ok hc hlt hLm, fun H' r s' => ⟨_, rfl, ?_⟩⟩
        · obtain ⟨j, hj, rfl⟩ := mem_getD hL
          exact (hLm.each j (by rw [← hLm.len]; exact hj)).1
        · refine iteF ?_
          exact ⟨_, _, _, _, _, _, _, _, _, _, _, _, _, _, _, rfl, hfin _ (C5.s s')⟩
end
end HL

set_option Elab.async false
set_option linter.all false
set_option maxRecDepth 100000
set_option maxHeartbeats 4000000
namespace HL
open PySem PySem.Spec L2 PyProof.Rows
theorem def_mk {K : PySem.W.Frag} {h : Heap} {mg : Str → Option Value} (X : K.In h) (G : h.Ns mainGlobals mg) {x : Str} {st : Stmt} {ps : List Str} {f : Addr} {od an : Option Addr} {sl : Array (Option Value)} {oc kV dc pm cd ct : Value}
    (hb : ∀ (kV doc pm : Value) (an : Option Addr) (cdv ct : Value) (us : List Value), us.length = ps.length → bindArgs (PySem.W.fnOf x x (defArgs st) (defBody st) (defScope st) .none kV doc pm an cdv ct) ⟨us, []⟩ = pure (ps.zip us))
    (a : PySem.W.nsIn K mainGlobals x = some (some (.ref f))) (l : K.lookup f = some ⟨oc, od, .func (PySem.W.fnOf x x (defArgs st) (defBody st) (defScope st) .none kV dc pm an cd ct), sl⟩) (c : PySem.W.codeIn K cd x = true) (k : PySem.W.keepIn K (.ref f) = true) : DefAt K mg x st ps :=
  ⟨f, _, fun_mk (st := st) l c k, PySem.W.mg_of X G a, (fun_mk (st := st) l c k).binds hb⟩
theorem law_mk {l : PySem.W.OpenLaw} {w : World} {K : PySem.W.Frag} {h : Heap} {mg : Str → Option Value} {fa f2 : Addr} (X : K.In h) (G : h.Ns mainGlobals mg) (hfa : mg "law" = some (.ref fa)) (T : TX K mg)
    {od2 an2 : Option Addr} {sl2 : Array (Option Value)} {oc2 kV2 dc2 pm2 cd2 ct2 : Value}
    (a2 : PySem.W.nsIn K mainGlobals "law" = some (some (.ref f2))) (l2 : K.lookup f2 = some ⟨oc2, od2, .func (PySem.W.fnOf "law" "law" (defArgs s_law) (defBody s_law) (defScope s_law) .none kV2 dc2 pm2 an2 cd2 ct2), sl2⟩) (c2 : PySem.W.codeIn K cd2 "law" = true) (k2 : PySem.W.keepIn K (.ref f2) = true) :
    ∃ fd : FuncData, (∀ (s : Shared) (v : Value), BindsTo s fd ⟨[v], []⟩ [("_law_script", v)]) ∧ ∀ base : Heap, K.In base → base.Ns mainGlobals mg → FnOk l.prog w K mg base CX0 18 fa fd ["_law_script"] (spLaw K) := by
  have e := hfa.symm.trans (PySem.W.mg_of X G a2)
  cases e
  exact ⟨PySem.W.fnOf "law" "law" (defArgs s_law) (defBody s_law) (defScope s_law) .none kV2 dc2 pm2 an2 cd2 ct2, fun s v => .of_eq rfl, fun base _ _ => ok_law T (fun_mk (st := s_law) l2 c2 k2)⟩
theorem tx_mk {K : PySem.W.Frag} {h : Heap} {mg : Str → Option Value} (X : K.In h) (G : h.Ns mainGlobals mg)
    {f0 : Addr} {od0 an0 : Option Addr} {sl0 : Array (Option Value)} {oc0 kV0 dc0 pm0 cd0 ct0 : Value}
    (a0 : PySem.W.nsIn K mainGlobals "is_from_nought" = some (some (.ref f0))) (l0 : K.lookup f0 = some ⟨oc0, od0, .func (PySem.W.fnOf "is_from_nought" "is_from_nought" (defArgs s_is_from_nought) (defBody s_is_from_nought) (defScope s_is_from_nought) .none kV0 dc0 pm0 an0 cd0 ct0), sl0⟩) (c0 : PySem.W.codeIn K cd0 "is_from_nought" = true) (k0 : PySem.W.keepIn K (.ref f0) = true)
    {f1 : Addr} {od1 an1 : Option Addr} {sl1 : Array (Option Value)} {oc1 kV1 dc1 pm1 cd1 ct1 : Value}
    (a1 : PySem.W.nsIn K mainGlobals "is_upto" = some (some (.ref f1))) (l1 : K.lookup f1 = some ⟨oc1, od1, .func (PySem.W.fnOf "is_upto" "is_upto" (defArgs s_is_upto) (defBody s_is_upto) (defScope s_is_upto) .none kV1 dc1 pm1 an1 cd1 ct1), sl1⟩) (c1 : PySem.W.codeIn K cd1 "is_upto" = true) (k1 : PySem.W.keepIn K (.ref f1) = true)
    {f2 : Addr} {od2 an2 : Option Addr} {sl2 : Array (Option Value)} {oc2 kV2 dc2 pm2 cd2 ct2 : Value}
    (a2 : PySem.W.nsIn K mainGlobals "is_tie" = some (some (.ref f2))) (l2 : K.lookup f2 = some ⟨oc2, od2, .func (PySem.W.fnOf "is_tie" "is_tie" (defArgs s_is_tie) (defBody s_is_tie) (defScope s_is_tie) .none kV2 dc2 pm2 an2 cd2 ct2), sl2⟩) (c2 : PySem.W.codeIn K cd2 "is_tie" = true) (k2 : PySem.W.keepIn K (.ref f2) = true)
    {f3 : Addr} {od3 an3 : Option Addr} {sl3 : Array (Option Value)} {oc3 kV3 dc3 pm3 cd3 ct3 : Value}
    (a3 : PySem.W.nsIn K mainGlobals "rises" = some (some (.ref f3))) (l3 : K.lookup f3 = some ⟨oc3, od3, .func (PySem.W.fnOf "rises" "rises" (defArgs s_rises) (defBody s_rises) (defScope s_rises) .none kV3 dc3 pm3 an3 cd3 ct3), sl3⟩) (c3 : PySem.W.codeIn K cd3 "rises" = true) (k3 : PySem.W.keepIn K (.ref f3) = true)
    {f4 : Addr} {od4 an4 : Option Addr} {sl4 : Array (Option Value)} {oc4 kV4 dc4 pm4 cd4 ct4 : Value}
    (a4 : PySem.W.nsIn K mainGlobals "is_web" = some (some (.ref f4))) (l4 : K.lookup f4 = some ⟨oc4, od4, .func (PySem.W.fnOf "is_web" "is_web" (defArgs s_is_web) (defBody s_is_web) (defScope s_is_web) .none kV4 dc4 pm4 an4 cd4 ct4), sl4⟩) (c4 : PySem.W.codeIn K cd4 "is_web" = true) (k4 : PySem.W.keepIn K (.ref f4) = true)
    {f5 : Addr} {od5 an5 : Option Addr} {sl5 : Array (Option Value)} {oc5 kV5 dc5 pm5 cd5 ct5 : Value}
    (a5 : PySem.W.nsIn K mainGlobals "need_web" = some (some (.ref f5))) (l5 : K.lookup f5 = some ⟨oc5, od5, .func (PySem.W.fnOf "need_web" "need_web" (defArgs s_need_web) (defBody s_need_web) (defScope s_need_web) .none kV5 dc5 pm5 an5 cd5 ct5), sl5⟩) (c5 : PySem.W.codeIn K cd5 "need_web" = true) (k5 : PySem.W.keepIn K (.ref f5) = true)
    {f6 : Addr} {od6 an6 : Option Addr} {sl6 : Array (Option Value)} {oc6 kV6 dc6 pm6 cd6 ct6 : Value}
    (a6 : PySem.W.nsIn K mainGlobals "is_list" = some (some (.ref f6))) (l6 : K.lookup f6 = some ⟨oc6, od6, .func (PySem.W.fnOf "is_list" "is_list" (defArgs s_is_list) (defBody s_is_list) (defScope s_is_list) .none kV6 dc6 pm6 an6 cd6 ct6), sl6⟩) (c6 : PySem.W.codeIn K cd6 "is_list" = true) (k6 : PySem.W.keepIn K (.ref f6) = true)
    {f7 : Addr} {od7 an7 : Option Addr} {sl7 : Array (Option Value)} {oc7 kV7 dc7 pm7 cd7 ct7 : Value}
    (a7 : PySem.W.nsIn K mainGlobals "are_lists_of" = some (some (.ref f7))) (l7 : K.lookup f7 = some ⟨oc7, od7, .func (PySem.W.fnOf "are_lists_of" "are_lists_of" (defArgs s_are_lists_of) (defBody s_are_lists_of) (defScope s_are_lists_of) .none kV7 dc7 pm7 an7 cd7 ct7), sl7⟩) (c7 : PySem.W.codeIn K cd7 "are_lists_of" = true) (k7 : PySem.W.keepIn K (.ref f7) = true)
    {f8 : Addr} {od8 an8 : Option Addr} {sl8 : Array (Option Value)} {oc8 kV8 dc8 pm8 cd8 ct8 : Value}
    (a8 : PySem.W.nsIn K mainGlobals "need_lists" = some (some (.ref f8))) (l8 : K.lookup f8 = some ⟨oc8, od8, .func (PySem.W.fnOf "need_lists" "need_lists" (defArgs s_need_lists) (defBody s_need_lists) (defScope s_need_lists) .none kV8 dc8 pm8 an8 cd8 ct8), sl8⟩) (c8 : PySem.W.codeIn K cd8 "need_lists" = true) (k8 : PySem.W.keepIn K (.ref f8) = true)
    {f9 : Addr} {od9 an9 : Option Addr} {sl9 : Array (Option Value)} {oc9 kV9 dc9 pm9 cd9 ct9 : Value}
    (a9 : PySem.W.nsIn K mainGlobals "are_sizes" = some (some (.ref f9))) (l9 : K.lookup f9 = some ⟨oc9, od9, .func (PySem.W.fnOf "are_sizes" "are_sizes" (defArgs s_are_sizes) (defBody s_are_sizes) (defScope s_are_sizes) .none kV9 dc9 pm9 an9 cd9 ct9), sl9⟩) (c9 : PySem.W.codeIn K cd9 "are_sizes" = true) (k9 : PySem.W.keepIn K (.ref f9) = true)
    {f10 : Addr} {od10 an10 : Option Addr} {sl10 : Array (Option Value)} {oc10 kV10 dc10 pm10 cd10 ct10 : Value}
    (a10 : PySem.W.nsIn K mainGlobals "need_sizes" = some (some (.ref f10))) (l10 : K.lookup f10 = some ⟨oc10, od10, .func (PySem.W.fnOf "need_sizes" "need_sizes" (defArgs s_need_sizes) (defBody s_need_sizes) (defScope s_need_sizes) .none kV10 dc10 pm10 an10 cd10 ct10), sl10⟩) (c10 : PySem.W.codeIn K cd10 "need_sizes" = true) (k10 : PySem.W.keepIn K (.ref f10) = true)
    {f11 : Addr} {od11 an11 : Option Addr} {sl11 : Array (Option Value)} {oc11 kV11 dc11 pm11 cd11 ct11 : Value}
    (a11 : PySem.W.nsIn K mainGlobals "tied_to" = some (some (.ref f11))) (l11 : K.lookup f11 = some ⟨oc11, od11, .func (PySem.W.fnOf "tied_to" "tied_to" (defArgs s_tied_to) (defBody s_tied_to) (defScope s_tied_to) .none kV11 dc11 pm11 an11 cd11 ct11), sl11⟩) (c11 : PySem.W.codeIn K cd11 "tied_to" = true) (k11 : PySem.W.keepIn K (.ref f11) = true)
    {f12 : Addr} {od12 an12 : Option Addr} {sl12 : Array (Option Value)} {oc12 kV12 dc12 pm12 cd12 ct12 : Value}
    (a12 : PySem.W.nsIn K mainGlobals "need_few" = some (some (.ref f12))) (l12 : K.lookup f12 = some ⟨oc12, od12, .func (PySem.W.fnOf "need_few" "need_few" (defArgs s_need_few) (defBody s_need_few) (defScope s_need_few) .none kV12 dc12 pm12 an12 cd12 ct12), sl12⟩) (c12 : PySem.W.codeIn K cd12 "need_few" = true) (k12 : PySem.W.keepIn K (.ref f12) = true)
    {f13 : Addr} {od13 an13 : Option Addr} {sl13 : Array (Option Value)} {oc13 kV13 dc13 pm13 cd13 ct13 : Value}
    (a13 : PySem.W.nsIn K mainGlobals "raised" = some (some (.ref f13))) (l13 : K.lookup f13 = some ⟨oc13, od13, .func (PySem.W.fnOf "raised" "raised" (defArgs s_raised) (defBody s_raised) (defScope s_raised) .none kV13 dc13 pm13 an13 cd13 ct13), sl13⟩) (c13 : PySem.W.codeIn K cd13 "raised" = true) (k13 : PySem.W.keepIn K (.ref f13) = true)
    {f14 : Addr} {od14 an14 : Option Addr} {sl14 : Array (Option Value)} {oc14 kV14 dc14 pm14 cd14 ct14 : Value}
    (a14 : PySem.W.nsIn K mainGlobals "terms_of" = some (some (.ref f14))) (l14 : K.lookup f14 = some ⟨oc14, od14, .func (PySem.W.fnOf "terms_of" "terms_of" (defArgs s_terms_of) (defBody s_terms_of) (defScope s_terms_of) .none kV14 dc14 pm14 an14 cd14 ct14), sl14⟩) (c14 : PySem.W.codeIn K cd14 "terms_of" = true) (k14 : PySem.W.keepIn K (.ref f14) = true)
    {f15 : Addr} {od15 an15 : Option Addr} {sl15 : Array (Option Value)} {oc15 kV15 dc15 pm15 cd15 ct15 : Value}
    (a15 : PySem.W.nsIn K mainGlobals "terms" = some (some (.ref f15))) (l15 : K.lookup f15 = some ⟨oc15, od15, .func (PySem.W.fnOf "terms" "terms" (defArgs s_terms) (defBody s_terms) (defScope s_terms) .none kV15 dc15 pm15 an15 cd15 ct15), sl15⟩) (c15 : PySem.W.codeIn K cd15 "terms" = true) (k15 : PySem.W.keepIn K (.ref f15) = true)
    {f16 : Addr} {od16 an16 : Option Addr} {sl16 : Array (Option Value)} {oc16 kV16 dc16 pm16 cd16 ct16 : Value}
    (a16 : PySem.W.nsIn K mainGlobals "are_powers" = some (some (.ref f16))) (l16 : K.lookup f16 = some ⟨oc16, od16, .func (PySem.W.fnOf "are_powers" "are_powers" (defArgs s_are_powers) (defBody s_are_powers) (defScope s_are_powers) .none kV16 dc16 pm16 an16 cd16 ct16), sl16⟩) (c16 : PySem.W.codeIn K cd16 "are_powers" = true) (k16 : PySem.W.keepIn K (.ref f16) = true)
    {f17 : Addr} {od17 an17 : Option Addr} {sl17 : Array (Option Value)} {oc17 kV17 dc17 pm17 cd17 ct17 : Value}
    (a17 : PySem.W.nsIn K mainGlobals "need_powers" = some (some (.ref f17))) (l17 : K.lookup f17 = some ⟨oc17, od17, .func (PySem.W.fnOf "need_powers" "need_powers" (defArgs s_need_powers) (defBody s_need_powers) (defScope s_need_powers) .none kV17 dc17 pm17 an17 cd17 ct17), sl17⟩) (c17 : PySem.W.codeIn K cd17 "need_powers" = true) (k17 : PySem.W.keepIn K (.ref f17) = true)
    {f18 : Addr} {od18 an18 : Option Addr} {sl18 : Array (Option Value)} {oc18 kV18 dc18 pm18 cd18 ct18 : Value}
    (a18 : PySem.W.nsIn K mainGlobals "term" = some (some (.ref f18))) (l18 : K.lookup f18 = some ⟨oc18, od18, .func (PySem.W.fnOf "term" "term" (defArgs s_term) (defBody s_term) (defScope s_term) .none kV18 dc18 pm18 an18 cd18 ct18), sl18⟩) (c18 : PySem.W.codeIn K cd18 "term" = true) (k18 : PySem.W.keepIn K (.ref f18) = true)
    {f19 : Addr} {od19 an19 : Option Addr} {sl19 : Array (Option Value)} {oc19 kV19 dc19 pm19 cd19 ct19 : Value}
    (a19 : PySem.W.nsIn K mainGlobals "lesser" = some (some (.ref f19))) (l19 : K.lookup f19 = some ⟨oc19, od19, .func (PySem.W.fnOf "lesser" "lesser" (defArgs s_lesser) (defBody s_lesser) (defScope s_lesser) .none kV19 dc19 pm19 an19 cd19 ct19), sl19⟩) (c19 : PySem.W.codeIn K cd19 "lesser" = true) (k19 : PySem.W.keepIn K (.ref f19) = true)
    {f20 : Addr} {od20 an20 : Option Addr} {sl20 : Array (Option Value)} {oc20 kV20 dc20 pm20 cd20 ct20 : Value}
    (a20 : PySem.W.nsIn K mainGlobals "is_term_paper" = some (some (.ref f20))) (l20 : K.lookup f20 = some ⟨oc20, od20, .func (PySem.W.fnOf "is_term_paper" "is_term_paper" (defArgs s_is_term_paper) (defBody s_is_term_paper) (defScope s_is_term_paper) .none kV20 dc20 pm20 an20 cd20 ct20), sl20⟩) (c20 : PySem.W.codeIn K cd20 "is_term_paper" = true) (k20 : PySem.W.keepIn K (.ref f20) = true)
    {f21 : Addr} {od21 an21 : Option Addr} {sl21 : Array (Option Value)} {oc21 kV21 dc21 pm21 cd21 ct21 : Value}
    (a21 : PySem.W.nsIn K mainGlobals "term_for" = some (some (.ref f21))) (l21 : K.lookup f21 = some ⟨oc21, od21, .func (PySem.W.fnOf "term_for" "term_for" (defArgs s_term_for) (defBody s_term_for) (defScope s_term_for) .none kV21 dc21 pm21 an21 cd21 ct21), sl21⟩) (c21 : PySem.W.codeIn K cd21 "term_for" = true) (k21 : PySem.W.keepIn K (.ref f21) = true)
    {f22 : Addr} {od22 an22 : Option Addr} {sl22 : Array (Option Value)} {oc22 kV22 dc22 pm22 cd22 ct22 : Value}
    (a22 : PySem.W.nsIn K mainGlobals "runs_many" = some (some (.ref f22))) (l22 : K.lookup f22 = some ⟨oc22, od22, .func (PySem.W.fnOf "runs_many" "runs_many" (defArgs s_runs_many) (defBody s_runs_many) (defScope s_runs_many) .none kV22 dc22 pm22 an22 cd22 ct22), sl22⟩) (c22 : PySem.W.codeIn K cd22 "runs_many" = true) (k22 : PySem.W.keepIn K (.ref f22) = true)
    {f23 : Addr} {od23 an23 : Option Addr} {sl23 : Array (Option Value)} {oc23 kV23 dc23 pm23 cd23 ct23 : Value}
    (a23 : PySem.W.nsIn K mainGlobals "fits" = some (some (.ref f23))) (l23 : K.lookup f23 = some ⟨oc23, od23, .func (PySem.W.fnOf "fits" "fits" (defArgs s_fits) (defBody s_fits) (defScope s_fits) .none kV23 dc23 pm23 an23 cd23 ct23), sl23⟩) (c23 : PySem.W.codeIn K cd23 "fits" = true) (k23 : PySem.W.keepIn K (.ref f23) = true)
    {f24 : Addr} {od24 an24 : Option Addr} {sl24 : Array (Option Value)} {oc24 kV24 dc24 pm24 cd24 ct24 : Value}
    (a24 : PySem.W.nsIn K mainGlobals "many_of" = some (some (.ref f24))) (l24 : K.lookup f24 = some ⟨oc24, od24, .func (PySem.W.fnOf "many_of" "many_of" (defArgs s_many_of) (defBody s_many_of) (defScope s_many_of) .none kV24 dc24 pm24 an24 cd24 ct24), sl24⟩) (c24 : PySem.W.codeIn K cd24 "many_of" = true) (k24 : PySem.W.keepIn K (.ref f24) = true)
    {f25 : Addr} {od25 an25 : Option Addr} {sl25 : Array (Option Value)} {oc25 kV25 dc25 pm25 cd25 ct25 : Value}
    (a25 : PySem.W.nsIn K mainGlobals "first_of" = some (some (.ref f25))) (l25 : K.lookup f25 = some ⟨oc25, od25, .func (PySem.W.fnOf "first_of" "first_of" (defArgs s_first_of) (defBody s_first_of) (defScope s_first_of) .none kV25 dc25 pm25 an25 cd25 ct25), sl25⟩) (c25 : PySem.W.codeIn K cd25 "first_of" = true) (k25 : PySem.W.keepIn K (.ref f25) = true)
    {f26 : Addr} {od26 an26 : Option Addr} {sl26 : Array (Option Value)} {oc26 kV26 dc26 pm26 cd26 ct26 : Value}
    (a26 : PySem.W.nsIn K mainGlobals "first_choice" = some (some (.ref f26))) (l26 : K.lookup f26 = some ⟨oc26, od26, .func (PySem.W.fnOf "first_choice" "first_choice" (defArgs s_first_choice) (defBody s_first_choice) (defScope s_first_choice) .none kV26 dc26 pm26 an26 cd26 ct26), sl26⟩) (c26 : PySem.W.codeIn K cd26 "first_choice" = true) (k26 : PySem.W.keepIn K (.ref f26) = true)
    {f27 : Addr} {od27 an27 : Option Addr} {sl27 : Array (Option Value)} {oc27 kV27 dc27 pm27 cd27 ct27 : Value}
    (a27 : PySem.W.nsIn K mainGlobals "peeled" = some (some (.ref f27))) (l27 : K.lookup f27 = some ⟨oc27, od27, .func (PySem.W.fnOf "peeled" "peeled" (defArgs s_peeled) (defBody s_peeled) (defScope s_peeled) .none kV27 dc27 pm27 an27 cd27 ct27), sl27⟩) (c27 : PySem.W.codeIn K cd27 "peeled" = true) (k27 : PySem.W.keepIn K (.ref f27) = true)
    {f28 : Addr} {od28 an28 : Option Addr} {sl28 : Array (Option Value)} {oc28 kV28 dc28 pm28 cd28 ct28 : Value}
    (a28 : PySem.W.nsIn K mainGlobals "order_for" = some (some (.ref f28))) (l28 : K.lookup f28 = some ⟨oc28, od28, .func (PySem.W.fnOf "order_for" "order_for" (defArgs s_order_for) (defBody s_order_for) (defScope s_order_for) .none kV28 dc28 pm28 an28 cd28 ct28), sl28⟩) (c28 : PySem.W.codeIn K cd28 "order_for" = true) (k28 : PySem.W.keepIn K (.ref f28) = true)
    {f29 : Addr} {od29 an29 : Option Addr} {sl29 : Array (Option Value)} {oc29 kV29 dc29 pm29 cd29 ct29 : Value}
    (a29 : PySem.W.nsIn K mainGlobals "need_small" = some (some (.ref f29))) (l29 : K.lookup f29 = some ⟨oc29, od29, .func (PySem.W.fnOf "need_small" "need_small" (defArgs s_need_small) (defBody s_need_small) (defScope s_need_small) .none kV29 dc29 pm29 an29 cd29 ct29), sl29⟩) (c29 : PySem.W.codeIn K cd29 "need_small" = true) (k29 : PySem.W.keepIn K (.ref f29) = true)
    {f30 : Addr} {od30 an30 : Option Addr} {sl30 : Array (Option Value)} {oc30 kV30 dc30 pm30 cd30 ct30 : Value}
    (a30 : PySem.W.nsIn K mainGlobals "sets_of" = some (some (.ref f30))) (l30 : K.lookup f30 = some ⟨oc30, od30, .func (PySem.W.fnOf "sets_of" "sets_of" (defArgs s_sets_of) (defBody s_sets_of) (defScope s_sets_of) .none kV30 dc30 pm30 an30 cd30 ct30), sl30⟩) (c30 : PySem.W.codeIn K cd30 "sets_of" = true) (k30 : PySem.W.keepIn K (.ref f30) = true)
    {f31 : Addr} {od31 an31 : Option Addr} {sl31 : Array (Option Value)} {oc31 kV31 dc31 pm31 cd31 ct31 : Value}
    (a31 : PySem.W.nsIn K mainGlobals "part_web" = some (some (.ref f31))) (l31 : K.lookup f31 = some ⟨oc31, od31, .func (PySem.W.fnOf "part_web" "part_web" (defArgs s_part_web) (defBody s_part_web) (defScope s_part_web) .none kV31 dc31 pm31 an31 cd31 ct31), sl31⟩) (c31 : PySem.W.codeIn K cd31 "part_web" = true) (k31 : PySem.W.keepIn K (.ref f31) = true)
    {f32 : Addr} {od32 an32 : Option Addr} {sl32 : Array (Option Value)} {oc32 kV32 dc32 pm32 cd32 ct32 : Value}
    (a32 : PySem.W.nsIn K mainGlobals "bar_here" = some (some (.ref f32))) (l32 : K.lookup f32 = some ⟨oc32, od32, .func (PySem.W.fnOf "bar_here" "bar_here" (defArgs s_bar_here) (defBody s_bar_here) (defScope s_bar_here) .none kV32 dc32 pm32 an32 cd32 ct32), sl32⟩) (c32 : PySem.W.codeIn K cd32 "bar_here" = true) (k32 : PySem.W.keepIn K (.ref f32) = true)
    {f33 : Addr} {od33 an33 : Option Addr} {sl33 : Array (Option Value)} {oc33 kV33 dc33 pm33 cd33 ct33 : Value}
    (a33 : PySem.W.nsIn K mainGlobals "bar_of" = some (some (.ref f33))) (l33 : K.lookup f33 = some ⟨oc33, od33, .func (PySem.W.fnOf "bar_of" "bar_of" (defArgs s_bar_of) (defBody s_bar_of) (defScope s_bar_of) .none kV33 dc33 pm33 an33 cd33 ct33), sl33⟩) (c33 : PySem.W.codeIn K cd33 "bar_of" = true) (k33 : PySem.W.keepIn K (.ref f33) = true)
    {f34 : Addr} {od34 an34 : Option Addr} {sl34 : Array (Option Value)} {oc34 kV34 dc34 pm34 cd34 ct34 : Value}
    (a34 : PySem.W.nsIn K mainGlobals "need_asked" = some (some (.ref f34))) (l34 : K.lookup f34 = some ⟨oc34, od34, .func (PySem.W.fnOf "need_asked" "need_asked" (defArgs s_need_asked) (defBody s_need_asked) (defScope s_need_asked) .none kV34 dc34 pm34 an34 cd34 ct34), sl34⟩) (c34 : PySem.W.codeIn K cd34 "need_asked" = true) (k34 : PySem.W.keepIn K (.ref f34) = true)
    {f35 : Addr} {od35 an35 : Option Addr} {sl35 : Array (Option Value)} {oc35 kV35 dc35 pm35 cd35 ct35 : Value}
    (a35 : PySem.W.nsIn K mainGlobals "always" = some (some (.ref f35))) (l35 : K.lookup f35 = some ⟨oc35, od35, .func (PySem.W.fnOf "always" "always" (defArgs s_always) (defBody s_always) (defScope s_always) .none kV35 dc35 pm35 an35 cd35 ct35), sl35⟩) (c35 : PySem.W.codeIn K cd35 "always" = true) (k35 : PySem.W.keepIn K (.ref f35) = true)
    {f36 : Addr} {od36 an36 : Option Addr} {sl36 : Array (Option Value)} {oc36 kV36 dc36 pm36 cd36 ct36 : Value}
    (a36 : PySem.W.nsIn K mainGlobals "bar_for" = some (some (.ref f36))) (l36 : K.lookup f36 = some ⟨oc36, od36, .func (PySem.W.fnOf "bar_for" "bar_for" (defArgs s_bar_for) (defBody s_bar_for) (defScope s_bar_for) .none kV36 dc36 pm36 an36 cd36 ct36), sl36⟩) (c36 : PySem.W.codeIn K cd36 "bar_for" = true) (k36 : PySem.W.keepIn K (.ref f36) = true)
    {f37 : Addr} {od37 an37 : Option Addr} {sl37 : Array (Option Value)} {oc37 kV37 dc37 pm37 cd37 ct37 : Value}
    (a37 : PySem.W.nsIn K mainGlobals "_law_cell" = some (some (.ref f37))) (l37 : K.lookup f37 = some ⟨oc37, od37, .func (PySem.W.fnOf "_law_cell" "_law_cell" (defArgs s_cell) (defBody s_cell) (defScope s_cell) .none kV37 dc37 pm37 an37 cd37 ct37), sl37⟩) (c37 : PySem.W.codeIn K cd37 "_law_cell" = true) (k37 : PySem.W.keepIn K (.ref f37) = true)
    {f38 : Addr} {od38 an38 : Option Addr} {sl38 : Array (Option Value)} {oc38 kV38 dc38 pm38 cd38 ct38 : Value}
    (a38 : PySem.W.nsIn K mainGlobals "_law_mix" = some (some (.ref f38))) (l38 : K.lookup f38 = some ⟨oc38, od38, .func (PySem.W.fnOf "_law_mix" "_law_mix" (defArgs s_mix) (defBody s_mix) (defScope s_mix) .none kV38 dc38 pm38 an38 cd38 ct38), sl38⟩) (c38 : PySem.W.codeIn K cd38 "_law_mix" = true) (k38 : PySem.W.keepIn K (.ref f38) = true)
    {f39 : Addr} {od39 an39 : Option Addr} {sl39 : Array (Option Value)} {oc39 kV39 dc39 pm39 cd39 ct39 : Value}
    (a39 : PySem.W.nsIn K mainGlobals "_law_box" = some (some (.ref f39))) (l39 : K.lookup f39 = some ⟨oc39, od39, .func (PySem.W.fnOf "_law_box" "_law_box" (defArgs s_box) (defBody s_box) (defScope s_box) .none kV39 dc39 pm39 an39 cd39 ct39), sl39⟩) (c39 : PySem.W.codeIn K cd39 "_law_box" = true) (k39 : PySem.W.keepIn K (.ref f39) = true)
    {f40 : Addr} {od40 an40 : Option Addr} {sl40 : Array (Option Value)} {oc40 kV40 dc40 pm40 cd40 ct40 : Value}
    (a40 : PySem.W.nsIn K mainGlobals "_law_take" = some (some (.ref f40))) (l40 : K.lookup f40 = some ⟨oc40, od40, .func (PySem.W.fnOf "_law_take" "_law_take" (defArgs s_take) (defBody s_take) (defScope s_take) .none kV40 dc40 pm40 an40 cd40 ct40), sl40⟩) (c40 : PySem.W.codeIn K cd40 "_law_take" = true) (k40 : PySem.W.keepIn K (.ref f40) = true)
    {f41 : Addr} {od41 an41 : Option Addr} {sl41 : Array (Option Value)} {oc41 kV41 dc41 pm41 cd41 ct41 : Value}
    (a41 : PySem.W.nsIn K mainGlobals "_law_pairs" = some (some (.ref f41))) (l41 : K.lookup f41 = some ⟨oc41, od41, .func (PySem.W.fnOf "_law_pairs" "_law_pairs" (defArgs s_pairs) (defBody s_pairs) (defScope s_pairs) .none kV41 dc41 pm41 an41 cd41 ct41), sl41⟩) (c41 : PySem.W.codeIn K cd41 "_law_pairs" = true) (k41 : PySem.W.keepIn K (.ref f41) = true)
    {f42 : Addr} {od42 an42 : Option Addr} {sl42 : Array (Option Value)} {oc42 kV42 dc42 pm42 cd42 ct42 : Value}
    (a42 : PySem.W.nsIn K mainGlobals "_law_drawn_web" = some (some (.ref f42))) (l42 : K.lookup f42 = some ⟨oc42, od42, .func (PySem.W.fnOf "_law_drawn_web" "_law_drawn_web" (defArgs s_drawn_web) (defBody s_drawn_web) (defScope s_drawn_web) .none kV42 dc42 pm42 an42 cd42 ct42), sl42⟩) (c42 : PySem.W.codeIn K cd42 "_law_drawn_web" = true) (k42 : PySem.W.keepIn K (.ref f42) = true)
    {f43 : Addr} {od43 an43 : Option Addr} {sl43 : Array (Option Value)} {oc43 kV43 dc43 pm43 cd43 ct43 : Value}
    (a43 : PySem.W.nsIn K mainGlobals "_law_drawn_sizes" = some (some (.ref f43))) (l43 : K.lookup f43 = some ⟨oc43, od43, .func (PySem.W.fnOf "_law_drawn_sizes" "_law_drawn_sizes" (defArgs s_drawn_sizes) (defBody s_drawn_sizes) (defScope s_drawn_sizes) .none kV43 dc43 pm43 an43 cd43 ct43), sl43⟩) (c43 : PySem.W.codeIn K cd43 "_law_drawn_sizes" = true) (k43 : PySem.W.keepIn K (.ref f43) = true)
    {f44 : Addr} {od44 an44 : Option Addr} {sl44 : Array (Option Value)} {oc44 kV44 dc44 pm44 cd44 ct44 : Value}
    (a44 : PySem.W.nsIn K mainGlobals "_law_tied" = some (some (.ref f44))) (l44 : K.lookup f44 = some ⟨oc44, od44, .func (PySem.W.fnOf "_law_tied" "_law_tied" (defArgs s_tied) (defBody s_tied) (defScope s_tied) .none kV44 dc44 pm44 an44 cd44 ct44), sl44⟩) (c44 : PySem.W.codeIn K cd44 "_law_tied" = true) (k44 : PySem.W.keepIn K (.ref f44) = true)
    {f45 : Addr} {od45 an45 : Option Addr} {sl45 : Array (Option Value)} {oc45 kV45 dc45 pm45 cd45 ct45 : Value}
    (a45 : PySem.W.nsIn K mainGlobals "_law_few_ties" = some (some (.ref f45))) (l45 : K.lookup f45 = some ⟨oc45, od45, .func (PySem.W.fnOf "_law_few_ties" "_law_few_ties" (defArgs s_few_ties) (defBody s_few_ties) (defScope s_few_ties) .none kV45 dc45 pm45 an45 cd45 ct45), sl45⟩) (c45 : PySem.W.codeIn K cd45 "_law_few_ties" = true) (k45 : PySem.W.keepIn K (.ref f45) = true)
    {f46 : Addr} {od46 an46 : Option Addr} {sl46 : Array (Option Value)} {oc46 kV46 dc46 pm46 cd46 ct46 : Value}
    (a46 : PySem.W.nsIn K mainGlobals "_law_put" = some (some (.ref f46))) (l46 : K.lookup f46 = some ⟨oc46, od46, .func (PySem.W.fnOf "_law_put" "_law_put" (defArgs s_put) (defBody s_put) (defScope s_put) .none kV46 dc46 pm46 an46 cd46 ct46), sl46⟩) (c46 : PySem.W.codeIn K cd46 "_law_put" = true) (k46 : PySem.W.keepIn K (.ref f46) = true)
    {f47 : Addr} {od47 an47 : Option Addr} {sl47 : Array (Option Value)} {oc47 kV47 dc47 pm47 cd47 ct47 : Value}
    (a47 : PySem.W.nsIn K mainGlobals "_law_product" = some (some (.ref f47))) (l47 : K.lookup f47 = some ⟨oc47, od47, .func (PySem.W.fnOf "_law_product" "_law_product" (defArgs s_product) (defBody s_product) (defScope s_product) .none kV47 dc47 pm47 an47 cd47 ct47), sl47⟩) (c47 : PySem.W.codeIn K cd47 "_law_product" = true) (k47 : PySem.W.keepIn K (.ref f47) = true)
    {tMOST_PLACES : Tok} (gMOST_PLACES : PySem.W.nsIn K mainGlobals "MOST_PLACES" = some (some (.int 6 tMOST_PLACES)))
    {tMOST_HUE : Tok} (gMOST_HUE : PySem.W.nsIn K mainGlobals "MOST_HUE" = some (some (.int 99 tMOST_HUE)))
    {tMOST_LONG : Tok} (gMOST_LONG : PySem.W.nsIn K mainGlobals "MOST_LONG" = some (some (.int 8 tMOST_LONG)))
    {tMOST_TIES : Tok} (gMOST_TIES : PySem.W.nsIn K mainGlobals "MOST_TIES" = some (some (.int 10 tMOST_TIES)))
    {tMOST_HERE : Tok} (gMOST_HERE : PySem.W.nsIn K mainGlobals "MOST_HERE" = some (some (.int 5 tMOST_HERE)))
    (zabs : PySem.W.nsIn K mainGlobals "abs" = some none)
    (zall : PySem.W.nsIn K mainGlobals "all" = some none)
    (zbool : PySem.W.nsIn K mainGlobals "bool" = some none)
    (zdict : PySem.W.nsIn K mainGlobals "dict" = some none)
    (zdivmod : PySem.W.nsIn K mainGlobals "divmod" = some none)
    (zint : PySem.W.nsIn K mainGlobals "int" = some none)
    (zisinstance : PySem.W.nsIn K mainGlobals "isinstance" = some none)
    (zlen : PySem.W.nsIn K mainGlobals "len" = some none)
    (zlist : PySem.W.nsIn K mainGlobals "list" = some none)
    (zmax : PySem.W.nsIn K mainGlobals "max" = some none)
    (zmin : PySem.W.nsIn K mainGlobals "min" = some none)
    (zrange : PySem.W.nsIn K mainGlobals "range" = some none)
    (zset : PySem.W.nsIn K mainGlobals "set" = some none)
    (zsorted : PySem.W.nsIn K mainGlobals "sorted" = some none)
    (zsum : PySem.W.nsIn K mainGlobals "sum" = some none)
    (ztuple : PySem.W.nsIn K mainGlobals "tuple" = some none)
    (zzip : PySem.W.nsIn K mainGlobals "zip" = some none)
    : TX K mg where
  d_is_from_nought := def_mk X G (ps := ["thing"]) (fun _ _ _ _ _ _ us hl => match us, hl with | [_], _ => rfl) a0 l0 c0 k0
  d_is_upto := def_mk X G (ps := ["thing", "least", "most"]) (fun _ _ _ _ _ _ us hl => match us, hl with | [_, _, _], _ => rfl) a1 l1 c1 k1
  d_is_tie := def_mk X G (ps := ["thing", "places"]) (fun _ _ _ _ _ _ us hl => match us, hl with | [_, _], _ => rfl) a2 l2 c2 k2
  d_rises := def_mk X G (ps := ["thing"]) (fun _ _ _ _ _ _ us hl => match us, hl with | [_], _ => rfl) a3 l3 c3 k3
  d_is_web := def_mk X G (ps := ["thing"]) (fun _ _ _ _ _ _ us hl => match us, hl with | [_], _ => rfl) a4 l4 c4 k4
  d_need_web := def_mk X G (ps := ["web"]) (fun _ _ _ _ _ _ us hl => match us, hl with | [_], _ => rfl) a5 l5 c5 k5
  d_is_list := def_mk X G (ps := ["thing"]) (fun _ _ _ _ _ _ us hl => match us, hl with | [_], _ => rfl) a6 l6 c6 k6
  d_are_lists_of := def_mk X G (ps := ["thing", "web"]) (fun _ _ _ _ _ _ us hl => match us, hl with | [_, _], _ => rfl) a7 l7 c7 k7
  d_need_lists := def_mk X G (ps := ["web", "lists"]) (fun _ _ _ _ _ _ us hl => match us, hl with | [_, _], _ => rfl) a8 l8 c8 k8
  d_are_sizes := def_mk X G (ps := ["thing", "web"]) (fun _ _ _ _ _ _ us hl => match us, hl with | [_, _], _ => rfl) a9 l9 c9 k9
  d_need_sizes := def_mk X G (ps := ["web", "sizes"]) (fun _ _ _ _ _ _ us hl => match us, hl with | [_, _], _ => rfl) a10 l10 c10 k10
  d_tied_to := def_mk X G (ps := ["web", "place"]) (fun _ _ _ _ _ _ us hl => match us, hl with | [_, _], _ => rfl) a11 l11 c11 k11
  d_need_few := def_mk X G (ps := ["web"]) (fun _ _ _ _ _ _ us hl => match us, hl with | [_], _ => rfl) a12 l12 c12 k12
  d_raised := def_mk X G (ps := ["powers", "place"]) (fun _ _ _ _ _ _ us hl => match us, hl with | [_, _], _ => rfl) a13 l13 c13 k13
  d_terms_of := def_mk X G (ps := ["web"]) (fun _ _ _ _ _ _ us hl => match us, hl with | [_], _ => rfl) a14 l14 c14 k14
  d_terms := def_mk X G (ps := ["web"]) (fun _ _ _ _ _ _ us hl => match us, hl with | [_], _ => rfl) a15 l15 c15 k15
  d_are_powers := def_mk X G (ps := ["thing", "web"]) (fun _ _ _ _ _ _ us hl => match us, hl with | [_, _], _ => rfl) a16 l16 c16 k16
  d_need_powers := def_mk X G (ps := ["web", "powers"]) (fun _ _ _ _ _ _ us hl => match us, hl with | [_, _], _ => rfl) a17 l17 c17 k17
  d_term := def_mk X G (ps := ["web", "powers"]) (fun _ _ _ _ _ _ us hl => match us, hl with | [_, _], _ => rfl) a18 l18 c18 k18
  d_lesser := def_mk X G (ps := ["powers", "sizes"]) (fun _ _ _ _ _ _ us hl => match us, hl with | [_, _], _ => rfl) a19 l19 c19 k19
  d_is_term_paper := def_mk X G (ps := ["thing", "web", "sizes"]) (fun _ _ _ _ _ _ us hl => match us, hl with | [_, _, _], _ => rfl) a20 l20 c20 k20
  d_term_for := def_mk X G (ps := ["web", "sizes"]) (fun _ _ _ _ _ _ us hl => match us, hl with | [_, _], _ => rfl) a21 l21 c21 k21
  d_runs_many := def_mk X G (ps := ["web", "powers"]) (fun _ _ _ _ _ _ us hl => match us, hl with | [_, _], _ => rfl) a22 l22 c22 k22
  d_fits := def_mk X G (ps := ["web", "begun", "hue"]) (fun _ _ _ _ _ _ us hl => match us, hl with | [_, _, _], _ => rfl) a23 l23 c23 k23
  d_many_of := def_mk X G (ps := ["web", "lists", "begun"]) (fun _ _ _ _ _ _ us hl => match us, hl with | [_, _, _], _ => rfl) a24 l24 c24 k24
  d_first_of := def_mk X G (ps := ["web", "lists"]) (fun _ _ _ _ _ _ us hl => match us, hl with | [_, _], _ => rfl) a25 l25 c25 k25
  d_first_choice := def_mk X G (ps := ["web", "lists"]) (fun _ _ _ _ _ _ us hl => match us, hl with | [_, _], _ => rfl) a26 l26 c26 k26
  d_peeled := def_mk X G (ps := ["web", "sizes"]) (fun _ _ _ _ _ _ us hl => match us, hl with | [_, _], _ => rfl) a27 l27 c27 k27
  d_order_for := def_mk X G (ps := ["web", "sizes"]) (fun _ _ _ _ _ _ us hl => match us, hl with | [_, _], _ => rfl) a28 l28 c28 k28
  d_need_small := def_mk X G (ps := ["web"]) (fun _ _ _ _ _ _ us hl => match us, hl with | [_], _ => rfl) a29 l29 c29 k29
  d_sets_of := def_mk X G (ps := ["many", "size"]) (fun _ _ _ _ _ _ us hl => match us, hl with | [_, _], _ => rfl) a30 l30 c30 k30
  d_part_web := def_mk X G (ps := ["web", "places"]) (fun _ _ _ _ _ _ us hl => match us, hl with | [_, _], _ => rfl) a31 l31 c31 k31
  d_bar_here := def_mk X G (ps := ["web", "sizes", "lists"]) (fun _ _ _ _ _ _ us hl => match us, hl with | [_, _, _], _ => rfl) a32 l32 c32 k32
  d_bar_of := def_mk X G (ps := ["web", "sizes"]) (fun _ _ _ _ _ _ us hl => match us, hl with | [_, _], _ => rfl) a33 l33 c33 k33
  d_need_asked := def_mk X G (ps := ["web", "sizes"]) (fun _ _ _ _ _ _ us hl => match us, hl with | [_, _], _ => rfl) a34 l34 c34 k34
  d_always := def_mk X G (ps := ["web", "sizes"]) (fun _ _ _ _ _ _ us hl => match us, hl with | [_, _], _ => rfl) a35 l35 c35 k35
  d_bar_for := def_mk X G (ps := ["web", "sizes"]) (fun _ _ _ _ _ _ us hl => match us, hl with | [_, _], _ => rfl) a36 l36 c36 k36
  d_cell := def_mk X G (ps := ["_law_script", "_law_k"]) (fun _ _ _ _ _ _ us hl => match us, hl with | [_, _], _ => rfl) a37 l37 c37 k37
  d_mix := def_mk X G (ps := ["_law_cell_here", "_law_k"]) (fun _ _ _ _ _ _ us hl => match us, hl with | [_, _], _ => rfl) a38 l38 c38 k38
  d_box := def_mk X G (ps := ["_law_script", "_law_k"]) (fun _ _ _ _ _ _ us hl => match us, hl with | [_, _], _ => rfl) a39 l39 c39 k39
  d_take := def_mk X G (ps := ["_law_box_here", "_law_many"]) (fun _ _ _ _ _ _ us hl => match us, hl with | [_, _], _ => rfl) a40 l40 c40 k40
  d_pairs := def_mk X G (ps := ["_law_many"]) (fun _ _ _ _ _ _ us hl => match us, hl with | [_], _ => rfl) a41 l41 c41 k41
  d_drawn_web := def_mk X G (ps := ["_law_box_here", "_law_most"]) (fun _ _ _ _ _ _ us hl => match us, hl with | [_, _], _ => rfl) a42 l42 c42 k42
  d_drawn_sizes := def_mk X G (ps := ["_law_box_here", "_law_web", "_law_most"]) (fun _ _ _ _ _ _ us hl => match us, hl with | [_, _, _], _ => rfl) a43 l43 c43 k43
  d_tied := def_mk X G (ps := ["_law_web", "_law_place"]) (fun _ _ _ _ _ _ us hl => match us, hl with | [_, _], _ => rfl) a44 l44 c44 k44
  d_few_ties := def_mk X G (ps := ["_law_web"]) (fun _ _ _ _ _ _ us hl => match us, hl with | [_], _ => rfl) a45 l45 c45 k45
  d_put := def_mk X G (ps := ["_law_told", "_law_numbers"]) (fun _ _ _ _ _ _ us hl => match us, hl with | [_, _], _ => rfl) a46 l46 c46 k46
  d_product := def_mk X G (ps := ["_law_web", "_law_numbers"]) (fun _ _ _ _ _ _ us hl => match us, hl with | [_, _], _ => rfl) a47 l47 c47 k47
  c_MOST_PLACES := ⟨_, PySem.W.mg_of X G gMOST_PLACES⟩
  c_MOST_HUE := ⟨_, PySem.W.mg_of X G gMOST_HUE⟩
  c_MOST_LONG := ⟨_, PySem.W.mg_of X G gMOST_LONG⟩
  c_MOST_TIES := ⟨_, PySem.W.mg_of X G gMOST_TIES⟩
  c_MOST_HERE := ⟨_, PySem.W.mg_of X G gMOST_HERE⟩
  b_abs := PySem.W.mg_none_of X G zabs
  b_all := PySem.W.mg_none_of X G zall
  b_bool := PySem.W.mg_none_of X G zbool
  b_dict := PySem.W.mg_none_of X G zdict
  b_divmod := PySem.W.mg_none_of X G zdivmod
  b_int := PySem.W.mg_none_of X G zint
  b_isinstance := PySem.W.mg_none_of X G zisinstance
  b_len := PySem.W.mg_none_of X G zlen
  b_list := PySem.W.mg_none_of X G zlist
  b_max := PySem.W.mg_none_of X G zmax
  b_min := PySem.W.mg_none_of X G zmin
  b_range := PySem.W.mg_none_of X G zrange
  b_set := PySem.W.mg_none_of X G zset
  b_sorted := PySem.W.mg_none_of X G zsorted
  b_sum := PySem.W.mg_none_of X G zsum
  b_tuple := PySem.W.mg_none_of X G ztuple
  b_zip := PySem.W.mg_none_of X G zzip
end HL
open PySem PySem.W PyProof.Rows
set_option maxHeartbeats 0 in
theorem PySem.Challenge.cw_huelists_k35_whole_terms_holds : PySem.Challenge.rw_huelists_k35_whole_terms.Holds := by
  w_on; o_law; k_head; (case hw => w_witness2)
  k_fill
  refine L2.walk_of (l := PySem.Challenge.rw_huelists_k35_whole_terms) (n := 63) (k := 18) (x := "_law_script") (CX := fun _ => L2.CX0) (sp := fun w => HL.spLaw _) rfl (by decide) rfl ⟨rfl, by decide, by decide⟩ (fun w h Y => PySem.W.kIn_of Y) ?F (fun _ _ a ns hl _ hS => ⟨a, ns, rfl, hS, hl, fun _ => rfl⟩) (fun _ _ _ _ _ h => h)
  case F =>
    intro w mg fa h KX G hmg
    refine' HL.law_mk KX G hmg (HL.tx_mk KX G ?a0 ?l0 ?c0 ?k0 ?a1 ?l1 ?c1 ?k1 ?a2 ?l2 ?c2 ?k2 ?a3 ?l3 ?c3 ?k3 ?a4 ?l4 ?c4 ?k4 ?a5 ?l5 ?c5 ?k5 ?a6 ?l6 ?c6 ?k6 ?a7 ?l7 ?c7 ?k7 ?a8 ?l8 ?c8 ?k8 ?a9 ?l9 ?c9 ?k9 ?a10 ?l10 ?c10 ?k10 ?a11 ?l11 ?c11 ?k11 ?a12 ?l12 ?c12 ?k12 ?a13 ?l13 ?c13 ?k13 ?a14 ?l14 ?c14 ?k14 ?a15 ?l15 ?c15 ?k15 ?a16 ?l16 ?c16 ?k16 ?a17 ?l17 ?c17 ?k17 ?a18 ?l18 ?c18 ?k18 ?a19 ?l19 ?c19 ?k19 ?a20 ?l20 ?c20 ?k20 ?a21 ?l21 ?c21 ?k21 ?a22 ?l22 ?c22 ?k22 ?a23 ?l23 ?c23 ?k23 ?a24 ?l24 ?c24 ?k24 ?a25 ?l25 ?c25 ?k25 ?a26 ?l26 ?c26 ?k26 ?a27 ?l27 ?c27 ?k27 ?a28 ?l28 ?c28 ?k28 ?a29 ?l29 ?c29 ?k29 ?a30 ?l30 ?c30 ?k30 ?a31 ?l31 ?c31 ?k31 ?a32 ?l32 ?c32 ?k32 ?a33 ?l33 ?c33 ?k33 ?a34 ?l34 ?c34 ?k34 ?a35 ?l35 ?c35 ?k35 ?a36 ?l36 ?c36 ?k36 ?a37 ?l37 ?c37 ?k37 ?a38 ?l38 ?c38 ?k38 ?a39 ?l39 ?c39 ?k39 ?a40 ?l40 ?c40 ?k40 ?a41 ?l41 ?c41 ?k41 ?a42 ?l42 ?c42 ?k42 ?a43 ?l43 ?c43 ?k43 ?a44 ?l44 ?c44 ?k44 ?a45 ?l45 ?c45 ?k45 ?a46 ?l46 ?c46 ?k46 ?a47 ?l47 ?c47 ?k47 ?gMOST_PLACES ?gMOST_HUE ?gMOST_LONG ?gMOST_TIES ?gMOST_HERE ?zabs ?zall ?zbool ?zdict ?zdivmod ?zint ?zisinstance ?zlen ?zlist ?zmax ?zmin ?zrange ?zset ?zsorted ?zsum ?ztuple ?zzip) ?a2' ?l2' ?c2' ?k2'
    (case a2' => k_is); (case l2' => k_is); (case c2' => k_is); (case k2' => k_is)
    (case a0 => k_is)
    (case l0 => k_is)
    (case c0 => k_is)
    (case k0 => k_is)
    (case a1 => k_is)
    (case l1 => k_is)
    (case c1 => k_is)
    (case k1 => k_is)
    (case a2 => k_is)
    (case l2 => k_is)
    (case c2 => k_is)
    (case k2 => k_is)
    (case a3 => k_is)
    (case l3 => k_is)
    (case c3 => k_is)
    (case k3 => k_is)
    (case a4 => k_is)
    (case l4 => k_is)
    (case c4 => k_is)
    (case k4 => k_is)
    (case a5 => k_is)
    (case l5 => k_is)
    (case c5 => k_is)
    (case k5 => k_is)
    (case a6 => k_is)
    (case l6 => k_is)
    (case c6 => k_is)
    (case k6 => k_is)
    (case a7 => k_is)
    (case l7 => k_is)
    (case c7 => k_is)
    (case k7 => k_is)
    (case a8 => k_is)
    (case l8 => k_is)
    (case c8 => k_is)
    (case k8 => k_is)
    (case a9 => k_is)
    (case l9 => k_is)
    (case c9 => k_is)
    (case k9 => k_is)
    (case a10 => k_is)
    (case l10 => k_is)
    (case c10 => k_is)
    (case k10 => k_is)
    (case a11 => k_is)
    (case l11 => k_is)
    (case c11 => k_is)
    (case k11 => k_is)
    (case a12 => k_is)
    (case l12 => k_is)
    (case c12 => k_is)
    (case k12 => k_is)
    (case a13 => k_is)
    (case l13 => k_is)
    (case c13 => k_is)
    (case k13 => k_is)
    (case a14 => k_is)
    (case l14 => k_is)
    (case c14 => k_is)
    (case k14 => k_is)
    (case a15 => k_is)
    (case l15 => k_is)
    (case c15 => k_is)
    (case k15 => k_is)
    (case a16 => k_is)
    (case l16 => k_is)
    (case c16 => k_is)
    (case k16 => k_is)
    (case a17 => k_is)
    (case l17 => k_is)
    (case c17 => k_is)
    (case k17 => k_is)
    (case a18 => k_is)
    (case l18 => k_is)
    (case c18 => k_is)
    (case k18 => k_is)
    (case a19 => k_is)
    (case l19 => k_is)
    (case c19 => k_is)
    (case k19 => k_is)
    (case a20 => k_is)
    (case l20 => k_is)
    (case c20 => k_is)
    (case k20 => k_is)
    (case a21 => k_is)
    (case l21 => k_is)
    (case c21 => k_is)
    (case k21 => k_is)
    (case a22 => k_is)
    (case l22 => k_is)
    (case c22 => k_is)
    (case k22 => k_is)
    (case a23 => k_is)
    (case l23 => k_is)
    (case c23 => k_is)
    (case k23 => k_is)
    (case a24 => k_is)
    (case l24 => k_is)
    (case c24 => k_is)
    (case k24 => k_is)
    (case a25 => k_is)
    (case l25 => k_is)
    (case c25 => k_is)
    (case k25 => k_is)
    (case a26 => k_is)
    (case l26 => k_is)
    (case c26 => k_is)
    (case k26 => k_is)
    (case a27 => k_is)
    (case l27 => k_is)
    (case c27 => k_is)
    (case k27 => k_is)
    (case a28 => k_is)
    (case l28 => k_is)
    (case c28 => k_is)
    (case k28 => k_is)
    (case a29 => k_is)
    (case l29 => k_is)
    (case c29 => k_is)
    (case k29 => k_is)
    (case a30 => k_is)
    (case l30 => k_is)
    (case c30 => k_is)
    (case k30 => k_is)
    (case a31 => k_is)
    (case l31 => k_is)
    (case c31 => k_is)
    (case k31 => k_is)
    (case a32 => k_is)
    (case l32 => k_is)
    (case c32 => k_is)
    (case k32 => k_is)
    (case a33 => k_is)
    (case l33 => k_is)
    (case c33 => k_is)
    (case k33 => k_is)
    (case a34 => k_is)
    (case l34 => k_is)
    (case c34 => k_is)
    (case k34 => k_is)
    (case a35 => k_is)
    (case l35 => k_is)
    (case c35 => k_is)
    (case k35 => k_is)
    (case a36 => k_is)
    (case l36 => k_is)
    (case c36 => k_is)
    (case k36 => k_is)
    (case a37 => k_is)
    (case l37 => k_is)
    (case c37 => k_is)
    (case k37 => k_is)
    (case a38 => k_is)
    (case l38 => k_is)
    (case c38 => k_is)
    (case k38 => k_is)
    (case a39 => k_is)
    (case l39 => k_is)
    (case c39 => k_is)
    (case k39 => k_is)
    (case a40 => k_is)
    (case l40 => k_is)
    (case c40 => k_is)
    (case k40 => k_is)
    (case a41 => k_is)
    (case l41 => k_is)
    (case c41 => k_is)
    (case k41 => k_is)
    (case a42 => k_is)
    (case l42 => k_is)
    (case c42 => k_is)
    (case k42 => k_is)
    (case a43 => k_is)
    (case l43 => k_is)
    (case c43 => k_is)
    (case k43 => k_is)
    (case a44 => k_is)
    (case l44 => k_is)
    (case c44 => k_is)
    (case k44 => k_is)
    (case a45 => k_is)
    (case l45 => k_is)
    (case c45 => k_is)
    (case k45 => k_is)
    (case a46 => k_is)
    (case l46 => k_is)
    (case c46 => k_is)
    (case k46 => k_is)
    (case a47 => k_is)
    (case l47 => k_is)
    (case c47 => k_is)
    (case k47 => k_is)
    (case gMOST_PLACES => k_is)
    (case gMOST_HUE => k_is)
    (case gMOST_LONG => k_is)
    (case gMOST_TIES => k_is)
    (case gMOST_HERE => k_is)
    (case zabs => k_is)
    (case zall => k_is)
    (case zbool => k_is)
    (case zdict => k_is)
    (case zdivmod => k_is)
    (case zint => k_is)
    (case zisinstance => k_is)
    (case zlen => k_is)
    (case zlist => k_is)
    (case zmax => k_is)
    (case zmin => k_is)
    (case zrange => k_is)
    (case zset => k_is)
    (case zsorted => k_is)
    (case zsum => k_is)
    (case ztuple => k_is)
    (case zzip => k_is)

