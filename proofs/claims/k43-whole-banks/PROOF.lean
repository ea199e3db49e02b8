import PyProof.Rows.All
import Wide.All
import OpenK.AllK
import Wide.FinOn
import PySem.Challenge.RW_doublepay_k43_whole_banks
import HandS.ForMost
import HandS.IsInst
import HandS.TupAny
import HandS.TupMul
import HandS.Zip
import HandS.Walk
import HandS.Style
import HandS.DictTup
import KE.GoesEnum
import KE.KDictWalk
import KE.KDictDisplayH
set_option linter.all false
set_option maxRecDepth 10000
/-! Plain mathematics of coins, words and counts: no program in sight. -/
namespace Dp

/-- the coins behind a round, debts let -/
def owed (f : Int) (ns : List Int) (p : Nat) : List Int :=
  (ns.map fun x => f * x).set p (f * ns.getD p 0 - (f - 1) * ns.sum)

theorem owed_length (f : Int) (ns : List Int) (p : Nat) : (owed f ns p).length = ns.length := by
  unfold owed; simp

/-- nobody but the bank owes -/
def ok (b : Nat) (ns : List Int) : Bool := (List.range ns.length).all fun k => k == b || decide (0 ≤ ns.getD k 0)

theorem ok_iff {b : Nat} {ns : List Int} : ok b ns = true ↔ ∀ k, k < ns.length → k = b ∨ 0 ≤ ns.getD k 0 := by
  unfold ok
  rw [List.all_eq_true]
  constructor
  · intro h k hk
    have := h k (List.mem_range.mpr hk)
    simpa using this
  · intro h k hk
    have := h k (List.mem_range.mp hk)
    simpa using this

theorem owed_at {f : Int} {ns : List Int} {p k : Nat} (hp : p < ns.length) (hk : k < ns.length) :
    (owed f ns p).getD k 0 = if k = p then f * ns.getD p 0 - (f - 1) * ns.sum else f * ns.getD k 0 := by
  unfold owed
  rw [List.getD_eq_getElem?_getD]
  by_cases e : k = p
  · subst e
    rw [if_pos rfl, List.getElem?_set_self (by simpa using hk)]
    rfl
  · rw [if_neg e, List.getElem?_set_ne (Ne.symm e), List.getElem?_map, List.getD_eq_getElem?_getD, List.getElem?_eq_getElem hk]
    rfl

theorem ok_owed {f : Int} {b p : Nat} {ns : List Int} (hf : 0 ≤ f) (hp : p < ns.length) (h : ok b ns = true) :
    ok b (owed f ns p) = (p == b || decide (0 ≤ (owed f ns p).getD p 0)) := by
  rw [Bool.eq_iff_iff, ok_iff]
  simp only [Bool.or_eq_true, beq_iff_eq, decide_eq_true_eq, owed_length]
  constructor
  · intro q
    exact q p hp
  · intro q k hk
    by_cases e : k = p
    · subst e; exact q
    · rw [owed_at hp hk, if_neg e]
      rcases ok_iff.mp h k hk with z | z
      · exact .inl z
      · exact .inr (Int.mul_nonneg hf z)

/-- the words of m rounds that are let, each with the coins behind it -/
def next (f : Int) (b : Nat) (n : Nat) (wc : List Int × List Int) : List (List Int × List Int) :=
  (List.range n).filterMap fun p => if ok b (owed f wc.2 p) = true then some (wc.1 ++ [(p : Int)], owed f wc.2 p) else none
def lets (f : Int) (b : Nat) (ns : List Int) : Nat → List (List Int × List Int)
  | 0 => [([], ns)]
  | m + 1 => (lets f b ns m).flatMap (next f b ns.length)
def ends (f : Int) (b : Nat) (ns : List Int) (m : Nat) : List (List Int) := (lets f b ns m).map (·.2)
def words (f : Int) (b : Nat) (ns : List Int) (m : Nat) : List (List Int) := (lets f b ns m).map (·.1)

theorem mem_next {f : Int} {b n : Nat} {wc wd : List Int × List Int} (h : wd ∈ next f b n wc) : ∃ p, p < n ∧ ok b (owed f wc.2 p) = true ∧ wd = (wc.1 ++ [(p : Int)], owed f wc.2 p) := by
  unfold next at h
  obtain ⟨p, hp, e⟩ := List.mem_filterMap.mp h
  refine ⟨p, List.mem_range.mp hp, ?_⟩
  split at e
  · rename_i q
    exact ⟨q, (Option.some.inj e).symm⟩
  · cases e

theorem lets_length {f : Int} {b : Nat} {ns : List Int} : ∀ {m : Nat} {wc : List Int × List Int}, wc ∈ lets f b ns m → wc.2.length = ns.length ∧ wc.1.length = m
  | 0, wc, h => by
    have e : wc = ([], ns) := by simpa [lets] using h
    subst e
    exact ⟨rfl, rfl⟩
  | m + 1, wc, h => by
    obtain ⟨x, hx, hy⟩ := List.mem_flatMap.mp (show wc ∈ (lets f b ns m).flatMap (next f b ns.length) from h)
    obtain ⟨p, hp, _, e⟩ := mem_next hy
    obtain ⟨i1, i2⟩ := lets_length hx
    subst e
    exact ⟨(owed_length _ _ _).trans i1, by simp [i2]⟩

theorem lets_ok {f : Int} {b : Nat} {ns : List Int} (h0 : ok b ns = true) : ∀ {m : Nat} {wc : List Int × List Int}, wc ∈ lets f b ns m → ok b wc.2 = true
  | 0, wc, h => by
    have e : wc = ([], ns) := by simpa [lets] using h
    subst e
    exact h0
  | m + 1, wc, h => by
    obtain ⟨x, hx, hy⟩ := List.mem_flatMap.mp (show wc ∈ (lets f b ns m).flatMap (next f b ns.length) from h)
    obtain ⟨p, hp, q, e⟩ := mem_next hy
    subst e
    exact q

theorem next_len (f : Int) (b n : Nat) (wc : List Int × List Int) : (next f b n wc).length ≤ n := by
  unfold next
  exact Nat.le_trans (List.length_filterMap_le _ _) (by simp)

theorem flatMap_len {α β : Type} (g : α → List β) (n : Nat) (h : ∀ x, (g x).length ≤ n) : ∀ l : List α, (l.flatMap g).length ≤ l.length * n
  | [] => by simp
  | x :: r => by
    rw [List.flatMap_cons, List.length_append, List.length_cons, Nat.succ_mul]
    have := flatMap_len g n h r
    have := h x
    omega

theorem lets_count (f : Int) (b : Nat) (ns : List Int) : ∀ m, (lets f b ns m).length ≤ ns.length ^ m
  | 0 => by simp [lets]
  | m + 1 => by
    have := flatMap_len (next f b ns.length) ns.length (next_len f b ns.length) (lets f b ns m)
    show ((lets f b ns m).flatMap (next f b ns.length)).length ≤ _
    refine Nat.le_trans this ?_
    rw [Nat.pow_succ]
    exact Nat.mul_le_mul_right _ (lets_count f b ns m)

theorem lets_ne {f : Int} {b : Nat} {ns : List Int} (hf : 0 ≤ f) (hb : b < ns.length) (h0 : ok b ns = true) : ∀ m, lets f b ns m ≠ []
  | 0 => by simp [lets]
  | m + 1 => by
    intro e
    have ih := lets_ne hf hb h0 m
    cases q : lets f b ns m with
    | nil => exact ih q
    | cons x r =>
      have hx : x ∈ lets f b ns m := by rw [q]; exact List.mem_cons_self
      have hl := (lets_length hx).1
      have hok := lets_ok h0 hx
      have hm : (x.1 ++ [(b : Int)], owed f x.2 b) ∈ next f b ns.length x := by
        unfold next
        refine List.mem_filterMap.mpr ⟨b, List.mem_range.mpr hb, ?_⟩
        rw [if_pos]
        rw [ok_owed hf (by omega) hok]
        simp
      have : (x.1 ++ [(b : Int)], owed f x.2 b) ∈ lets f b ns (m + 1) := List.mem_flatMap.mpr ⟨x, hx, hm⟩
      rw [e] at this
      cases this

/-! ### counts by coins -/
def wsum (rows : List (List Int × Int)) (g : List Int → Int) : Int := (rows.map fun p => p.2 * g p.1).sum
/-- rows weighs each coins as G says -/
structure Acc (rows : List (List Int × Int)) (G : (List Int → Int) → Int) : Prop where
  nodup : (rows.map (·.1)).Nodup
  pos : ∀ p ∈ rows, 1 ≤ p.2
  all : ∀ g : List Int → Int, wsum rows g = G g
/-- rows tells how often each coins stand in es -/
abbrev Counts (rows : List (List Int × Int)) (es : List (List Int)) : Prop := Acc rows fun g => (es.map g).sum

/-- what a key holds, 0 where it is not there -/
def look (rows : List (List Int × Int)) (k : List Int) : Int := ((rows.find? fun p => decide (p.1 = k)).map (·.2)).getD 0
def has (rows : List (List Int × Int)) (k : List Int) : Bool := rows.any fun p => decide (p.1 = k)
def put (rows : List (List Int × Int)) (k : List Int) (v : Int) : List (List Int × Int) :=
  if has rows k then rows.map fun p => if p.1 = k then (p.1, v) else p else rows ++ [(k, v)]

theorem wsum_cons (p : List Int × Int) (r : List (List Int × Int)) (g : List Int → Int) : wsum (p :: r) g = p.2 * g p.1 + wsum r g := by
  unfold wsum; rw [List.map_cons, List.sum_cons]
theorem wsum_app (r s : List (List Int × Int)) (g : List Int → Int) : wsum (r ++ s) g = wsum r g + wsum s g := by
  unfold wsum; rw [List.map_append, List.sum_append]

theorem not_has {rows : List (List Int × Int)} {k : List Int} (h : k ∉ rows.map (·.1)) : rows.map (fun p => if p.1 = k then (p.1, (0 : Int)) else p) = rows := by
  induction rows with
  | nil => rfl
  | cons p r ih =>
    simp only [List.map_cons, List.mem_cons, not_or] at h
    rw [List.map_cons, if_neg (fun e => h.1 e.symm), ih h.2]

theorem map_keep {rows : List (List Int × Int)} {k : List Int} (v : Int) (h : k ∉ rows.map (·.1)) : rows.map (fun p => if p.1 = k then (p.1, v) else p) = rows := by
  induction rows with
  | nil => rfl
  | cons p r ih =>
    simp only [List.map_cons, List.mem_cons, not_or] at h
    rw [List.map_cons, if_neg (fun e => h.1 e.symm), ih h.2]

theorem wsum_set {k : List Int} {d : Int} {g : List Int → Int} : ∀ {rows : List (List Int × Int)}, (rows.map (·.1)).Nodup → has rows k = true →
    wsum (rows.map fun p => if p.1 = k then (p.1, look rows k + d) else p) g = wsum rows g + d * g k
  | [], _, h => by simp [has] at h
  | p :: r, nd, h => by
    rw [List.map_cons, List.nodup_cons] at nd
    by_cases e : p.1 = k
    · have nk : k ∉ r.map (·.1) := e ▸ nd.1
      have hl : look (p :: r) k = p.2 := by simp [look, List.find?_cons, e]
      rw [hl, List.map_cons, if_pos e, map_keep _ nk, wsum_cons, wsum_cons, e, Int.add_mul]
      omega
    · have hh : has r k = true := by
        simp only [has, List.any_cons, Bool.or_eq_true, decide_eq_true_eq] at h ⊢
        rcases h with h | h
        · exact absurd h e
        · exact h
      have hl : look (p :: r) k = look r k := by simp [look, List.find?_cons, e]
      rw [hl, List.map_cons, if_neg e, wsum_cons, wsum_cons, wsum_set nd.2 hh]
      omega

theorem look_none {rows : List (List Int × Int)} {k : List Int} (h : has rows k = false) : look rows k = 0 := by
  have : rows.find? (fun p => decide (p.1 = k)) = none := by
    rw [List.find?_eq_none]
    intro p hp hq
    have : has rows k = true := List.any_eq_true.mpr ⟨p, hp, hq⟩
    rw [h] at this; cases this
  simp [look, this]

theorem wsum_put {rows : List (List Int × Int)} {k : List Int} {d : Int} {g : List Int → Int} (nd : (rows.map (·.1)).Nodup) :
    wsum (put rows k (look rows k + d)) g = wsum rows g + d * g k := by
  unfold put
  cases h : has rows k with
  | true => rw [if_pos rfl]; exact wsum_set nd h
  | false =>
    rw [if_neg Bool.false_ne_true, wsum_app, look_none h]
    unfold wsum
    simp

theorem keys_put (rows : List (List Int × Int)) (k : List Int) (v : Int) : (put rows k v).map (·.1) = if has rows k then rows.map (·.1) else rows.map (·.1) ++ [k] := by
  unfold put
  cases h : has rows k with
  | true =>
    simp only [if_true, List.map_map]
    refine List.map_congr_left fun p _ => ?_
    show (if p.1 = k then (p.1, v) else p).1 = p.1
    split <;> rfl
  | false => simp

theorem has_mem {rows : List (List Int × Int)} {k : List Int} : has rows k = true ↔ k ∈ rows.map (·.1) := by
  simp [has, List.any_eq_true]

theorem nodup_put {rows : List (List Int × Int)} {k : List Int} {v : Int} (nd : (rows.map (·.1)).Nodup) : ((put rows k v).map (·.1)).Nodup := by
  rw [keys_put]
  cases h : has rows k with
  | true => simpa using nd
  | false =>
    simp only [Bool.false_eq_true, if_false]
    rw [List.nodup_append]
    refine ⟨nd, by simp, ?_⟩
    intro a ha b hb
    have e : b = k := by simpa using hb
    subst e
    rintro rfl
    have := has_mem.mpr ha
    rw [h] at this; cases this

theorem look_pos {rows : List (List Int × Int)} (h : ∀ p ∈ rows, (1 : Int) ≤ p.2) (k : List Int) : 0 ≤ look rows k := by
  unfold look
  cases e : rows.find? (fun p => decide (p.1 = k)) with
  | none => simp
  | some p =>
    have := h p (List.mem_of_find?_eq_some e)
    simp
    omega

theorem pos_put {rows : List (List Int × Int)} {k : List Int} {v : Int} (h : ∀ p ∈ rows, (1 : Int) ≤ p.2) (hv : 1 ≤ v) : ∀ p ∈ put rows k v, (1 : Int) ≤ p.2 := by
  intro p hp
  unfold put at hp
  split at hp
  · obtain ⟨q, hq, e⟩ := List.mem_map.mp hp
    split at e
    · subst e; exact hv
    · subst e; exact h q hq
  · rcases List.mem_append.mp hp with hp | hp
    · exact h p hp
    · have e : p = (k, v) := by simpa using hp
      subst e; exact hv

theorem put_length (rows : List (List Int × Int)) (k : List Int) (v : Int) : (put rows k v).length ≤ rows.length + 1 := by
  unfold put
  split <;> simp

theorem Counts.one (ns : List Int) : Counts [(ns, 1)] [ns] :=
  ⟨by simp, by simp, fun g => by simp [wsum]⟩
theorem Acc.nil : Acc [] fun _ => 0 := ⟨by simp, by simp, fun g => by simp [wsum]⟩

theorem map_const_sum {α : Type} (c : Int) : ∀ l : List α, (l.map fun _ => c).sum = (l.length : Int) * c
  | [] => by simp
  | _ :: r => by
    rw [List.map_cons, List.sum_cons, map_const_sum c r, List.length_cons]
    have e : ((r.length + 1 : Nat) : Int) = (r.length : Int) + 1 := by omega
    rw [e, Int.add_mul]
    omega

/-- n more of k come to it -/
theorem Acc.add {rows : List (List Int × Int)} {G : (List Int → Int) → Int} {k : List Int} {n : Int} (c : Acc rows G) (hn : 1 ≤ n) :
    Acc (put rows k (look rows k + n)) (fun g => G g + n * g k) where
  nodup := nodup_put c.nodup
  pos := pos_put c.pos (by have := look_pos c.pos k; omega)
  all := fun g => by rw [wsum_put c.nodup, c.all g]
theorem Acc.eq {rows : List (List Int × Int)} {G G' : (List Int → Int) → Int} (c : Acc rows G) (h : ∀ g, G g = G' g) : Acc rows G' :=
  ⟨c.nodup, c.pos, fun g => (c.all g).trans (h g)⟩

theorem Counts.total {rows : List (List Int × Int)} {es : List (List Int)} (c : Counts rows es) : (rows.map (·.2)).sum = (es.length : Int) := by
  have := c.all fun _ => 1
  unfold wsum at this
  simp only [Int.mul_one] at this
  rw [this, map_const_sum]
  omega

theorem sum_nonneg {l : List Int} (h : ∀ x ∈ l, 0 ≤ x) : 0 ≤ l.sum := by
  induction l with
  | nil => simp
  | cons a r ih =>
    rw [List.sum_cons]
    have := h a (List.mem_cons_self)
    have := ih fun x hx => h x (List.mem_cons_of_mem _ hx)
    omega
theorem le_sum {l : List Int} (h : ∀ x ∈ l, 0 ≤ x) {y : Int} (hy : y ∈ l) : y ≤ l.sum := by
  induction l with
  | nil => cases hy
  | cons a r ih =>
    rw [List.sum_cons]
    have h1 := h a (List.mem_cons_self)
    have h2 := sum_nonneg fun x hx => h x (List.mem_cons_of_mem _ hx)
    rcases List.mem_cons.mp hy with e | hy
    · subst e; omega
    · have := ih (fun x hx => h x (List.mem_cons_of_mem _ hx)) hy
      omega

theorem Counts.mem {rows : List (List Int × Int)} {es : List (List Int)} (c : Counts rows es) (k : List Int) : k ∈ rows.map (·.1) ↔ k ∈ es := by
  have := c.all fun x => if x = k then 1 else 0
  constructor
  · intro h
    obtain ⟨p, hp, e⟩ := List.mem_map.mp h
    have h1 : (1 : Int) ≤ (rows.map fun p => p.2 * (if p.1 = k then 1 else 0)).sum := by
      have h0 : ∀ x ∈ rows.map (fun p => p.2 * (if p.1 = k then (1 : Int) else 0)), 0 ≤ x := by
        intro x hx
        obtain ⟨q, hq, e⟩ := List.mem_map.mp hx
        subst e
        have := c.pos q hq
        split <;> omega
      have hm : p.2 * (if p.1 = k then (1 : Int) else 0) ∈ rows.map (fun p => p.2 * (if p.1 = k then (1 : Int) else 0)) := List.mem_map.mpr ⟨p, hp, rfl⟩
      have := le_sum h0 hm
      rw [if_pos e] at this
      have := c.pos p hp
      omega
    unfold wsum at this
    rw [this] at h1
    refine Classical.byContradiction fun hk => ?_
    have z : es.map (fun x => if x = k then (1 : Int) else 0) = es.map fun _ => 0 := List.map_congr_left fun x hx => if_neg fun e => hk (by rw [← e]; exact hx)
    rw [z, map_const_sum] at h1
    omega
  · intro h
    refine Classical.byContradiction fun hk => ?_
    have z : rows.map (fun p => p.2 * (if p.1 = k then (1 : Int) else 0)) = rows.map fun _ => 0 := List.map_congr_left fun p hp => by
      rw [if_neg fun e => hk (List.mem_map.mpr ⟨p, hp, e⟩)]
      omega
    unfold wsum at this
    rw [z, map_const_sum] at this
    have h0 : ∀ x ∈ es.map (fun x => if x = k then (1 : Int) else 0), 0 ≤ x := by
      intro x hx
      obtain ⟨q, hq, e⟩ := List.mem_map.mp hx
      subst e
      split <;> omega
    have hm : (if k = k then (1 : Int) else 0) ∈ es.map (fun x => if x = k then (1 : Int) else 0) := List.mem_map.mpr ⟨k, h, rfl⟩
    have := le_sum h0 hm
    rw [if_pos rfl] at this
    omega

theorem Counts.length_le {rows : List (List Int × Int)} {es : List (List Int)} (c : Counts rows es) : rows.length ≤ es.length := by
  have h := c.total
  have h2 : ∀ r : List (List Int × Int), (∀ p ∈ r, (1 : Int) ≤ p.2) → (r.length : Int) ≤ (r.map (·.2)).sum := by
    intro r
    induction r with
    | nil => intro _; simp
    | cons p r ih =>
      intro hp
      have := hp p List.mem_cons_self
      have := ih fun q hq => hp q (List.mem_cons_of_mem _ hq)
      rw [List.map_cons, List.sum_cons, List.length_cons]
      omega
  have := h2 rows c.pos
  omega

/-! ### one round of counts -/
/-- the weight of the first j payers' coins behind c -/
def stepG (f : Int) (b : Nat) (c : List Int) (j : Nat) (g : List Int → Int) : Int :=
  ((List.range j).map fun p => if ok b (owed f c p) = true then g (owed f c p) else 0).sum
theorem stepG_zero (f : Int) (b : Nat) (c : List Int) (g : List Int → Int) : stepG f b c 0 g = 0 := rfl
theorem stepG_succ (f : Int) (b : Nat) (c : List Int) (j : Nat) (g : List Int → Int) : stepG f b c (j + 1) g = stepG f b c j g + if ok b (owed f c j) = true then g (owed f c j) else 0 := by
  unfold stepG
  rw [List.range_succ, List.map_append, List.sum_append]
  simp
theorem next_sum (f : Int) (b n : Nat) (wc : List Int × List Int) (g : List Int → Int) : ((next f b n wc).map fun x => g x.2).sum = stepG f b wc.2 n g := by
  unfold next stepG
  generalize List.range n = l
  induction l with
  | nil => rfl
  | cons p r ih =>
    rw [List.filterMap_cons, List.map_cons, List.sum_cons]
    by_cases q : ok b (owed f wc.2 p) = true
    · simp only [if_pos q, List.map_cons, List.sum_cons, ih]
    · simp only [if_neg q, ih]
      omega
/-- what the first i keys of rows weigh one round on -/
def sumG (f : Int) (b n : Nat) (rows : List (List Int × Int)) (i : Nat) (g : List Int → Int) : Int := wsum (rows.take i) fun c => stepG f b c n g
theorem sumG_zero (f : Int) (b n : Nat) (rows : List (List Int × Int)) (g : List Int → Int) : sumG f b n rows 0 g = 0 := by
  unfold sumG; simp [wsum]
theorem sumG_succ {f : Int} {b n : Nat} {rows : List (List Int × Int)} {i : Nat} {p : List Int × Int} (h : rows[i]? = some p) (g : List Int → Int) :
    sumG f b n rows (i + 1) g = sumG f b n rows i g + p.2 * stepG f b p.1 n g := by
  unfold sumG
  rw [List.take_add_one, h, wsum_app]
  simp [wsum]
theorem flatMap_sum {α β : Type} (h : α → List β) (g : β → Int) : ∀ l : List α, ((l.flatMap h).map g).sum = (l.map fun x => ((h x).map g).sum).sum
  | [] => rfl
  | x :: r => by rw [List.flatMap_cons, List.map_append, List.sum_append, List.map_cons, List.sum_cons, flatMap_sum h g r]
theorem round_ok {f : Int} {b : Nat} {ns : List Int} {m : Nat} {rows more : List (List Int × Int)} (c : Counts rows (ends f b ns m)) (a : Acc more (sumG f b ns.length rows rows.length)) :
    Counts more (ends f b ns (m + 1)) := by
  refine a.eq fun g => ?_
  unfold sumG
  rw [List.take_length, c.all]
  unfold ends
  show (((lets f b ns m).map (·.2)).map fun c => stepG f b c ns.length g).sum = ((((lets f b ns m).flatMap (next f b ns.length)).map (·.2)).map g).sum
  rw [List.map_map, List.map_map, flatMap_sum]
  refine congrArg List.sum (List.map_congr_left fun wc _ => ?_)
  exact (next_sum f b ns.length wc g).symm
theorem ends_zero (f : Int) (b : Nat) (ns : List Int) : ends f b ns 0 = [ns] := rfl
theorem ends_length (f : Int) (b : Nat) (ns : List Int) (m : Nat) : (ends f b ns m).length = (lets f b ns m).length := by unfold ends; rw [List.length_map]
theorem look_at {rows : List (List Int × Int)} (nd : (rows.map (·.1)).Nodup) {i : Nat} {p : List Int × Int} (h : rows[i]? = some p) : look rows p.1 = p.2 := by
  induction rows generalizing i with
  | nil => simp at h
  | cons q r ih =>
    rw [List.map_cons, List.nodup_cons] at nd
    cases i with
    | zero =>
      have e : q = p := by simpa using h
      subst e
      simp [look, List.find?_cons]
    | succ j =>
      have h' : r[j]? = some p := by simpa using h
      have hm : p.1 ∈ r.map (·.1) := List.mem_map.mpr ⟨p, List.mem_of_getElem? h', rfl⟩
      have ne : q.1 ≠ p.1 := fun e => nd.1 (e ▸ hm)
      have : look (q :: r) p.1 = look r p.1 := by simp [look, List.find?_cons, ne]
      rw [this]
      exact ih nd.2 h'

/-! ### all words, and which of them are let -/
def allw (n : Nat) : Nat → List (List Int)
  | 0 => [[]]
  | m + 1 => (allw n m).flatMap fun w => (List.range n).map fun (p : Nat) => w ++ [(p : Int)]
/-- the coins behind a word -/
def fin (f : Int) (ns : List Int) (w : List Int) : List Int := w.foldl (fun c p => owed f c p.toNat) ns
/-- who can pay -/
def able (f : Int) (c : List Int) : List Int := ((List.range c.length).filter fun k => decide (0 ≤ (owed f c k).getD k 0)).map fun (k : Nat) => (k : Int)
/-- whether the t-th payer of a word may pay -/
def may (f : Int) (b : Nat) (ns w : List Int) (t : Nat) : Bool := decide (w.getD t 0 = (b : Int)) || decide (w.getD t 0 ∈ able f (fin f ns (w.take t)))
def goodTo (f : Int) (b : Nat) (ns w : List Int) (i : Nat) : Bool := (List.range i).all fun t => may f b ns w t

theorem goodTo_zero (f : Int) (b : Nat) (ns w : List Int) : goodTo f b ns w 0 = true := rfl
theorem goodTo_succ (f : Int) (b : Nat) (ns w : List Int) (i : Nat) : goodTo f b ns w (i + 1) = (goodTo f b ns w i && may f b ns w i) := by
  unfold goodTo
  rw [List.range_succ, List.all_append]
  simp
theorem allw_length {n : Nat} : ∀ {m : Nat} {w : List Int}, w ∈ allw n m → w.length = m ∧ ∀ x ∈ w, 0 ≤ x ∧ x < (n : Int)
  | 0, w, h => by
    have e : w = [] := by simpa [allw] using h
    subst e
    exact ⟨rfl, by simp⟩
  | m + 1, w, h => by
    obtain ⟨v, hv, hw⟩ := List.mem_flatMap.mp (show w ∈ (allw n m).flatMap _ from h)
    obtain ⟨p, hp, e⟩ := List.mem_map.mp hw
    obtain ⟨h1, h2⟩ := allw_length hv
    subst e
    refine ⟨by simp [h1], fun x hx => ?_⟩
    rcases List.mem_append.mp hx with hx | hx
    · exact h2 x hx
    · have e : x = (p : Int) := by simpa using hx
      have := List.mem_range.mp hp
      subst e
      omega
theorem allw_count (n : Nat) : ∀ m, (allw n m).length = n ^ m
  | 0 => rfl
  | m + 1 => by
    have : ∀ l : List (List Int), (l.flatMap fun w => (List.range n).map fun (p : Nat) => w ++ [(p : Int)]).length = l.length * n := by
      intro l
      induction l with
      | nil => simp
      | cons a r ih => rw [List.flatMap_cons, List.length_append, ih, List.length_map, List.length_range, List.length_cons, Nat.succ_mul]; omega
    show ((allw n m).flatMap fun w => (List.range n).map fun (p : Nat) => w ++ [(p : Int)]).length = _
    rw [this, allw_count n m, Nat.pow_succ]
theorem fin_length (f : Int) (ns : List Int) : ∀ w : List Int, (fin f ns w).length = ns.length := by
  intro w
  unfold fin
  induction w generalizing ns with
  | nil => rfl
  | cons p r ih => rw [List.foldl_cons, ih, owed_length]
theorem fin_snoc (f : Int) (ns w : List Int) (p : Int) : fin f ns (w ++ [p]) = owed f (fin f ns w) p.toNat := by
  unfold fin; rw [List.foldl_append]; rfl
theorem mem_able {f : Int} {c : List Int} {p : Nat} : (p : Int) ∈ able f c ↔ p < c.length ∧ 0 ≤ (owed f c p).getD p 0 := by
  unfold able
  constructor
  · intro h
    obtain ⟨k, hk, e⟩ := List.mem_map.mp h
    obtain ⟨h1, h2⟩ := List.mem_filter.mp hk
    have e' : k = p := by omega
    subst e'
    exact ⟨List.mem_range.mp h1, by simpa using h2⟩
  · intro ⟨h1, h2⟩
    exact List.mem_map.mpr ⟨p, List.mem_filter.mpr ⟨List.mem_range.mpr h1, by simpa using h2⟩, rfl⟩
theorem may_old {f : Int} {b : Nat} {ns w : List Int} {p : Int} {t : Nat} (h : t < w.length) : may f b ns (w ++ [p]) t = may f b ns w t := by
  unfold may
  have e1 : (w ++ [p]).getD t 0 = w.getD t 0 := by
    rw [List.getD_eq_getElem?_getD, List.getD_eq_getElem?_getD, List.getElem?_append_left h]
  have e2 : (w ++ [p]).take t = w.take t := List.take_append_of_le_length (by omega)
  rw [e1, e2]
theorem good_old {f : Int} {b : Nat} {ns w : List Int} {p : Int} : ∀ {i : Nat}, i ≤ w.length → goodTo f b ns (w ++ [p]) i = goodTo f b ns w i
  | 0, _ => rfl
  | i + 1, h => by rw [goodTo_succ, goodTo_succ, good_old (by omega), may_old (by omega)]
theorem may_new {f : Int} {b : Nat} {ns w : List Int} {p : Nat} (hp : p < ns.length) : may f b ns (w ++ [(p : Int)]) w.length = (p == b || decide (0 ≤ (owed f (fin f ns w) p).getD p 0)) := by
  unfold may
  have e1 : (w ++ [(p : Int)]).getD w.length 0 = (p : Int) := by simp
  have e2 : (w ++ [(p : Int)]).take w.length = w := by simp
  rw [e1, e2, Bool.eq_iff_iff]
  simp only [Bool.or_eq_true, decide_eq_true_eq, beq_iff_eq]
  rw [mem_able, fin_length]
  constructor
  · rintro (h | h)
    · exact .inl (by omega)
    · exact .inr h.2
  · rintro (h | h)
    · exact .inl (by omega)
    · exact .inr ⟨hp, h⟩
theorem lets_fin {f : Int} {b : Nat} {ns : List Int} : ∀ {m : Nat} {wc : List Int × List Int}, wc ∈ lets f b ns m → wc.2 = fin f ns wc.1
  | 0, wc, h => by
    have e : wc = ([], ns) := by simpa [lets] using h
    subst e
    rfl
  | m + 1, wc, h => by
    obtain ⟨x, hx, hy⟩ := List.mem_flatMap.mp (show wc ∈ (lets f b ns m).flatMap (next f b ns.length) from h)
    obtain ⟨p, hp, _, e⟩ := mem_next hy
    subst e
    rw [fin_snoc, ← lets_fin hx]
    simp
theorem filter_flatMap' {α β : Type} (q : β → Bool) (h : α → List β) : ∀ l : List α, (l.flatMap h).filter q = l.flatMap fun x => (h x).filter q
  | [] => rfl
  | x :: r => by rw [List.flatMap_cons, List.flatMap_cons, List.filter_append, filter_flatMap' q h r]
theorem flatMap_skip {α β : Type} (q : α → Bool) (h : α → List β) : ∀ l : List α, (∀ x ∈ l, q x = false → h x = []) → l.flatMap h = (l.filter q).flatMap h
  | [], _ => rfl
  | x :: r, k => by
    have ih := flatMap_skip q h r fun y hy => k y (List.mem_cons_of_mem _ hy)
    rw [List.flatMap_cons, ih]
    cases e : q x with
    | true => rw [List.filter_cons_of_pos e, List.flatMap_cons]
    | false => rw [List.filter_cons_of_neg (by rw [e]; exact Bool.false_ne_true), k x List.mem_cons_self e]; rfl
theorem flatMap_map' {α β γ : Type} (u : α → β) (h : β → List γ) : ∀ l : List α, (l.map u).flatMap h = l.flatMap fun x => h (u x)
  | [] => rfl
  | x :: r => by rw [List.map_cons, List.flatMap_cons, List.flatMap_cons, flatMap_map' u h r]
theorem map_flatMap' {α β γ : Type} (u : β → γ) (h : α → List β) : ∀ l : List α, (l.flatMap h).map u = l.flatMap fun x => (h x).map u
  | [] => rfl
  | x :: r => by rw [List.flatMap_cons, List.flatMap_cons, List.map_append, map_flatMap' u h r]
theorem flatMap_congr' {α β : Type} {h h' : α → List β} : ∀ l : List α, (∀ x ∈ l, h x = h' x) → l.flatMap h = l.flatMap h'
  | [], _ => rfl
  | x :: r, k => by rw [List.flatMap_cons, List.flatMap_cons, k x List.mem_cons_self, flatMap_congr' r fun y hy => k y (List.mem_cons_of_mem _ hy)]
/-- THE WORDS: those that are let are those of all in which each payer may pay -/
theorem words_eq {f : Int} {b : Nat} {ns : List Int} (hf : 0 ≤ f) (h0 : ok b ns = true) : ∀ m, words f b ns m = (allw ns.length m).filter fun w => goodTo f b ns w m
  | 0 => rfl
  | m + 1 => by
    show ((lets f b ns m).flatMap (next f b ns.length)).map (·.1) = ((allw ns.length m).flatMap _).filter _
    rw [filter_flatMap', flatMap_skip (fun w => goodTo f b ns w m)]
    · rw [← words_eq hf h0 m]
      unfold words
      rw [flatMap_map', map_flatMap']
      refine flatMap_congr' _ fun wc hwc => ?_
      obtain ⟨l1, l2⟩ := lets_length hwc
      have hfin := lets_fin hwc
      have hok := lets_ok h0 hwc
      have hgood : goodTo f b ns wc.1 m = true := by
        have hm : wc.1 ∈ words f b ns m := List.mem_map.mpr ⟨wc, hwc, rfl⟩
        rw [words_eq hf h0 m] at hm
        exact (List.mem_filter.mp hm).2
      unfold next
      have aux : ∀ l : List Nat, (∀ p ∈ l, p < ns.length) → (l.filterMap fun p => if ok b (owed f wc.2 p) = true then some (wc.1 ++ [(p : Int)], owed f wc.2 p) else none).map (·.1) = (l.map fun (p : Nat) => wc.1 ++ [(p : Int)]).filter fun w => goodTo f b ns w (m + 1) := by
        intro l
        induction l with
        | nil => intro _; rfl
        | cons p r ih =>
          intro hl
          have hp : p < ns.length := hl p List.mem_cons_self
          have ih' := ih fun q hq => hl q (List.mem_cons_of_mem _ hq)
          have e : goodTo f b ns (wc.1 ++ [(p : Int)]) (m + 1) = ok b (owed f wc.2 p) := by
            rw [goodTo_succ, good_old (by omega), hgood, ok_owed hf (by omega) hok]
            have := may_new (f := f) (b := b) (w := wc.1) hp
            rw [l2] at this
            rw [this, hfin]
            rfl
          rw [List.filterMap_cons, List.map_cons, List.filter_cons, e]
          by_cases q : ok b (owed f wc.2 p) = true
          · simp only [if_pos q, List.map_cons, ih']
          · simp only [if_neg q, ih']
      exact aux _ fun p hp => List.mem_range.mp hp
    · intro w hw hq
      have hl := (allw_length hw).1
      rw [List.filter_eq_nil_iff]
      intro v hv
      obtain ⟨p, hp, e⟩ := List.mem_map.mp hv
      subst e
      rw [goodTo_succ, good_old (by omega), hq]
      simp
theorem ends_fin (f : Int) (b : Nat) (ns : List Int) (m : Nat) : ends f b ns m = (words f b ns m).map (fin f ns) := by
  unfold ends words
  rw [List.map_map]
  exact List.map_congr_left fun wc h => lets_fin h

/-! ### sums -/
theorem sum_set' : ∀ {l : List Int} {j : Nat} {y : Int}, j < l.length → (l.set j y).sum = l.sum - l.getD j 0 + y
  | [], _, _, h => by simp at h
  | a :: r, 0, y, _ => by simp; omega
  | a :: r, j + 1, y, h => by
    have ih := sum_set' (l := r) (j := j) (y := y) (by simpa using h)
    rw [List.set_cons_succ, List.sum_cons, List.sum_cons, ih]
    simp
    omega
theorem sum_scale (f : Int) : ∀ l : List Int, (l.map fun x => f * x).sum = f * l.sum
  | [] => by simp
  | a :: r => by rw [List.map_cons, List.sum_cons, List.sum_cons, sum_scale f r, Int.mul_add]
theorem getD_scale {f : Int} {l : List Int} {p : Nat} : (l.map fun x => f * x).getD p 0 = f * l.getD p 0 := by
  rw [List.getD_eq_getElem?_getD, List.getD_eq_getElem?_getD, List.getElem?_map]
  cases l[p]? with
  | none => simp
  | some x => rfl
theorem owed_sum {f : Int} {ns : List Int} {p : Nat} (h : p < ns.length) : (owed f ns p).sum = ns.sum := by
  unfold owed
  rw [sum_set' (by simpa using h), sum_scale, getD_scale, Int.sub_mul]
  omega
theorem lets_sum {f : Int} {b : Nat} {ns : List Int} : ∀ {m : Nat} {wc : List Int × List Int}, wc ∈ lets f b ns m → wc.2.sum = ns.sum
  | 0, wc, h => by
    have e : wc = ([], ns) := by simpa [lets] using h
    subst e
    rfl
  | m + 1, wc, h => by
    obtain ⟨x, hx, hy⟩ := List.mem_flatMap.mp (show wc ∈ (lets f b ns m).flatMap (next f b ns.length) from h)
    obtain ⟨p, hp, _, e⟩ := mem_next hy
    subst e
    show (owed f x.2 p).sum = _
    rw [owed_sum (by rw [(lets_length hx).1]; exact hp), lets_sum hx]

/-! ### two players by numbers -/
def nums (f : Int) : Nat → List Int
  | 0 => [0]
  | m + 1 => (nums f m).map (fun x => f * x) ++ (nums f m).map (fun x => f * x + f - 1)
theorem nums_length (f : Int) : ∀ m, (nums f m).length = 2 ^ m
  | 0 => rfl
  | m + 1 => by
    show ((nums f m).map (fun x => f * x) ++ (nums f m).map (fun x => f * x + f - 1)).length = _
    rw [List.length_append, List.length_map, List.length_map, nums_length f m, Nat.pow_succ]
    omega
theorem two_next {f : Int} {b : Nat} {wc : List Int × List Int} (hf : 1 ≤ f) (hb : b < 2) (hl : wc.2.length = 2) (hok : ok b wc.2 = true) (g : Int → Int) (hg : ∀ z, z < 0 → g z = 0) :
    ((next f b 2 wc).map fun x => g (x.2.getD (1 - b) 0)).sum = g (f * wc.2.getD (1 - b) 0) + g (f * wc.2.getD (1 - b) 0 - (f - 1) * wc.2.sum) := by
  have hn := next_sum f b 2 wc fun c => g (c.getD (1 - b) 0)
  rw [hn, stepG_succ, stepG_succ, stepG_zero]
  have hcases : b = 0 ∨ b = 1 := by omega
  have h1 : ∀ p, p < 2 → ok b (owed f wc.2 p) = (p == b || decide (0 ≤ (owed f wc.2 p).getD p 0)) := fun p hp => ok_owed (by omega) (by omega) hok
  have k0 := h1 0 (by omega)
  have k1 := h1 1 (by omega)
  rcases hcases with e | e
  · subst e
    have v0 : (owed f wc.2 0).getD 1 0 = f * wc.2.getD 1 0 := by rw [owed_at (by omega) (by omega), if_neg (by omega)]
    have v1 : (owed f wc.2 1).getD 1 0 = f * wc.2.getD 1 0 - (f - 1) * wc.2.sum := by rw [owed_at (by omega) (by omega), if_pos rfl]
    rw [k0, k1]
    show 0 + (if (true || _) = true then g ((owed f wc.2 0).getD 1 0) else 0) + (if (false || decide _) = true then g ((owed f wc.2 1).getD 1 0) else 0) = _
    rw [v0, v1, Bool.true_or, if_pos rfl, Bool.false_or]
    by_cases z : 0 ≤ f * wc.2.getD 1 0 - (f - 1) * wc.2.sum
    · rw [if_pos (decide_eq_true z)]; simp
    · rw [if_neg (by simpa using z)]
      have z0 : g (f * wc.2.getD 1 0 - (f - 1) * wc.2.sum) = 0 := hg _ (by omega)
      show 0 + g (f * wc.2.getD 1 0) + 0 = g (f * wc.2.getD 1 0) + g (f * wc.2.getD 1 0 - (f - 1) * wc.2.sum)
      rw [z0]
      omega
  · subst e
    have v1 : (owed f wc.2 1).getD 0 0 = f * wc.2.getD 0 0 := by rw [owed_at (by omega) (by omega), if_neg (by omega)]
    have v0 : (owed f wc.2 0).getD 0 0 = f * wc.2.getD 0 0 - (f - 1) * wc.2.sum := by rw [owed_at (by omega) (by omega), if_pos rfl]
    rw [k0, k1]
    show 0 + (if (false || decide _) = true then g ((owed f wc.2 0).getD 0 0) else 0) + (if (true || _) = true then g ((owed f wc.2 1).getD 0 0) else 0) = _
    rw [v0, v1, Bool.true_or, if_pos rfl, Bool.false_or]
    by_cases z : 0 ≤ f * wc.2.getD 0 0 - (f - 1) * wc.2.sum
    · rw [if_pos (decide_eq_true z)]
      show 0 + g (f * wc.2.getD 0 0 - (f - 1) * wc.2.sum) + g (f * wc.2.getD 0 0) = g (f * wc.2.getD 0 0) + g (f * wc.2.getD 0 0 - (f - 1) * wc.2.sum)
      omega
    · rw [if_neg (by simpa using z)]
      have z0 : g (f * wc.2.getD 0 0 - (f - 1) * wc.2.sum) = 0 := hg _ (by omega)
      show 0 + 0 + g (f * wc.2.getD 0 0) = g (f * wc.2.getD 0 0) + g (f * wc.2.getD 0 0 - (f - 1) * wc.2.sum)
      rw [z0]
      omega
theorem map_sum_add {α : Type} (u v : α → Int) : ∀ l : List α, (l.map fun x => u x + v x).sum = (l.map u).sum + (l.map v).sum
  | [] => rfl
  | x :: r => by rw [List.map_cons, List.map_cons, List.map_cons, List.sum_cons, List.sum_cons, List.sum_cons, map_sum_add u v r]; omega
theorem two_sum {f : Int} {b : Nat} {ns : List Int} (hf : 1 ≤ f) (hb : b < 2) (hl : ns.length = 2) (h0 : ok b ns = true) (hT : 0 ≤ ns.sum) : ∀ (m : Nat) (g : Int → Int), (∀ z, z < 0 → g z = 0) →
    ((lets f b ns m).map fun wc => g (wc.2.getD (1 - b) 0)).sum = ((nums f m).map fun x => g (f ^ m * ns.getD (1 - b) 0 - x * ns.sum)).sum
  | 0, g, hg => by
    show ([([], ns)].map fun (wc : List Int × List Int) => g (wc.2.getD (1 - b) 0)).sum = ([0].map fun (x : Int) => g (f ^ 0 * ns.getD (1 - b) 0 - x * ns.sum)).sum
    simp
  | m + 1, g, hg => by
    show (((lets f b ns m).flatMap (next f b ns.length)).map fun wc => g (wc.2.getD (1 - b) 0)).sum = _
    rw [flatMap_sum]
    have e : (lets f b ns m).map (fun wc => ((next f b ns.length wc).map fun x => g (x.2.getD (1 - b) 0)).sum) = (lets f b ns m).map fun wc => (fun z => g (f * z) + g (f * z - (f - 1) * ns.sum)) (wc.2.getD (1 - b) 0) :=
      List.map_congr_left fun wc hwc => by
        have := two_next hf hb ((lets_length hwc).1.trans hl) (lets_ok h0 hwc) g hg
        rw [hl, this, lets_sum hwc]
    rw [e, two_sum hf hb hl h0 hT m (fun z => g (f * z) + g (f * z - (f - 1) * ns.sum)) (fun z hz => ?_)]
    · show _ = (((nums f m).map (fun x => f * x) ++ (nums f m).map (fun x => f * x + f - 1)).map fun x => g (f ^ (m + 1) * ns.getD (1 - b) 0 - x * ns.sum)).sum
      rw [List.map_append, List.sum_append, List.map_map, List.map_map, map_sum_add]
      congr 1
      · refine congrArg List.sum (List.map_congr_left fun x _ => ?_)
        show g _ = g _
        congr 1
        rw [Int.mul_sub, Int.pow_succ]
        have e1 : f * (f ^ m * ns.getD (1 - b) 0) = f ^ m * f * ns.getD (1 - b) 0 := by rw [← Int.mul_assoc, Int.mul_comm f]
        have e2 : f * (x * ns.sum) = f * x * ns.sum := (Int.mul_assoc _ _ _).symm
        rw [e1, e2]
      · refine congrArg List.sum (List.map_congr_left fun x _ => ?_)
        show g _ = g _
        congr 1
        rw [Int.mul_sub, Int.pow_succ]
        have e1 : f * (f ^ m * ns.getD (1 - b) 0) = f ^ m * f * ns.getD (1 - b) 0 := by rw [← Int.mul_assoc, Int.mul_comm f]
        have e2 : f * (x * ns.sum) = f * x * ns.sum := (Int.mul_assoc _ _ _).symm
        have e3 : (f * x + f - 1) * ns.sum = f * x * ns.sum + (f - 1) * ns.sum := by
          rw [show f * x + f - 1 = f * x + (f - 1) by omega, Int.add_mul]
        rw [e1, e2, e3]
        omega
    · have h1 : f * z < 0 := Int.mul_neg_of_pos_of_neg (by omega) hz
      have h2 : 0 ≤ (f - 1) * ns.sum := Int.mul_nonneg (by omega) hT
      show g (f * z) + g (f * z - (f - 1) * ns.sum) = 0
      rw [hg _ h1, hg _ (by omega)]
      rfl
theorem count_sum {α : Type} (q : α → Bool) : ∀ l : List α, (l.map fun x => if q x = true then (1 : Int) else 0).sum = ((l.filter q).length : Int)
  | [] => rfl
  | x :: r => by
    rw [List.map_cons, List.sum_cons, count_sum q r]
    cases e : q x with
    | true => rw [if_pos rfl, List.filter_cons_of_pos e, List.length_cons]; omega
    | false => rw [if_neg Bool.false_ne_true, List.filter_cons_of_neg (by rw [e]; exact Bool.false_ne_true)]; omega
/-- THE NUMBERS: two players' words that are let are as many as numbers that are not too great -/
theorem two_count {f : Int} {b : Nat} {ns : List Int} (hf : 1 ≤ f) (hb : b < 2) (hl : ns.length = 2) (h0 : ok b ns = true) (hT : 0 ≤ ns.sum) (m : Nat) :
    (lets f b ns m).length = ((nums f m).filter fun x => decide (x * ns.sum ≤ ns.getD (1 - b) 0 * f ^ m)).length := by
  have h := two_sum hf hb hl h0 hT m (fun z => if 0 ≤ z then 1 else 0) (fun z hz => if_neg (by omega))
  have e1 : (lets f b ns m).map (fun wc => if 0 ≤ wc.2.getD (1 - b) 0 then (1 : Int) else 0) = (lets f b ns m).map fun _ => 1 := List.map_congr_left fun wc hwc => by
    refine if_pos ?_
    have hlen := (lets_length hwc).1
    rcases ok_iff.mp (lets_ok h0 hwc) (1 - b) (by omega) with z | z
    · omega
    · exact z
  rw [e1, map_const_sum] at h
  have e2 : (nums f m).map (fun x => if 0 ≤ f ^ m * ns.getD (1 - b) 0 - x * ns.sum then (1 : Int) else 0) = (nums f m).map fun x => if decide (x * ns.sum ≤ ns.getD (1 - b) 0 * f ^ m) = true then (1 : Int) else 0 := List.map_congr_left fun x _ => by
    have e3 : f ^ m * ns.getD (1 - b) 0 = ns.getD (1 - b) 0 * f ^ m := Int.mul_comm _ _
    by_cases z : x * ns.sum ≤ ns.getD (1 - b) 0 * f ^ m
    · rw [if_pos (by omega), if_pos (decide_eq_true z)]
    · rw [if_neg (by omega), if_neg (by simpa using z)]
  rw [e2, count_sum] at h
  omega
end Dp

set_option Elab.async false
set_option linter.all false
set_option maxRecDepth 100000
set_option maxHeartbeats 4000000
/-! The text: where each def stands, and its names by slots (comprehensions' own names behind). -/
namespace Dp
open PySem PySem.Spec PyProof.Rows L2
def topS (i : Nat) : Stmt := PySem.Challenge.pw_doublepay_k43_whole_banks.main.body.getD i (.Pass ⟨0, 0, 0, 0⟩)
abbrev sIsIn : Stmt := topS 7
abbrev sIsFactor : Stmt := topS 13
abbrev sNeedTable : Stmt := topS 14
abbrev sNeedPlayer : Stmt := topS 15
abbrev sOwedIn : Stmt := topS 16
abbrev sNeedLet : Stmt := topS 20
abbrev sNeedBank : Stmt := topS 21
abbrev sFloorsOf : Stmt := topS 22
abbrev sIsLet : Stmt := topS 23
abbrev sCountsIn : Stmt := topS 24
abbrev sWordsIn : Stmt := topS 25
abbrev sBankCount : Stmt := topS 26
abbrev sBankWords : Stmt := topS 27
abbrev sBankLeast : Stmt := topS 28
abbrev sTaken : Stmt := topS 30
abbrev sPick : Stmt := topS 31
abbrev sTable : Stmt := topS 32
abbrev sAllWords : Stmt := topS 33
abbrev sOwed : Stmt := topS 34
abbrev sAlong : Stmt := topS 35
abbrev sPayers : Stmt := topS 36
abbrev sAlike : Stmt := topS 37
abbrev sLaw : Stmt := topS 38
theorem scIsIn : FnScope ["value", "least", "most"] ["value", "least", "most"] (defScope sIsIn) := ⟨rfl, rfl, rfl, by decide +kernel, rfl, by decide +kernel, by decide +kernel⟩
theorem scIsFactor : FnScope ["value"] ["value"] (defScope sIsFactor) := ⟨rfl, rfl, rfl, by decide +kernel, rfl, by decide +kernel, by decide +kernel⟩
theorem scNeedTable : FnScope ["table", "index", "one"] ["table"] (defScope sNeedTable) := ⟨rfl, rfl, rfl, by decide +kernel, rfl, by decide +kernel, by decide +kernel⟩
theorem scNeedPlayer : FnScope ["table", "player"] ["table", "player"] (defScope sNeedPlayer) := ⟨rfl, rfl, rfl, by decide +kernel, rfl, by decide +kernel, by decide +kernel⟩
theorem scOwedIn : FnScope ["factor", "coins", "player", "found", "one"] ["factor", "coins", "player"] (defScope sOwedIn) := ⟨rfl, rfl, rfl, by decide +kernel, rfl, by decide +kernel, by decide +kernel⟩
theorem scNeedLet : FnScope ["many"] ["many"] (defScope sNeedLet) := ⟨rfl, rfl, rfl, by decide +kernel, rfl, by decide +kernel, by decide +kernel⟩
theorem scNeedBank : FnScope ["table", "bank", "many"] ["table", "bank", "many"] (defScope sNeedBank) := ⟨rfl, rfl, rfl, by decide +kernel, rfl, by decide +kernel, by decide +kernel⟩
theorem scFloorsOf : FnScope ["players", "bank", "limit", "k"] ["players", "bank", "limit"] (defScope sFloorsOf) := ⟨rfl, rfl, rfl, by decide +kernel, rfl, by decide +kernel, by decide +kernel⟩
theorem scIsLet : FnScope ["coins", "floors", "one", "floor"] ["coins", "floors"] (defScope sIsLet) := ⟨rfl, rfl, rfl, by decide +kernel, rfl, by decide +kernel, by decide +kernel⟩
theorem scCountsIn : FnScope ["factor", "coins", "floors", "many", "rows", "turn", "more", "here", "payer", "there"] ["factor", "coins", "floors", "many"] (defScope sCountsIn) := ⟨rfl, rfl, rfl, by decide +kernel, rfl, by decide +kernel, by decide +kernel⟩
theorem scWordsIn : FnScope ["factor", "coins", "floors", "many", "rows", "turn", "more", "word", "here", "payer", "there"] ["factor", "coins", "floors", "many"] (defScope sWordsIn) := ⟨rfl, rfl, rfl, by decide +kernel, rfl, by decide +kernel, by decide +kernel⟩
theorem scBankCount : FnScope ["table", "bank", "many"] ["table", "bank", "many"] (defScope sBankCount) := ⟨rfl, rfl, rfl, by decide +kernel, rfl, by decide +kernel, by decide +kernel⟩
theorem scBankWords : FnScope ["table", "bank", "many"] ["table", "bank", "many"] (defScope sBankWords) := ⟨rfl, rfl, rfl, by decide +kernel, rfl, by decide +kernel, by decide +kernel⟩
theorem scBankLeast : FnScope ["table", "bank", "many", "some", "coins"] ["table", "bank", "many"] (defScope sBankLeast) := ⟨rfl, rfl, rfl, by decide +kernel, rfl, by decide +kernel, by decide +kernel⟩
theorem scTaken : FnScope ["_law_row", "_law_many", "_law_found", "_law_cell"] ["_law_row", "_law_many"] (defScope sTaken) := ⟨rfl, rfl, rfl, by decide +kernel, rfl, by decide +kernel, by decide +kernel⟩
theorem scPick : FnScope ["_law_row", "_law_things"] ["_law_row", "_law_things"] (defScope sPick) := ⟨rfl, rfl, rfl, by decide +kernel, rfl, by decide +kernel, by decide +kernel⟩
theorem scTable : FnScope ["_law_row", "_law_most", "_law_top", "_law_factor", "_law_players", "_law_way", "_law_size", "_law_coins", "_law_turn", "_law_many", "_law_payer", "_law_total", "_law_others", "_law_sums", "_law_one", "_law_k"] ["_law_row", "_law_most", "_law_top"] (defScope sTable) := ⟨rfl, rfl, rfl, by decide +kernel, rfl, by decide +kernel, by decide +kernel⟩
theorem scAllWords : FnScope ["_law_players", "_law_many", "_law_words", "_law_turn", "_law_more", "_law_word", "_law_payer"] ["_law_players", "_law_many"] (defScope sAllWords) := ⟨rfl, rfl, rfl, by decide +kernel, rfl, by decide +kernel, by decide +kernel⟩
theorem scOwed : FnScope ["_law_factor", "_law_coins", "_law_payer", "_law_gives", "_law_found", "_law_one", "_law_k"] ["_law_factor", "_law_coins", "_law_payer"] (defScope sOwed) := ⟨rfl, rfl, rfl, by decide +kernel, rfl, by decide +kernel, by decide +kernel⟩
theorem scAlong : FnScope ["_law_factor", "_law_coins", "_law_word", "_law_found", "_law_payer"] ["_law_factor", "_law_coins", "_law_word"] (defScope sAlong) := ⟨rfl, rfl, rfl, by decide +kernel, rfl, by decide +kernel, by decide +kernel⟩
theorem scPayers : FnScope ["_law_factor", "_law_coins", "_law_k"] ["_law_factor", "_law_coins"] (defScope sPayers) := ⟨rfl, rfl, rfl, by decide +kernel, rfl, by decide +kernel, by decide +kernel⟩
theorem scAlike : FnScope ["_law_found", "_law_due", "_law_k"] ["_law_found", "_law_due"] (defScope sAlike) := ⟨rfl, rfl, rfl, by decide +kernel, rfl, by decide +kernel, by decide +kernel⟩
theorem scLaw : FnScope ["_law_script", "_law_row", "_law_table_here", "_law_factor", "_law_coins", "_law_bank", "_law_many", "_law_due", "_law_ends", "_law_word", "_law_along_here", "_law_good", "_law_turn", "_law_numbers", "_law_size", "_law_far", "_law_own", "_law_one"] ["_law_script"] (defScope sLaw) := ⟨rfl, rfl, rfl, by decide +kernel, rfl, by decide +kernel, by decide +kernel⟩
end Dp

set_option Elab.async false
set_option linter.all false
set_option maxRecDepth 100000
set_option maxHeartbeats 4000000
/-! Rules that the layer has not: sum of a tuple, a dict with tuple keys by values() and keys(), zip of a tuple and a list, enumerate of a tuple, a tuple once, a list's item changed by +=, {tuple: v}. -/
namespace Dp
open PySem PySem.Spec PyProof.Rows L2
theorem hd1 {X : Cx} {pins : List (Addr × Obj)} {σ : L2.St} {H : Hp} {s : Shared} (I : Inv X pins σ H s) (calm : X.calm = true) : X.A.in1.handled = none := I.ok.hd calm
section
variable {X : Cx}
/-! ### sum of a tuple -/
def rSumT (K : PySem.W.Frag) : List V → Hp → VK → Prop := fun vs H Q => ∃ (a : Addr) (ns : List Int), vs = [V.ref a] ∧ SqT K H a (ns.map V.int) ∧ Q (.int ns.sum) H
theorem cr_sumT (hc : X.calm = true) : CallR X (.builtin "sum") (rSumT X.K) := by
  rintro pins s σ H - us Q I rel ⟨a, ns, rfl, tup, q⟩
  obtain rfl := refs_at (ps := [a]) rel
  obtain ⟨its, rv, lies, _⟩ := I.tuple tup
  have whole : IntsAre its ns := rv.ints
  obtain ⟨ps, here⟩ := whole.allInts.items
  replace lies : s.heap.IsTuple a (intItems ps) := by rw [← here]; exact lies
  have nums := whole.numsOf
  rw [show its = (intItems ps).toList from congrArg Array.toList here, nums_intItems] at nums
  refine PySem.W.ktm_sumG (I.ok.hd hc) lies fun g tk t k => ⟨.int ns.sum, H, I.kept k, ⟨t, ?_⟩, q⟩
  rw [← nums, ← List.take_of_length_le (l := ps.toList.map (·.1)) (Nat.le_of_eq (by simp : _ = ps.size)), ← preSum_eq]

/-! ### d.values() of a dict with tuple keys, and its sum -/
def valuesO (p d : Addr) : HO := .ext fun h => h.IsValuesView p d
theorem valuesO_ok {P : Program} {w : World} {H : Hp} {h : Heap} {p d : Addr} (e : h.get? p = some { cls := .type "dict_values", data := .fields #[.ref d] }) : ObjOk P w H h p (valuesO p d) :=
  ⟨⟨_, e, rfl, rfl⟩, ⟨_, e⟩, fun _ _ ⟨ob, here, r⟩ keep => ⟨ob, keep ob here, r⟩⟩
def rValuesT : V → List V → Hp → VK → Prop := fun x xs H Q => ∃ (a : Addr) (kvs : List (List L2.Key × V)), x = .ref a ∧ xs = [] ∧ H a = some (.dT kvs) ∧ ∀ p, H p = none → Q (.ref p) (upd H p (valuesO p a))
theorem mt_valuesT : MtR X "dict.values" rValuesT := by
  rintro pins s σ H - - v us Q I rx rxs ⟨a, kvs, rfl, rfl, dict, q⟩
  cases rx
  cases rxs
  obtain ⟨_, small, _, _, ob, es, ep, at_, cls, data, _⟩ := dt_of I.hok dict
  refine call_meetsIn PySem.F.slot_dict_values ⟨ob, at_, cls.1⟩ PySem.F.entry_dict_values (PySem.F.args_dict_values_1 _) (meets_dict_values_raw a small) ⟨⟨es, ep, ob, at_, cls, data⟩, .ref s.heap.objs.size, upd H s.heap.objs.size (valuesO s.heap.objs.size a), ?_, rfl, q _ (I.hok.fresh (Nat.le_refl _))⟩
  exact I.laid (t' := s.toks) (fun b u e => Heap.get?_push_of_some _ e) (Nat.le_refl _) (valuesO_ok (Heap.get?_push_size _ rfl))
def rSumVals : List V → Hp → VK → Prop := fun vs H Q => ∃ (p a : Addr) (kvs : List (List L2.Key × V)) (ns : List Int), vs = [.ref p] ∧ H p = some (valuesO p a) ∧ H a = some (.dT kvs) ∧ kvs.map (·.2) = ns.map V.int ∧ Q (.int ns.sum) H
theorem preSum_list (f : Nat → Int) (ns : List Int) (h : ∀ i, i < ns.length → f i = ns.getD i 0) : ∀ j, j ≤ ns.length → preSum f j = (ns.take j).sum
  | 0, _ => by simp [preSum]
  | j + 1, hj => by
    have ih := preSum_list f ns h j (by omega)
    have e : ns[j]? = some ns[j] := List.getElem?_eq_getElem (by omega)
    have hd : ns.getD j 0 = ns[j] := by rw [List.getD_eq_getElem?_getD, e]; rfl
    rw [L2.sum_take e, ← ih, ← hd, ← h j (by omega)]
    simp [preSum]
/-- the values that stand in the table are the ints, by place -/
theorem vals_at {H : Hp} {ns : List Int} {kvs : List (List L2.Key × V)} {i : Nat} {p : List L2.Key × V} {n : Int} (hv : kvs.map (·.2) = ns.map V.int) (e : kvs[i]? = some p) (en : ns[i]? = some n) : p.2 = .int n := by
  have w := congrArg (·[i]?) hv
  simp only [List.getElem?_map, e, en, Option.map_some] at w
  exact Option.some.inj w
theorem cr_sumVals (hc : X.calm = true) : CallR X (.builtin "sum") rSumVals := by
  rintro pins s σ H - us Q I rel ⟨p, a, kvs, ns, rfl, hp, ha, hv, q⟩
  obtain rfl := refs_at (ps := [p]) rel
  have view : s.heap.IsValuesView p a := (show ObjOk X.prog X.w H s.heap p (valuesO p a) from I.hok p _ hp).1
  obtain ⟨_, _, ws, pair, tab⟩ := dt_of I.hok ha
  obtain ⟨es, ep, raw, size, entry⟩ := tab.raw
  have len : kvs.length = ws.length := Paired.length pair
  have lens : kvs.length = ns.length := by simpa using congrArg List.length hv
  have low : a < s.heap.objs.size := raw.elim fun _ w => Heap.lt_size w.1
  have key : ∀ i v, (∃ hi : i < es.size, v = es[i].val) → ∃ t, v = .int (ns.getD i 0) t := by
    rintro i _ ⟨lt, rfl⟩
    obtain ⟨y, ey, _, eval, _⟩ := entry i lt
    have e0 : kvs[i]? = some kvs[i] := List.getElem?_eq_getElem (by omega)
    have en : ns[i]? = some ns[i] := List.getElem?_eq_getElem (by omega)
    obtain ⟨b, eb, _, _, rv⟩ := paired_get pair e0
    cases ey.symm.trans eb
    rw [vals_at (H := H) hv e0 en] at rv
    obtain ⟨t, rt⟩ := rv
    exact ⟨t, by rw [eval, rt, List.getD_eq_getElem?_getD, en]; rfl⟩
  have steps := (Walks.rawValues (prog := X.prog) (w := X.w) (A := X.A.in1) (hd1 I hc) s.heap.objs.size a (Nat.ne_of_lt low) es ep).toS
  have total : preSum (fun i => ns.getD i 0) es.size = ns.sum := by
    rw [preSum_list _ ns (fun _ _ => rfl) es.size (by omega), List.take_of_length_le (by omega)]
  refine call_sum_walkAnyS (wpAny_pyIter_values_raw view raw ⟨s.heap.objs.size, _, _, _, _, _, _, fun i => ns.getD i 0, rfl, steps, ⟨⟨_, Heap.get?_push_size _ rfl, rfl, rfl⟩, raw.at fun o e => Heap.get?_push_of_some _ e⟩, ?_, key, ?_⟩)
  · have up := Heap.size_push s.heap
    simp only [List.forall_mem_cons]
    refine ⟨?_, ?_, nofun⟩
    · rw [up]; exact Nat.lt_succ_self _
    · rw [up]; exact Nat.lt_succ_of_lt low
  · rintro ⟨g, g1, d1, tk, o1⟩ t moved
    obtain rfl : g1 = s.gens := moved.gens
    obtain rfl : d1 = s.drawn := moved.drawn
    obtain rfl : o1 = s.os := moved.os
    rw [total]
    refine ⟨.int ns.sum, H, I.kept (h' := g) (t' := tk) fun b o e => moved.heap b o (fun m => ?_) (Heap.get?_push_of_some _ e), ⟨_, rfl⟩, q⟩
    rw [List.mem_singleton] at m
    exact absurd (Heap.lt_size e) (by rw [m]; exact Nat.lt_irrefl _)

/-! ### d.keys() of a dict with tuple keys: from here on the dict is read alone -/
def iKeysMT (td : TE) : TI := fun σ H R => td σ H fun x H1 => ∃ d kvs, x = .ref d ∧ H1 d = some (.dT kvs) ∧ ∀ o, R (Itkt d o kvs) (upd H1 d (.frz o (.dT kvs)))
theorem pi_keysMT {tg e : Expr} {td : TE} {apos cpos : Pos} (he : PE X e td) (hbase : attributeBase e "keys" X.env (eval e X.env) = eval e X.env := by rfl) (hline : (apos.endLine == cpos.line) = true := by rfl) :
    PI X tg (.Call (.Attribute e "keys" apos) [] [] cpos) (iKeysMT td) where
  run pins s σ H R I h := by
    refine wpAny_Call_method (T := "dict") (id := "dict.keys") hbase rfl hline F.plainAttrs_dict F.slot_dict_keys F.type_dict_keys (thn (he.run pins s σ H _ I h) ?_)
    rintro u s1 ⟨_, H1, J, same, d, kvs, rfl, here, q⟩
    cases (show u = Value.ref d from same)
    obtain ⟨cold, known, _⟩ := isD_at J (.inr ⟨kvs, .inl here⟩)
    obtain ⟨o, L⟩ := J.lock here trivial
    obtain ⟨small, at_, cls, es, ep, data, size, _⟩ := L.frzT upd_same
    have raw : s1.heap.DictRaw d es ep := ⟨o, at_, cls, data⟩
    let view : Obj := { cls := .type "dict_keys", data := .fields #[.ref d] }
    have grow : ∀ b ob, s1.heap.get? b = some ob → (s1.heap.push view).get? b = some ob := fun _ _ => Heap.get?_push_of_some view
    have self : (s1.heap.push view).get? s1.heap.objs.size = some view := Heap.get?_push_size _ rfl
    refine ⟨cold, known, method_meetsIn F.slot_dict_keys F.entry_dict_keys rfl (PySem.evalArgs_none ⟨rfl, cold, F.args_dict_keys_1 _, _, meets_dict_keys_raw d small, ⟨es, ep, raw⟩, ?_⟩)⟩
    refine wpAny_pyIter_keys_raw (d := d) ⟨view, self, rfl, rfl⟩ (raw.at (grow d)) (pi_one (tk := s1.toks) (L.kept (t' := s1.toks) grow) _ (turn_keysT _ data) ⟨_, Heap.get?_push_size _ rfl, rfl, ?_⟩ (q o))
    rw [size] <;> rfl

/-! ### {tuple: v} -/
def tDisp1 (tk tv : TE) : TE := fun σ H Q => ∀ p, H p = none → tk σ (upd H p (.dT [])) fun x H1 => tv σ H1 fun y H2 => ∃ b k, x = .ref b ∧ H2 p = some (.dT []) ∧ H2 b = some (.tup (k.map kV)) ∧ Q (.ref p) (upd H2 p (.dT [(k, y)]))
theorem pe_disp1 {k v : Expr} {tk tv : TE} {pos : Pos} (hu : X.A.units + 1 < cLine) (hk : PE X k tk) (hv : PE X v tv) : PE X (.Dict [some k] [v] pos) (tDisp1 tk tv) := by
  refine ⟨fun pins s σ H Q I q => ?_⟩
  have hn := I.hok.fresh (Nat.le_refl s.heap.objs.size)
  have I1 := I.laid (a := s.heap.objs.size) (o := .dT []) (h' := s.heap.push { cls := .type "dict", data := .dict #[] }) (t' := s.toks) (fun _ _ q => Heap.get?_push_of_some _ q) (Nat.le_refl _) (dt_empty s.heap I.big)
  have hlen : (pairTrees [some k] [v] X.env pos).length = 1 := pairTrees_length _ _ _ _ rfl rfl
  rw [arm_eval_Dict, zip_pairTrees [some k] [v] X.env pos rfl rfl, dictDisplay_pairs (pairTrees [some k] [v] X.env pos) (by intro e; rw [e] at hlen; cases hlen) (by rw [hlen]; decide)]
  refine wpAny_bind (wpAny_standAt (wpAny_bind (wpAny_subDictH (knd := tupleKind (mixKind X.prog X.w)) (show X.A.units < cLine by omega) (by rw [hlen]; decide) ?_)))
  have hp : PPs X pos [some k] [v] [(tk, tv)] := pps_cons hk hv pps_nil
  let R : List (V × V) → Hp → Prop := fun ps H2 => match ps with
    | [(x, y)] => ∃ b ky, x = .ref b ∧ H2 s.heap.objs.size = some (.dT []) ∧ H2 b = some (.tup (ky.map kV)) ∧ Q (.ref s.heap.objs.size) (upd H2 s.heap.objs.size (.dT [(ky, y)]))
    | _ => False
  refine thn (hp.run pins _ σ _ R I1 (q s.heap.objs.size hn)) fun ws s2 ⟨ps, H2, I2, rel, qr⟩ => ?_
  match ps, qr with
  | [(x, y)], qr =>
    obtain ⟨b, ky, ex, e, eb, q2⟩ := qr
    subst ex
    obtain ⟨z, hd, xs0, r0, dd⟩ := dt_of I2.hok e
    cases r0
    cases rel with
    | @cons pa pb l1 l2 r1 r2 =>
      cases r2
      obtain ⟨u1, u2⟩ := pb
      obtain ⟨ru, rv⟩ := r1
      obtain rfl : u1 = Value.ref b := ru
      refine ⟨[(ky, b, u2)], ⟨rfl, rfl, key_of I2.hok eb, trivial⟩, dd, fun h' tk' dd' hs => wpAny_pure ⟨.ref s.heap.objs.size, upd H2 s.heap.objs.size (.dT [(ky, y)]), ?_, rfl, q2⟩⟩
      obtain ⟨qo, es, ep, hq, h2, h3, h4, _, h5⟩ := dd'
      refine d_write I2 (by rw [e]; exact True.intro) hs ⟨qo, hq⟩ ⟨by show 1 ≤ sizeLine; decide, hd, [(ky, b, u2)], .cons ⟨rfl, ?_, rv⟩ .nil, qo, es, ep, hq, h2, h3, h4, h5⟩
      rw [upd_ne (ne_of eb e (fun z => nomatch z))]
      exact eb

/-! ### a list's item, by values -/
def rGetL (K : PySem.W.Frag) : V → V → Hp → VK → Prop := fun o i H Q => ∃ (p : Addr) (xs : List V) (j : Nat) (v : V), o = .ref p ∧ i = .int (j : Int) ∧ SqL K H p xs ∧ xs[j]? = some v ∧ Q v H
theorem get_list : PGet X (rGetL X.K) := by
  rintro pins s σ H _ _ ov iv Q I ro ri ⟨p, xs, j, v, rfl, rfl, list, here, q⟩
  cases ro
  obtain ⟨t, rfl⟩ := ri
  obtain ⟨us, rel, lies, _⟩ := I.list list
  obtain ⟨u, eu, ru⟩ := rel.get here
  have same := rel.length
  have cap := line63
  have lt : j < xs.length := (List.getElem?_eq_some_iff.mp here).1
  exact wpAny_getItem_list (x := u) lies.isList (by omega) (by omega) (by simpa using eu) ⟨v, H, I, ru, q⟩
/-! ### a tuple of ints, once or more often -/
theorem tuple_mul1 (l : Addr) (items : Array Value) (n : Nat) (dd : Option Addr) (sl : Array (Option Value)) (u : Tok) :
    Meets (Builtin.«tuple.__mul__» ⟨[.ref l, .int 1 u], []⟩) (fun _ R s => s.heap.get? l = some { cls := .type "tuple", dict := dd, data := .seq items n, slots := sl } ∧
      R (.ok (.ret (Value.ref l))) s) :=
  .of_wp fun prog w A R s h => by
    obtain ⟨hp, g, d, tk, os⟩ := s
    obtain ⟨hl, h⟩ := h
    have f1 := AutoSeq1.idx_int
    have c0 : (decide ((1 : Int) < -(2 ^ 63)) || decide ((1 : Int) ≥ 2 ^ 63)) = false := by decide
    have c1 : (items.isEmpty || (1 : Int) == 1) = true := by simp
    wp_walk using wpAny_loadPart' hl
    all_goals exact ⟨_, rfl, h⟩
/-- (x,) * k, at least once -/
def rRepU (K : PySem.W.Frag) : R2 := fun x y H Q => ∃ (l : Addr) (k : Int) (v : V), x = .ref l ∧ y = .int k ∧ SqT K H l [v] ∧ 1 ≤ k ∧ k ≤ 1000 ∧ (k = 1 → Q (.ref l) H) ∧ (2 ≤ k → ∀ p, H p = none → Q (.ref p) (upd H p (.tup (List.replicate k.toNat [v]).flatten)))
theorem op_repU : OpR X (binaryOp .Mult) (rRepU X.K) := by
  rintro pins s σ H - - v u Q I rx ry ⟨l, k, w, rfl, rfl, tup, low, high, once, more⟩
  by_cases one : k = 1
  · subst one
    cases rx
    obtain ⟨t, rfl⟩ := ry
    obtain ⟨us, _, ⟨⟨_, dd, _, sl⟩, at_, rfl, n, rfl⟩, _⟩ := I.tuple tup
    have kind : s.TypeIs (.ref l) "tuple" := ⟨_, at_, rfl⟩
    refine wpAny_binaryOp_repeat_ref (T := "tuple") (U := "int") (by decide) kind (fun s' => typeIs_int s' 1 t) noFill_tuple_mul F.fills_int_mul F.slot_int_rmul repeat_tuple F.slot_int_index.lookup ?_
    refine call_meets F.slot_int_rmul (typeIs_int s 1 t) F.entry_int_rmul (F.args_int_rmul_2 _ _) (int_rmul_tuple 1 t l us.toArray n dd sl) ⟨at_, rfl, kind, ?_⟩
    exact call_meets F.slot_tuple_mul kind F.entry_tuple_mul (F.args_tuple_mul_2 _ _) (tuple_mul1 l us.toArray n dd sl t) ⟨at_, ⟨.ref l, H, I, rfl, once rfl⟩⟩
  · exact op_repT pins s σ H _ _ v u Q I rx ry ⟨l, k, [w], rfl, rfl, tup, by simp, by omega, high, by simp, more (by omega)⟩
end

/-! ### the cells that an iterator keeps for itself -/
theorem off {ch : List Addr} {c d : Addr} (n : c ∉ ch) (m : d ∈ ch) : c ≠ d := fun e => n (e ▸ m)
/-- every one is there, and none is a variable's cell -/
def Held (ch : List Addr) (h : Heap) : Prop := ∀ c ∈ ch, ∃ ob, h.get? c = some ob ∧ ∀ v, ob.data ≠ .cell v
theorem Held.nil {h : Heap} : Held [] h := nofun
theorem Held.cons {ch : List Addr} {h : Heap} {c : Addr} {ob : Obj} (e : h.get? c = some ob) (n : ∀ v, ob.data ≠ .cell v) (r : Held ch h) : Held (c :: ch) h :=
  List.forall_mem_cons.mpr ⟨⟨ob, e, n⟩, r⟩
theorem Held.below {ch : List Addr} {h : Heap} (hd : Held ch h) {c : Addr} (m : c ∈ ch) : c < h.objs.size :=
  (hd c m).elim fun _ w => Heap.lt_size w.1
theorem apart_cls {h : Heap} {a b : Addr} {o u : Obj} {m n : String} (ea : h.get? a = some o) (eb : h.get? b = some u) (ca : o.cls = .type m) (cb : u.cls = .type n) (d : m ≠ n) : a ≠ b := fun e => by
  subst e
  rw [ea] at eb
  cases eb
  rw [ca] at cb
  injection cb with e
  exact d e
theorem tuple_apart {h : Heap} {a c l : Addr} {arr : Array Value} {i : Nat} (p : h.IsTuple a arr) (q : h.IsTupleIter c l i) : a ≠ c :=
  let ⟨_, e1, c1, _⟩ := p
  let ⟨_, e2, c2, _⟩ := q
  apart_cls e1 e2 c1 c2 (by decide)
theorem list_apart {h : Heap} {a c l : Addr} {arr : Array Value} {i : Nat} (p : h.IsList a arr) (q : h.IsListIter c l i) : a ≠ c :=
  let ⟨_, e1, c1, _⟩ := p
  let ⟨_, e2, c2, _⟩ := q
  apart_cls e1 e2 c1 c2 (by decide)
theorem lt_arr {us : List Value} {u : Value} {i : Nat} (e : us[i]? = some u) : i < us.toArray.size := (List.getElem?_eq_some_iff.mp e).1
theorem from_new {n c : Nat} {ks : List Nat} (m : c ∈ ks.map (n + ·)) : n ≤ c :=
  (List.mem_map.mp m).elim fun _ w => w.2 ▸ Nat.le_add_right _ _
/-- a turn hands out a pair in a tuple that is new, and writes else in its own cells alone -/
theorem pair_out {X : Cx} {pins : List (Addr × Obj)} {σ : L2.St} {H : Hp} {s : Shared} {g : Heap} {tk : Nat} {ch : List Addr} {x y : V} {u v : Value} (I : Inv X pins σ H s) (fp : ∀ c ∈ ch, FpOk X pins H c)
    (k : ∀ c o, c ∉ ch → s.heap.get? c = some o → g.get? c = some o) (rx : RelV x u) (ry : RelV y v) (e : g.get? s.heap.objs.size = some { cls := .type "tuple", data := .seq #[u, v] }) :
    Inv X pins σ (upd H s.heap.objs.size (.tup [x, y])) { s with heap := g, toks := tk } ∧ H s.heap.objs.size = none ∧ (Held ch s.heap → ∀ c ∈ ch, upd H s.heap.objs.size (.tup [x, y]) c = none) := by
  refine ⟨I.turnedNew (t' := tk) (ch := ch) k fp (Nat.le_refl _) ?_, I.hok.fresh (Nat.le_refl _), fun hd c m => ?_⟩
  · exact ⟨show 2 ≤ sizeLine by decide, [u, v], .cons rx (.cons ry .nil), ⟨_, e, rfl, _, rfl⟩⟩
  · rw [upd_ne (Nat.ne_of_lt (hd.below m)), (fp c m).1]

/-! ### zip of a tuple and a list -/
def ItzM (K : PySem.W.Frag) (a b : Addr) : It where
  go i H := ∃ (xs ys : List V) (x y : V), SqT K H a xs ∧ SqL K H b ys ∧ xs[i]? = some x ∧ ys[i]? = some y
  yld i H v H' := ∃ T x y, v = .ref T ∧ H T = none ∧ H' = upd H T (.tup [x, y]) ∧ (∀ xs, SqT K H a xs → xs[i]? = some x) ∧ ∀ ys, SqL K H b ys → ys[i]? = some y
  stop i H := ∃ xs ys : List V, SqT K H a xs ∧ SqL K H b ys ∧ i ≤ xs.length ∧ i ≤ ys.length ∧ (i = xs.length ∨ i = ys.length)
/-- how such a zip lies in the heap after i turns -/
def ZipAt (z TI TO i1 i2 a b : Addr) (i : Nat) (h : Heap) : Prop :=
  IsZip h z TI TO .none ∧ IsTupOf2 h TI (.ref i1) (.ref i2) ∧ (∃ x y, IsTupOf2 h TO x y) ∧ h.IsTupleIter i1 a i ∧ h.IsListIter i2 b i
theorem ZipAt.held {z TI TO i1 i2 a b : Addr} {i : Nat} {h : Heap} : ZipAt z TI TO i1 i2 a b i h → Held [z, TI, TO, i1, i2] h
  | ⟨gz, gI, ⟨_, _, gO⟩, ⟨_, g1, _, d1⟩, ⟨_, g2, _, d2⟩⟩ => .cons gz nofun (.cons gI nofun (.cons gO nofun (.cons g1 (d1 ▸ nofun) (.cons g2 (d2 ▸ nofun) .nil))))
theorem ZipAt.kept {z TI TO i1 i2 a b : Addr} {i : Nat} {h g : Heap} : ZipAt z TI TO i1 i2 a b i h → (∀ c ∈ [z, TI, TO, i1, i2], ∀ o, h.get? c = some o → g.get? c = some o) → ZipAt z TI TO i1 i2 a b i g
  | ⟨gz, gI, ⟨p, q, gO⟩, g1, g2⟩, k => by
    simp only [List.forall_mem_cons] at k
    obtain ⟨kz, kI, kO, k1, k2, _⟩ := k
    exact ⟨kz _ gz, kI _ gI, ⟨p, q, kO _ gO⟩, g1.at k1, g2.at k2⟩
theorem turn_zipM {P : Program} {w : World} {K : PySem.W.Frag} {elts : List Expr} {kk : Nat} {tpos : Pos} {a b z TI TO i1 i2 : Addr} (D : ZipSep2 z TI TO i1 i2 [i1, a] [i2, b]) :
    Turn P w K (.Tuple elts kk tpos) (ItzM K a b) [z, TI, TO, i1, i2] z (ZipAt z TI TO i1 i2 a b) where
  mem := .head _
  obj _ _ st := st.held
  keep _ _ _ st k := st.kept k
  item := by
    rintro X rfl rfl rfl calm i pins s σ H E I fp st ⟨xs, ys, x, y, ta, lb, gx, gy⟩
    obtain ⟨us, ru, pu, _⟩ := I.tuple ta
    obtain ⟨vs, rv, pv, _⟩ := I.list lb
    obtain ⟨u, eu, rxu⟩ := ru.get gx
    obtain ⟨v, ev, ryv⟩ := rv.get gy
    have ⟨gz, gI, ⟨_, _, gO⟩, sa, sb⟩ := st
    refine wpAny_pyNext_zipD2_item D (Draws.tuple (hd1 I calm) i1 a (tuple_apart pu sa) us.toArray) (Draws.list (hd1 I calm) i2 b (list_apart pv.isList sb) vs.toArray)
      gz gI gO ⟨sa, pu⟩ ⟨sb, pv.isList⟩ (lt_arr eu) (lt_arr ev) fun u' v' g1 tk gu gv z1 O1 a1 b1 T1 _ k1 => ⟨_, rfl, ?_⟩
    refine wpAny_letOwnedTupleGo_zip (s := { s with heap := g1, toks := tk }) z1 fun g2 z2 k2 => ?_
    have far : ∀ c, c ≠ z → g2.get? c = g1.get? c := k2.2
    obtain rfl : u = u' := by rw [List.getElem?_toArray, eu] at gu; exact Option.some.inj gu
    obtain rfl : v = v' := by rw [List.getElem?_toArray, ev] at gv; exact Option.some.inj gv
    have zT : s.heap.objs.size ≠ z := Nat.ne_of_gt (st.held.below (.head _))
    have kk : ∀ c o, c ∉ [z, TI, TO, i1, i2] → s.heap.get? c = some o → g2.get? c = some o := fun c o n e =>
      (far c (off n (by simp))).trans (k1 c o (off n (by simp)) (off n (by simp)) (off n (by simp)) (off n (by simp)) e)
    obtain ⟨J, free, gone⟩ := pair_out (tk := tk) I fp kk rxu ryv ((far _ zT).trans T1)
    refine ⟨.ref s.heap.objs.size, _, J, rfl, ⟨_, x, y, rfl, free, rfl, fun l m => ?_, fun l m => ?_⟩, ⟨z2, (far _ D.TIz).trans (k1 _ _ D.TIz D.TITO D.TIi1 D.TIi2 gI), ⟨u, v, (far _ D.TOz).trans O1⟩, a1.1.at fun o e => ?_, b1.1.at fun o e => ?_⟩, gone st.held⟩
    · cases I.tuple_inj m ta; exact gx
    · cases I.list_inj m lb; exact gy
    · rw [far _ D.zi1.symm, e]
    · rw [far _ D.zi2.symm, e]
  done := by
    rintro X rfl rfl rfl calm i pins s σ H E I fp ⟨gz, gI, ⟨_, _, gO⟩, sa, sb⟩ ⟨xs, ys, ta, lb, n1, n2, stop⟩
    obtain ⟨us, ru, pu, _⟩ := I.tuple ta
    obtain ⟨vs, rv, pv, _⟩ := I.list lb
    have m1 : us.toArray.size = xs.length := ru.length.symm
    have m2 : vs.toArray.size = ys.length := rv.length.symm
    refine wpAny_pyNext_zipD2_end D (Draws.tuple (hd1 I calm) i1 a (tuple_apart pu sa) us.toArray) (Draws.list (hd1 I calm) i2 b (list_apart pv.isList sb) vs.toArray)
      gz gI gO ⟨sa, pu⟩ ⟨sb, pv.isList⟩ (m1 ▸ n1) (m2 ▸ n2) (by rw [m1, m2]; exact stop) fun g tk k => ⟨rfl, ?_⟩
    exact I.turnedL (t' := tk) (ch := [z, TI, TO, i1, i2]) (fun c o n => k c o (off n (by simp)) (off n (by simp)) (off n (by simp)) (off n (by simp))) fp
  self _ _ _ _ _ st := wpAny_pyIter_zip st.1
def iZipM (K : PySem.W.Frag) (ta : TA) : TI := fun σ H R => ta σ H fun vs H1 => ∃ a b xs ys, vs = [.ref a, .ref b] ∧ SqT K H1 a xs ∧ SqL K H1 b ys ∧ R (ItzM K a b) H1
theorem pi_zipM {X : Cx} {e e2 : Expr} {ta : TA} {p pos tpos : Pos} {elts : List Expr} {kk : Nat} (hg : Gl X "zip") (hm : X.mg "zip" = none) (ha : PA X [e, e2] ta)
    (two : starEach [e, e2] X.env = (false, eval e X.env) :: starEach [e2] X.env := by rfl) (flat : (backTo pos (starEach [e2] X.env)).any (·.1) = false := by rfl) :
    PI X (.Tuple elts kk tpos) (.Call (.Name "zip" p) [e, e2] [] pos) (iZipM X.K ta) where
  run pins s σ H R I h := by
    refine Call_ (ld_blt I hg hm boot_zip (callWith_type1 (thn (ha.run pos pins s σ H _ I h) ?_) two flat))
    rintro us s1 ⟨_, H1, J, rel, a, b, xs, ys, rfl, ta, lb, q⟩
    obtain rfl := refs_at (ps := [a, b]) rel
    obtain ⟨us, _, pu, _⟩ := J.tuple ta
    obtain ⟨vs, _, pv, _⟩ := J.list lb
    refine zip_begins2 (begins_tuple a us.toArray) (begins_list b vs.toArray) pu pv.isList fun g gz gI gO g1 g2 _ k => wpAny_pyIter_zip gz ?_
    have sep := zip_sep2 (N := s1.heap.objs.size) (fp1 := [a]) (fp2 := [b]) (by simpa using pu.lt) (by simpa using pv.lt)
    refine ⟨_, _, _, _, H1, rfl, J.kept (t' := s1.toks) k, turn_zipM sep, ⟨gz, gI, ⟨_, _, gO⟩, ⟨_, g1, rfl, rfl⟩, ⟨_, g2, rfl, rfl⟩⟩, fun c m => ?_, q⟩
    have up : s1.heap.objs.size ≤ c := from_new (ks := [4, 2, 3, 0, 1]) m
    exact J.fpOk up (J.hok.fresh up)
theorem walk_zipM {K : PySem.W.Frag} {a b : Addr} {xs ys : List V} {n : Nat} (h1 : xs.length = n) (h2 : ys.length = n) : Walk (ItzM K a b) n (fun H => SqT K H a xs ∧ SqL K H b ys) (YPair (fun i => xs[i]?) (fun i => ys[i]?)) := by
  subst h1
  refine ⟨fun i H lt st => ⟨xs, ys, _, _, st.1, st.2, List.getElem?_eq_getElem lt, List.getElem?_eq_getElem (h2 ▸ lt)⟩, fun H st => ⟨xs, ys, st.1, st.2, Nat.le_refl _, Nat.le_of_eq h2.symm, .inl rfl⟩, ?_⟩
  rintro i H v H' - st ⟨T, x, y, ev, eT, eH, fx, fy⟩
  exact ⟨T, x, y, ev, eT, eH, fx _ st.1, fy _ st.2⟩

/-! ### enumerate of a tuple -/
def IteT (K : PySem.W.Frag) (a : Addr) : It where
  go i H := ∃ (xs : List V) (x : V), SqT K H a xs ∧ xs[i]? = some x
  yld i H v H' := ∃ T x, v = .ref T ∧ H T = none ∧ H' = upd H T (.tup [.int (i : Nat), x]) ∧ ∀ xs, SqT K H a xs → xs[i]? = some x
  stop i H := ∃ xs : List V, SqT K H a xs ∧ xs.length = i
def EnumAt (e c a : Addr) (i : Nat) (h : Heap) : Prop := (∃ old, IsEnum h e c ((i : Nat) : Int) old) ∧ h.IsTupleIter c a i ∧ e ≠ c
theorem EnumAt.held {e c a : Addr} {i : Nat} {h : Heap} : EnumAt e c a i h → Held [e, c] h
  | ⟨⟨_, ge⟩, ⟨_, gc, _, d⟩, _⟩ => .cons ge nofun (.cons gc (d ▸ nofun) .nil)
theorem EnumAt.kept {e c a : Addr} {i : Nat} {h g : Heap} : EnumAt e c a i h → (∀ x ∈ [e, c], ∀ o, h.get? x = some o → g.get? x = some o) → EnumAt e c a i g
  | ⟨⟨old, ge⟩, gc, n⟩, k => ⟨⟨old, k e (.head _) _ ge⟩, gc.at (k c (.tail _ (.head _))), n⟩
theorem turn_enumT {P : Program} {w : World} {K : PySem.W.Frag} {elts : List Expr} {kk : Nat} {tpos : Pos} {a e c : Addr} (hae : a ≠ e) :
    Turn P w K (.Tuple elts kk tpos) (IteT K a) [e, c] e (EnumAt e c a) where
  mem := .head _
  obj _ _ st := st.held
  keep _ _ _ st k := st.kept k
  item := by
    rintro X rfl rfl rfl calm i pins s σ H E I fp st ⟨xs, x, ta, gx⟩
    obtain ⟨us, ru, pu, _⟩ := I.tuple ta
    obtain ⟨u, eu, rxu⟩ := ru.get gx
    have ⟨⟨_, ge⟩, gc, ne⟩ := st
    refine wpAny_pyNext_enum_itemC (Draws.tuple (hd1 I calm) c a (tuple_apart pu gc) us.toArray) ge ⟨gc, pu⟩ (lt_arr eu) ne (by simp [ne, hae.symm]) fun u' g1 tk gu o1 c1 T1 _ k1 => ⟨_, rfl, ?_⟩
    refine wpAny_letOwnedTupleGo_enum (s := { s with heap := g1, toks := tk + 1 }) o1 fun g2 e2 k2 => ?_
    have far : ∀ b, b ≠ e → g2.get? b = g1.get? b := k2.2
    obtain rfl : u = u' := by rw [List.getElem?_toArray, eu] at gu; exact Option.some.inj gu
    have eT : s.heap.objs.size ≠ e := Nat.ne_of_gt (st.held.below (.head _))
    have kk : ∀ b o, b ∉ [e, c] → s.heap.get? b = some o → g2.get? b = some o := fun b o n q => (far b (off n (by simp))).trans (k1 b o (off n (by simp)) (off n (by simp)) q)
    obtain ⟨J, free, gone⟩ := pair_out (x := .int (i : Nat)) (tk := tk + 1) I fp kk ⟨_, rfl⟩ rxu ((far _ eT).trans T1)
    refine ⟨.ref s.heap.objs.size, _, J, rfl, ⟨_, x, rfl, free, rfl, fun l m => ?_⟩, ⟨⟨u, e2⟩, c1.1.at fun o q => ?_, ne⟩, gone st.held⟩
    · cases I.tuple_inj m ta; exact gx
    · rw [far _ ne.symm, q]
  done := by
    rintro X rfl rfl rfl calm i pins s σ H E I fp ⟨⟨_, ge⟩, gc, ne⟩ ⟨xs, ta, rfl⟩
    obtain ⟨us, ru, pu, _⟩ := I.tuple ta
    rw [ru.length] at gc
    refine wpAny_pyNext_enum_endD (Draws.tuple (hd1 I calm) c a (tuple_apart pu gc) us.toArray) ge ⟨gc, pu⟩ fun g k => ⟨rfl, ?_⟩
    have ⟨w0, w1, _, w3, w4, w5⟩ := fp c (by simp)
    exact I.turned (t' := s.toks) (it := c) k w0 w1 w3 w4 w5
  self _ _ _ _ _ st := st.1.elim fun _ ge => wpAny_pyIter_enum ge
end Dp
namespace PySem
open AutoSeq1 (wpAny_loadPart')
/-- enumerate(v), v told by how it begins -/
theorem dp_enum_new {v : Value} {o : Obj} {G : Heap → Prop} (B : Begins v o G) :
    Meets (Builtin.«enumerate.__new__» ⟨[.type "enumerate", v], []⟩) (fun _ R s => G s.heap ∧
      R (.ok (.ret (.ref (s.heap.push o).objs.size))) { s with heap := (s.heap.push o).push { cls := .type "enumerate", data := .fields #[.none, .bool false, .ref s.heap.objs.size, rawInt 0, .none, .none] } }) :=
  .of_wp fun prog w A R s h => by
    obtain ⟨hp, g, d, tk, os⟩ := s
    obtain ⟨hG, h⟩ := h
    have hsub := sub_enumerate
    have begun : ∀ {A' : Around} {E : Value → Shared → Prop} {Q : Value → Shared → Prop}, Q (.ref hp.objs.size) ⟨hp.push o, g, d, tk, os⟩ → wpAny (model prog w) A' (pyIter v) Q E ⟨hp, g, d, tk, os⟩ := fun q => B.iter prog w _ _ ⟨hp, g, d, tk, os⟩ _ hG q
    wp_walk using begun
    refine wpAny_stack_any fun st => wpAny_pure ?_
    split
    · rename_i c _ _ _ _ _
      cases (c == Value.type "enumerate") <;> (wp_walk using begun; exact ⟨_, rfl, h⟩)
    · wp_walk using begun
      exact ⟨_, rfl, h⟩
theorem dp_enum_call {prog : Program} {w : World} {A : Around} {E : Value → Shared → Prop} {s : Shared} {v : Value} {o : Obj} {G : Heap → Prop} {Q : Value → Shared → Prop} (B : Begins v o G) (hG : G s.heap)
    (h : ∀ h', IsEnum h' (s.heap.objs.size + 1) s.heap.objs.size 0 .none → h'.get? s.heap.objs.size = some o → (∀ b u, s.heap.get? b = some u → h'.get? b = some u) → Q (.ref (s.heap.objs.size + 1)) { s with heap := h' }) :
    wpAny (model prog w) A (call (.type "enumerate") [v]) Q E s := by
  refine callType_new F.called_enumerate (by decide) (F.typeCall_enumerate_1 _) (F.newCall_enumerate_1 _) (fun obj => F.args_object_init_2 obj _) F.entry_enumerate_new (dp_enum_new B) ⟨hG, ?_⟩
  have z1 : (s.heap.push o).objs.size = s.heap.objs.size + 1 := Heap.size_push ..
  let e : Obj := { cls := .type "enumerate", data := .fields #[.none, .bool false, .ref s.heap.objs.size, rawInt 0, .none, .none] }
  have he : ((s.heap.push o).push e).get? (s.heap.objs.size + 1) = some e := by
    rw [← z1]
    exact Heap.get?_push_size (s.heap.push o) (o := e) rfl
  show _ ∧ _
  rw [z1]
  exact ⟨⟨_, he, rfl⟩, h _ he (Heap.get?_push_of_some _ (Heap.get?_push_size _ B.free)) fun b u x => Heap.get?_push_of_some _ (Heap.get?_push_of_some _ x)⟩
end PySem
namespace Dp
open PySem PySem.Spec PyProof.Rows L2
def iEnumT (K : PySem.W.Frag) (ta : TA) : TI := fun σ H R => ta σ H fun vs H1 => ∃ a xs, vs = [.ref a] ∧ SqT K H1 a xs ∧ R (IteT K a) H1
theorem pi_enumT {X : Cx} {e : Expr} {ta : TA} {p pos tpos : Pos} {elts : List Expr} {kk : Nat} (hg : Gl X "enumerate") (hm : X.mg "enumerate" = none) (ha : PA X [e] ta) (one : starEach [e] X.env = [(false, eval e X.env)] := by rfl) :
    PI X (.Tuple elts kk tpos) (.Call (.Name "enumerate" p) [e] [] pos) (iEnumT X.K ta) where
  run pins s σ H R I h := by
    refine Call_ (ld_blt I hg hm boot_enumerate (callWith_type1 (thn (ha.run pos pins s σ H _ I h) ?_) one rfl))
    rintro us s1 ⟨_, H1, J, rel, a, xs, rfl, ta, q⟩
    obtain rfl := refs_at (ps := [a]) rel
    obtain ⟨us, _, pu, _⟩ := J.tuple ta
    refine dp_enum_call (begins_tuple a us.toArray) pu fun g ge gc k => wpAny_pyIter_enum ge ?_
    have new : a ≠ s1.heap.objs.size + 1 := Nat.ne_of_lt (Nat.lt_succ_of_lt pu.lt)
    refine ⟨_, _, _, _, H1, rfl, J.kept (t' := s1.toks) k, turn_enumT (c := s1.heap.objs.size) new, ⟨⟨.none, ge⟩, ⟨_, gc, rfl, rfl⟩, Nat.succ_ne_self _⟩, fun c m => ?_, q⟩
    have up : s1.heap.objs.size ≤ c := from_new (ks := [1, 0]) m
    exact J.fpOk up (J.hok.fresh up)
theorem walk_enumT {K : PySem.W.Frag} {a : Addr} {xs : List V} : Walk (IteT K a) xs.length (fun H => SqT K H a xs) (YPair (fun i => some (.int (i : Nat))) (fun i => xs[i]?)) := by
  refine ⟨fun i H lt st => ⟨xs, _, st, List.getElem?_eq_getElem lt⟩, fun H st => ⟨xs, st, rfl⟩, ?_⟩
  rintro i H v H' - st ⟨T, x, ev, eT, eH, fx⟩
  exact ⟨T, .int (i : Nat), x, ev, eT, eH, rfl, fx _ st⟩
/-! ### heaps -/
theorem same_new {H : Hp} {p : Addr} {o : HO} (h : H p = none) : Same H (upd H p o) := fun b x e => by
  rw [upd_ne (ne_of_none e h)]
  exact e
theorem same_seqT {K : PySem.W.Frag} {H H' : Hp} {a : Addr} {xs : List V} (e : Same H H') (h : SqT K H a xs) : SqT K H' a xs :=
  h.imp (Or.imp (e a _) (Exists.imp fun _ => e a _)) id
/-- all that was tracked but at r is as it was -/
def SameBut (r : Addr) (H H' : Hp) : Prop := ∀ b o, b ≠ r → H b = some o → H' b = some o
theorem SameBut.refl (r : Addr) (H : Hp) : SameBut r H H := fun _ _ _ h => h
theorem SameBut.trans {r : Addr} {H H1 H2 : Hp} (a : SameBut r H H1) (b : SameBut r H1 H2) : SameBut r H H2 := fun c o n h => b c o n (a c o n h)
theorem SameBut.of {r : Addr} {H H1 : Hp} (a : Same H H1) : SameBut r H H1 := fun c o _ h => a c o h
theorem SameBut.upd {r : Addr} {H : Hp} {o : HO} : SameBut r H (L2.upd H r o) := fun c u n h => by rw [upd_ne n]; exact h
/-- written at a place that was free before -/
theorem _root_.L2.Same.put {H H1 : Hp} {p : Addr} {o : HO} (s : Same H H1) (n : H p = none) : Same H (upd H1 p o) := fun b x e => by
  rw [upd_ne (ne_of_none e n)]
  exact s b x e
theorem _root_.L2.Same.new {H H1 : Hp} {p : Addr} {o : HO} (s : Same H H1) (n : H1 p = none) : Same H (upd H1 p o) := s.trans (same_new n)
/-! ### tests -/
theorem ifD {p A B : Prop} [Decidable p] (h1 : p → A) (h2 : ¬ p → B) : if decide p = true then A else B := by
  by_cases h : p
  · rw [if_pos (decide_eq_true h)]; exact h1 h
  · rw [if_neg (by simpa using h)]; exact h2 h
theorem ifDT {p A B : Prop} [Decidable p] (h : p) (a : A) : if decide p = true then A else B := by
  rw [if_pos (decide_eq_true h)]; exact a
theorem ifDF {p A B : Prop} [Decidable p] (h : ¬ p) (b : B) : if decide p = true then A else B := by
  rw [if_neg (by simpa using h)]; exact b
theorem ifND {p A B : Prop} [Decidable p] (h1 : ¬ p → A) (h2 : p → B) : if (!decide p) = true then A else B := by
  by_cases h : p
  · rw [decide_eq_true h]; exact h2 h
  · rw [decide_eq_false h]; exact h1 h
theorem ifB {b : Bool} {A B : Prop} (h1 : b = true → A) (h2 : b = false → B) : if b = true then A else B := by
  cases b with
  | true => exact h1 rfl
  | false => exact h2 rfl
theorem int_eq {i j : Int} (h : i = j) : V.int i = V.int j := by rw [h]
theorem int_ne {i j : Int} (h : i ≠ j) : ¬ V.int i = V.int j := fun z => h (by injection z)
end Dp

set_option Elab.async false
set_option linter.all false
set_option maxRecDepth 100000
set_option maxHeartbeats 4000000
/-! is_in, is_factor, need_table, need_player, need_let, need_bank. -/
namespace Dp
open PySem PySem.Spec PyProof.Rows L2
/-- the built-ins that the text names: none is hidden by a name of the module -/
structure Gb (mg : Str → Option Value) : Prop where
  isinstance : mg "isinstance" = none
  int : mg "int" = none
  bool : mg "bool" = none
  tuple : mg "tuple" = none
  list : mg "list" = none
  str : mg "str" = none
  len : mg "len" = none
  enumerate : mg "enumerate" = none
  sum : mg "sum" = none
  range : mg "range" = none
  zip : mg "zip" = none
  min : mg "min" = none
  max : mg "max" = none
/-- the module's constants -/
structure Gc (mg : Str → Option Value) : Prop where
  players : ∃ t, mg "MOST_PLAYERS" = some (.int 6 t)
  coins : ∃ t, mg "MOST_COINS" = some (.int 1000000 t)
  least : ∃ t, mg "LEAST_FACTOR" = some (.int 2 t)
  most : ∃ t, mg "MOST_FACTOR" = some (.int 9 t)
  lets : ∃ t, mg "MOST_LET" = some (.int 12 t)
  words : ∃ t, mg "MOST_WORDS" = some (.int 2000 t)
/-- a def of the text: where it stands, how its arguments bind, its name in the module -/
structure Df (K : PySem.W.Frag) (mg : Str → Option Value) (x : Str) (st : Stmt) (f : Addr) (fd : FuncData) (ps : List Str) : Prop where
  fn : Fun K x x st f fd
  bind : Binds K fd ps []
  glob : mg x = some (.ref f)
theorem Df.kp {K : PySem.W.Frag} {mg : Str → Option Value} {x : Str} {st : Stmt} {f : Addr} {fd : FuncData} {ps : List Str} (D : Df K mg x st f fd ps) : PySem.W.keepIn K (.ref f) = true := D.fn.kp
section
variable {P : Program} {w : World} {K : PySem.W.Frag} {mg : Str → Option Value} {base : Heap}
/-- a table: its factor, its coins' tuple, its coins -/
structure Tab (H : Hp) (t : Addr) (f : Int) (c : Addr) (ns : List Int) : Prop where
  at_ : H t = some (.tup [.int f, .ref c])
  coins : H c = some (.tup (ns.map V.int))
  fac : 2 ≤ f ∧ f ≤ 9
  len : 1 ≤ ns.length ∧ ns.length ≤ 4
  low : ∀ x ∈ ns, 0 ≤ x ∧ x ≤ 1000000
  pos : 0 < ns.sum
theorem Tab.same {H H' : Hp} {t : Addr} {f : Int} {c : Addr} {ns : List Int} (T : Tab H t f c ns) (s : Same H H') : Tab H' t f c ns :=
  ⟨s _ _ T.at_, s _ _ T.coins, T.fac, T.len, T.low, T.pos⟩
/-! ### is_in -/
def spIsIn : Sp := fun vs H Q _ => ∃ v lo hi : Int, vs = [.int v, .int lo, .int hi] ∧ Q (.bl (decide (lo ≤ v ∧ v ≤ hi))) H
theorem ok_isIn {f : Addr} {fd : FuncData} {k : Nat} (F : Fun K "is_in" "is_in" sIsIn f fd) (G : Gb mg) : FnOk P w K mg base CX0 (k + 1) f fd ["value", "least", "most"] spIsIn := by
  refine F.ok scIsIn (fun vs H Q E h => ?_) (fun cdv A outer s H vs Q E hr h => ?_)
  · obtain ⟨v, lo, hi, rfl, _⟩ := h
    rfl
  · obtain ⟨v, lo, hi, rfl, q⟩ := h
    refine ⟨_, pss_one (ps_ret (pe_and (pe_callB call_isi (by rfl) G.isinstance boot_isinstance (pa_cons (pv 0) (pa_cons (pe_bltn (v := .ty "int") (by rfl) G.int PyProof.Rows.boot_int rfl) pa_nil)))
      (pe_and (pe_not (pe_callB call_isi (by rfl) G.isinstance boot_isinstance (pa_cons (pv 0) (pa_cons (pe_bltn (v := .ty "bool") (by rfl) G.bool PyProof.Rows.boot_bool rfl) pa_nil))))
      (pe_one (pe_chain op_le op_le (pv 1) (pv 0) (pv 2)))))), ?_⟩
    refine ⟨_, rfl, _, _, _, _, true, rfl, .ty "int", .base (.int v), kit_ty (by decide +kernel), _, rfl, iteT ?_⟩
    refine ⟨_, rfl, _, _, _, _, false, rfl, .ty "bool", .base (.int v), kit_ty (by decide +kernel), _, rfl, _, rfl, iteT ?_⟩
    refine ⟨_, rfl, _, rfl, _, _, rfl, rfl, _, rfl, ?_⟩
    by_cases h1 : lo ≤ v
    · rw [if_pos (decide_eq_true h1)]
      refine ⟨_, rfl, _, _, rfl, rfl, ?_⟩
      have e : decide (lo ≤ v ∧ v ≤ hi) = decide (v ≤ hi) := by simp [h1]
      rw [e] at q
      exact q
    · rw [if_neg (by simpa using h1)]
      have e : decide (lo ≤ v ∧ v ≤ hi) = false := by simp [h1]
      rw [e] at q
      exact q
/-! ### is_factor -/
def spIsFactor : Sp := fun vs H Q _ => ∃ v : Int, vs = [.int v] ∧ Q (.bl (decide (2 ≤ v ∧ v ≤ 9))) H
theorem ok_isFactor {f fI : Addr} {fd fdI : FuncData} (F : Fun K "is_factor" "is_factor" sIsFactor f fd) (C : Gc mg) (D : Df K mg "is_in" sIsIn fI fdI ["value", "least", "most"])
    (GI : FnOk P w K mg base CX0 1 fI fdI ["value", "least", "most"] spIsIn) : FnOk P w K mg base CX0 2 f fd ["value"] spIsFactor := by
  obtain ⟨t1, c1⟩ := C.least
  obtain ⟨t2, c2⟩ := C.most
  refine F.ok scIsFactor (fun vs H Q E h => ?_) (fun cdv A outer s H vs Q E hr h => ?_)
  · obtain ⟨v, rfl, _⟩ := h
    rfl
  · obtain ⟨v, rfl, q⟩ := h
    refine ⟨_, pss_one (ps_ret (pe_call GI hr (by rfl) D.glob D.kp D.bind .nil pass0 (pa_cons (pv 0) (pa_cons (pe_glob (v := .int 2) (by rfl) c1 ⟨_, rfl⟩) (pa_cons (pe_glob (v := .int 9) (by rfl) c2 ⟨_, rfl⟩) pa_nil))))), ?_⟩
    exact ⟨_, rfl, v, 2, 9, rfl, q⟩
/-! ### need_table -/
def spNeedTable : Sp := fun vs H Q _ => ∃ t f c ns, vs = [.ref t] ∧ Tab H t f c ns ∧ ∀ H', Same H H' → Q .non H'
theorem ok_needTable {f fI fF : Addr} {fd fdI fdF : FuncData} (F : Fun K "need_table" "need_table" sNeedTable f fd) (G : Gb mg) (C : Gc mg)
    (DI : Df K mg "is_in" sIsIn fI fdI ["value", "least", "most"]) (GI : FnOk P w K mg base CX0 1 fI fdI ["value", "least", "most"] spIsIn)
    (DF : Df K mg "is_factor" sIsFactor fF fdF ["value"]) (GF : FnOk P w K mg base CX0 2 fF fdF ["value"] spIsFactor) : FnOk P w K mg base CX0 3 f fd ["table"] spNeedTable := by
  obtain ⟨t1, c1⟩ := C.players
  obtain ⟨t2, c2⟩ := C.coins
  refine F.ok scNeedTable (fun vs H Q E h => ?_) (fun cdv A outer s H vs Q E hr h => ?_)
  · obtain ⟨t, f, c, ns, rfl, _⟩ := h
    rfl
  · obtain ⟨t, fa, c, ns, rfl, T, q⟩ := h
    refine ⟨_, pss_cons (ps_if (PW.pt (pw_or (pt_not (pt_val (pe_callB call_isi (by rfl) G.isinstance boot_isinstance (pa_cons (pv 0) (pa_cons (pe_bltn (v := .ty "tuple") (by rfl) G.tuple PyProof.Rows.boot_tuple rfl) pa_nil)))))
        (pw_or (pt_cmpR op_ne (pe_callB call_len_seq (by rfl) G.len PySem.boot_len (pa_cons (pv 0) pa_nil)) pe_int (nomark _))
        (pw_or1 (pt_not (pt_val (pe_call GF hr (by rfl) DF.glob DF.kp DF.bind .nil pass0 (pa_cons (pe_ix ix_tup (pv 0) pe_int (fun _ _ => rfl)) pa_nil)))))))) pss_never pss_nil)
      (pss_cons (ps_if (PW.pt (pw_or (pt_not (pt_val (pe_callB call_isi (by rfl) G.isinstance boot_isinstance (pa_cons (pe_ix ix_tup (pv 0) pe_int (fun _ _ => rfl)) (pa_cons (pe_bltn (v := .ty "tuple") (by rfl) G.tuple PyProof.Rows.boot_tuple rfl) pa_nil)))))
        (pw_or1 (pt_not (pt_chain op_le op_le pe_int (pe_callB call_len_seq (by rfl) G.len PySem.boot_len (pa_cons (pe_ix ix_tup (pv 0) pe_int (fun _ _ => rfl)) pa_nil)) (pe_glob (v := .int 6) (by rfl) c1 ⟨_, rfl⟩)))))) pss_never pss_nil)
      (pss_cons (ps_for PassesOwn.never rfl (pi_enumT (by rfl) G.enumerate (pa_cons (pe_ix ix_tup (pv 0) pe_int (fun _ _ => rfl)) pa_nil))
          (pg_tup rfl (pgs_cons (pg_name (i := 1) scNeedTable.nd rfl (.inl rfl)) (pgs_cons (pg_name (i := 2) scNeedTable.nd rfl (.inl rfl)) pgs_nil)))
          (pss_one (ps_if (pt_not (pt_val (pe_call GI (hr.mono (by decide)) (by rfl) DI.glob DI.kp DI.bind .nil pass0 (pa_cons (pv 2) (pa_cons pe_int (pa_cons (pe_glob (v := .int 1000000) (by rfl) c2 ⟨_, rfl⟩) pa_nil)))))) pss_never pss_nil)))
      (pss_one (ps_if (pt_cmpR op_eq (pe_callB (cr_sumT rfl) (by rfl) G.sum PyProof.Rows.boot_sum (pa_cons (pe_ix ix_tup (pv 0) pe_int (fun _ _ => rfl)) pa_nil)) pe_int (nomark _)) pss_never pss_nil)))), ?_⟩
    -- the first test
    refine ⟨_, rfl, _, _, _, _, true, rfl, .ty "tuple", .base (.tup T.at_), kit_ty (by decide +kernel), true, rfl, iteF ?_⟩
    refine ⟨_, rfl, t, _, rfl, .inr (SqT.of T.at_), rfl, _, rfl, iteF ?_⟩
    refine ⟨_, rfl, t, _, _, _, rfl, rfl, SqT.of T.at_, rfl, fa, rfl, true, ?_, iteF ?_⟩
    · rw [decide_eq_true T.fac]
    -- the second
    refine ⟨_, rfl, t, _, _, _, rfl, rfl, SqT.of T.at_, rfl, _, _, _, _, true, rfl, .ty "tuple", .base (.tup T.coins), kit_ty (by decide +kernel), true, rfl, iteF ?_⟩
    refine ⟨_, rfl, t, _, _, _, rfl, rfl, SqT.of T.at_, rfl, c, _, rfl, .inr (SqT.of T.coins), _, _, rfl, rfl, true, ?_, iteT ⟨_, _, rfl, rfl, true, ?_, iteF ?_⟩⟩
    · have := T.len
      rw [List.length_map]
      exact congrArg V.bl (decide_eq_true (by omega))
    · have := T.len
      rw [List.length_map]
      exact congrArg V.bl (decide_eq_true (by omega))
    -- the loop
    refine ⟨_, rfl, t, _, _, _, rfl, rfl, SqT.of T.at_, rfl, c, _, rfl, SqT.of T.coins, ?_⟩
    refine for_it (walk_enumT (xs := ns.map V.int)) (fun i σ H1 => ∃ y z, σ = [some (.ref t), y, z] ∧ Same H H1) ⟨_, _, rfl, Same.refl H⟩ (fun i σ H1 _ h => ?_) (fun i x σ H1 H2 hi h y => ?_) (fun σ H1 h => ?_)
    · obtain ⟨_, _, _, s1⟩ := h
      exact SqT.of (s1 _ _ T.coins)
    · obtain ⟨y1, z1, rfl, s1⟩ := h
      obtain ⟨Tp, x1, x2, rfl, nT, rfl, e1, e2⟩ := y
      refine ⟨Tp, _, rfl, .inl (.inl upd_same), rfl, x1, [x2], rfl, x2, [], rfl, rfl, ?_⟩
      have e2 : (ns.map V.int)[i]? = some x2 := e2
      rw [List.getElem?_map] at e2
      cases en : ns[i]? with
      | none => rw [en] at e2; cases e2
      | some n =>
        rw [en] at e2
        have ex : x2 = .int n := (Option.some.inj e2).symm
        have hn := T.low n (List.mem_of_getElem? en)
        refine ⟨x2, rfl, n, 0, 1000000, (by rw [ex]; rfl), _, rfl, ?_⟩
        rw [decide_eq_true hn]
        exact iteF ⟨_, _, rfl, s1.new nT⟩
    · obtain ⟨y1, z1, rfl, s1⟩ := h
      refine ⟨_, rfl, t, _, _, _, rfl, rfl, SqT.of (s1 _ _ T.at_), rfl, c, ns, rfl, SqT.of (s1 _ _ T.coins), rfl, _, rfl, ?_⟩
      have := T.pos
      rw [decide_eq_false (fun z => by injection z with z; omega)]
      exact iteF (q H1 s1)
/-! ### need_player, need_let, need_bank -/
def spNeedPlayer : Sp := fun vs H Q _ => ∃ t f c ns, ∃ b : Nat, vs = [.ref t, .int b] ∧ Tab H t f c ns ∧ b < ns.length ∧ Q .non H
theorem ok_needPlayer {f fI : Addr} {fd fdI : FuncData} (F : Fun K "need_player" "need_player" sNeedPlayer f fd) (G : Gb mg)
    (DI : Df K mg "is_in" sIsIn fI fdI ["value", "least", "most"]) (GI : FnOk P w K mg base CX0 1 fI fdI ["value", "least", "most"] spIsIn) : FnOk P w K mg base CX0 2 f fd ["table", "player"] spNeedPlayer := by
  refine F.ok scNeedPlayer (fun vs H Q E h => ?_) (fun cdv A outer s H vs Q E hr h => ?_)
  · obtain ⟨t, f, c, ns, b, rfl, _⟩ := h
    rfl
  · obtain ⟨t, fa, c, ns, b, rfl, T, hb, q⟩ := h
    refine ⟨_, pss_one (ps_if (pt_not (pt_val (pe_call GI hr (by rfl) DI.glob DI.kp DI.bind .nil pass0 (pa_cons (pv 1) (pa_cons pe_int (pa_cons (pe_op op_sub (pe_callB call_len_seq (by rfl) G.len PySem.boot_len (pa_cons (pe_ix ix_tup (pv 0) pe_int (fun _ _ => rfl)) pa_nil)) pe_int) pa_nil)))))) pss_never pss_nil), ?_⟩
    refine ⟨_, rfl, _, rfl, t, _, _, _, rfl, rfl, SqT.of T.at_, rfl, c, _, rfl, .inr (SqT.of T.coins), _, _, rfl, rfl, b, 0, _, rfl, _, rfl, ?_⟩
    rw [decide_eq_true (by rw [List.length_map]; omega)]
    exact iteF q
def spNeedLet : Sp := fun vs H Q _ => ∃ m : Nat, vs = [.int m] ∧ m ≤ 12 ∧ Q .non H
theorem ok_needLet {f fI : Addr} {fd fdI : FuncData} (F : Fun K "need_let" "need_let" sNeedLet f fd) (C : Gc mg)
    (DI : Df K mg "is_in" sIsIn fI fdI ["value", "least", "most"]) (GI : FnOk P w K mg base CX0 1 fI fdI ["value", "least", "most"] spIsIn) : FnOk P w K mg base CX0 2 f fd ["many"] spNeedLet := by
  obtain ⟨t1, c1⟩ := C.lets
  refine F.ok scNeedLet (fun vs H Q E h => ?_) (fun cdv A outer s H vs Q E hr h => ?_)
  · obtain ⟨m, rfl, _⟩ := h
    rfl
  · obtain ⟨m, rfl, hm, q⟩ := h
    refine ⟨_, pss_one (ps_if (pt_not (pt_val (pe_call GI hr (by rfl) DI.glob DI.kp DI.bind .nil pass0 (pa_cons (pv 0) (pa_cons pe_int (pa_cons (pe_glob (v := .int 12) (by rfl) c1 ⟨_, rfl⟩) pa_nil)))))) pss_never pss_nil), ?_⟩
    refine ⟨_, rfl, m, 0, 12, rfl, _, rfl, ?_⟩
    rw [decide_eq_true (by omega)]
    exact iteF q
def spNeedBank : Sp := fun vs H Q _ => ∃ t f c ns, ∃ b m : Nat, vs = [.ref t, .int b, .int m] ∧ Tab H t f c ns ∧ b < ns.length ∧ m ≤ 12 ∧ ∀ H', Same H H' → Q .non H'
theorem ok_needBank {f fT fP fL : Addr} {fd fdT fdP fdL : FuncData} (F : Fun K "need_bank" "need_bank" sNeedBank f fd)
    (DT : Df K mg "need_table" sNeedTable fT fdT ["table"]) (GT : FnOk P w K mg base CX0 3 fT fdT ["table"] spNeedTable)
    (DP : Df K mg "need_player" sNeedPlayer fP fdP ["table", "player"]) (GP : FnOk P w K mg base CX0 2 fP fdP ["table", "player"] spNeedPlayer)
    (DL : Df K mg "need_let" sNeedLet fL fdL ["many"]) (GL : FnOk P w K mg base CX0 2 fL fdL ["many"] spNeedLet) : FnOk P w K mg base CX0 4 f fd ["table", "bank", "many"] spNeedBank := by
  refine F.ok scNeedBank (fun vs H Q E h => ?_) (fun cdv A outer s H vs Q E hr h => ?_)
  · obtain ⟨t, f, c, ns, b, m, rfl, _⟩ := h
    rfl
  · obtain ⟨t, fa, c, ns, b, m, rfl, T, hb, hm, q⟩ := h
    refine ⟨_, pss_cons (ps_expr (pe_call GT hr (by rfl) DT.glob DT.kp DT.bind .nil pass0 (pa_cons (pv 0) pa_nil)))
      (pss_cons (ps_expr (pe_call GP (hr.mono (by decide)) (by rfl) DP.glob DP.kp DP.bind .nil pass0 (pa_cons (pv 0) (pa_cons (pv 1) pa_nil))))
      (pss_one (ps_expr (pe_call GL (hr.mono (by decide)) (by rfl) DL.glob DL.kp DL.bind .nil pass0 (pa_cons (pv 2) pa_nil))))), ?_⟩
    refine ⟨_, rfl, t, fa, c, ns, rfl, T, fun H1 s1 => ?_⟩
    refine ⟨_, rfl, _, rfl, t, fa, c, ns, b, rfl, T.same s1, hb, ?_⟩
    exact ⟨_, rfl, m, rfl, hm, q H1 s1⟩
end
end Dp

set_option Elab.async false
set_option linter.all false
set_option maxRecDepth 100000
set_option maxHeartbeats 4000000
/-! owed_in, floors_of, is_let. -/
namespace Dp
open PySem PySem.Spec PyProof.Rows L2
theorem line_small {n : Nat} (h : n ≤ 1000000) : n ≤ sizeLine := by rw [sizeLine_eq]; omega
theorem line_lt {n : Nat} (h : n ≤ 1000000) : n < sizeLine := by rw [sizeLine_eq]; omega
theorem map_at {ns : List Int} {i : Nat} {x : V} (h : (ns.map V.int)[i]? = some x) : ∃ n, ns[i]? = some n ∧ x = .int n := by
  rw [List.getElem?_map] at h
  cases e : ns[i]? with
  | none => rw [e] at h; cases h
  | some n =>
    rw [e] at h
    exact ⟨n, rfl, (Option.some.inj h).symm⟩
theorem take_map {α β : Type} {f : α → β} {ns : List α} {i : Nat} {n : α} (h : ns[i]? = some n) : (ns.take (i + 1)).map f = (ns.take i).map f ++ [f n] := by
  rw [List.take_add_one, h, List.map_append]
  rfl
theorem getD_of {ns : List Int} {p : Nat} (h : p < ns.length) : ns[p]? = some (ns.getD p 0) := by
  rw [List.getD_eq_getElem?_getD, List.getElem?_eq_getElem h]
  rfl
section
variable {P : Program} {w : World} {K : PySem.W.Frag} {mg : Str → Option Value} {base : Heap}
def spOwedIn : Sp := fun vs H Q _ => ∃ (f : Int) (c : Addr) (ns : List Int) (p : Nat), vs = [.int f, .ref c, .int p] ∧ H c = some (.tup (ns.map V.int)) ∧ 2 ≤ f ∧ f ≤ 9 ∧ ns.length ≤ 4 ∧ p < ns.length ∧
  ∀ H' q, Same H H' → H q = none → H' q = some (.tup ((owed f ns p).map V.int)) → Q (.ref q) H'
theorem ok_owedIn {f : Addr} {fd : FuncData} {k : Nat} (F : Fun K "owed_in" "owed_in" sOwedIn f fd) (G : Gb mg) : FnOk P w K mg base CX0 (k + 1) f fd ["factor", "coins", "player"] spOwedIn := by
  refine F.ok scOwedIn (fun vs H Q E h => ?_) (fun cdv A outer s H vs Q E hr h => ?_)
  · obtain ⟨f, c, ns, p, rfl, _⟩ := h
    rfl
  · obtain ⟨fa, c, ns, p, rfl, hc, hf1, hf2, hlen, hp, q⟩ := h
    refine ⟨_, pss_cons (ps_setLc (i := 3) (own := [("one", 4)]) (g := gName 4) (tt := tYes) rfl scOwedIn.nd rfl rfl (sw_true rfl rfl rfl (by decide +kernel)) (pi_tup (pv 1))
        (blkOk_by (N := ["factor", "coins", "player", "found", "one"]) (sc := defScope sOwedIn) (by decide +kernel)) (fun _ _ _ _ _ => pg_name (i := 4) scOwedIn.nd rfl (Or.inl rfl)) (fun _ _ _ _ _ => pts_nil) (fun _ _ _ _ _ => pe_op op_mul (pv 0) (pv 4)))
      (pss_cons (ps_asg (pe_op op_sub (pe_op op_mul (pv 0) (pe_ix ix_tup (pv 1) (pv 2) (fun _ _ => rfl))) (pe_op op_mul (pe_op op_sub (pv 0) pe_int) (pe_callB (cr_sumT rfl) (by rfl) G.sum PyProof.Rows.boot_sum (pa_cons (pv 1) pa_nil)))) (pg_sub (pv 3) (pv 2) set_list))
      (pss_one (ps_ret (pe_callTy call_tuple_of (by rfl) G.tuple PyProof.Rows.boot_tuple (pa_cons (pv 3) pa_nil))))), ?_⟩
    refine ⟨.ref c, rfl, c, rfl, ⟨_, SqT.of hc⟩, fun D nD => ?_⟩
    refine lc_tup (xs := ns.map V.int) (fun i H1 => Same H H1 ∧ H1 D = some (.lst ((ns.take i).map fun x => .int (fa * x)))) ⟨same_new nD, upd_same⟩ (fun i H1 _ h => SqT.of (h.1 _ _ hc)) (fun i x H1 hx h => ?_) (fun H1 h => ?_)
    · obtain ⟨n, en, rfl⟩ := map_at hx
      refine ⟨rfl, _, rfl, _, rfl, fa, n, rfl, rfl, .inl ⟨by omega, by omega⟩, _, h.2, ?_, h.1.put nD, ?_⟩
      · rw [List.length_map, List.length_take]
        exact line_lt (by omega)
      · rw [upd_same, take_map en]
    · obtain ⟨s1, hD⟩ := h
      have e0 : ns.take (ns.map V.int).length = ns := by rw [List.length_map]; exact List.take_length
      rw [e0] at hD
      have hc1 := s1 _ _ hc
      refine ⟨_, rfl, _, rfl, _, rfl, c, _, p, _, rfl, rfl, SqT.of hc1, atI_nat (by rw [List.getElem?_map, getD_of hp]; rfl), fa, ns.getD p 0, rfl, rfl, .inl ⟨by omega, by omega⟩, ?_⟩
      refine ⟨_, rfl, _, _, rfl, rfl, _, rfl, c, ns, rfl, SqT.of hc1, fa - 1, ns.sum, rfl, rfl, .inl ⟨by omega, by omega⟩, _, _, rfl, rfl, ?_⟩
      refine ⟨_, rfl, _, rfl, D, _, p, p, rfl, rfl, hD, ?_, ?_⟩
      · rw [List.length_map]
        unfold ixN
        rw [if_pos (by omega), if_pos (by omega)]
        rfl
      · refine ⟨_, rfl, D, _, rfl, .inl ⟨SqL.of upd_same, fun l nl => ?_⟩⟩
        have nl0 : H l = none := by
          cases e : H l with
          | none => rfl
          | some o =>
            have h1 := s1 l o e
            have hl : l ≠ D := fun z => by rw [z, nD] at e; cases e
            rw [upd_ne hl, h1] at nl
            cases nl
        refine q _ l ((s1.put nD).new nl) nl0 ?_
        rw [upd_same]
        unfold owed
        rw [List.map_set, List.map_map]
        rfl
/-! ### floors_of -/
def floors (n b : Nat) : List V := (List.range n).map fun k => if k = b then V.non else V.int 0
theorem floors_length (n b : Nat) : (floors n b).length = n := by unfold floors; simp
theorem floors_at {n b k : Nat} (h : k < n) : (floors n b)[k]? = some (if k = b then V.non else V.int 0) := by
  unfold floors
  rw [List.getElem?_map, List.getElem?_range h]
  rfl
theorem range_map {β : Type} (g : Nat → β) (i : Nat) : (List.range (i + 1)).map g = (List.range i).map g ++ [g i] := by
  rw [List.range_succ, List.map_append]
  rfl
def spFloors : Sp := fun vs H Q _ => ∃ n b : Nat, vs = [.int n, .int b, .int 0] ∧ n ≤ 4 ∧ ∀ H' q, Same H H' → H q = none → H' q = some (.lst (floors n b)) → Q (.ref q) H'
theorem ok_floors {f : Addr} {fd : FuncData} {k : Nat} (F : Fun K "floors_of" "floors_of" sFloorsOf f fd) (G : Gb mg) : FnOk P w K mg base CX0 (k + 1) f fd ["players", "bank", "limit"] spFloors := by
  refine F.ok scFloorsOf (fun vs H Q E h => ?_) (fun cdv A outer s H vs Q E hr h => ?_)
  · obtain ⟨n, b, rfl, _⟩ := h
    rfl
  · obtain ⟨n, b, rfl, hn, q⟩ := h
    refine ⟨_, pss_one (ps_ret (pe_lc (own := [("k", 3)]) (g := gName 3) (tt := tYes) rfl scFloorsOf.nd (pi_range1 (by rfl) G.range (pa_cons (pv 0) pa_nil))
        (blkOk_by (N := ["players", "bank", "limit", "k"]) (sc := defScope sFloorsOf) (by decide +kernel)) (fun _ _ _ _ _ => pg_name (i := 3) scFloorsOf.nd rfl (Or.inl rfl)) (fun _ _ _ _ _ => pts_nil)
        (fun _ _ _ _ _ => pe_ifExp (pt_cmpR op_eq (pv 3) (pv 1) (nomark _)) pe_non (pe_un un_neg (pv 2))))), ?_⟩
    refine ⟨_, rfl, n, rfl, by omega, by omega, fun D nD => ?_⟩
    refine lc_range (lo := 0) (n := n) (fun i H1 => Same H H1 ∧ H1 D = some (.lst ((List.range i).map fun k => if k = b then V.non else V.int 0))) ⟨same_new nD, upd_same⟩ (fun i H1 hi h => ?_) (fun H1 h => ?_)
    · have step : ∀ v : V, v = (if i = b then V.non else V.int 0) → ∃ acc, H1 D = some (.lst acc) ∧ acc.length < sizeLine ∧ Same H (upd H1 D (.lst (acc ++ [v]))) ∧ (upd H1 D (.lst (acc ++ [v]))) D = some (.lst ((List.range (i + 1)).map fun k => if k = b then V.non else V.int 0)) := by
        intro v hv
        refine ⟨_, h.2, ?_, h.1.put nD, ?_⟩
        · rw [List.length_map, List.length_range]
          exact line_lt (by omega)
        · rw [upd_same, range_map, hv]
      refine ⟨rfl, _, rfl, _, rfl, rfl, _, rfl, ?_⟩
      by_cases hb : i = b
      · exact ifDT (int_eq (by omega)) (step _ (by rw [if_pos hb]))
      · exact ifDF (int_ne (by omega)) ⟨_, rfl, 0, rfl, step _ (by rw [if_neg hb]; rfl)⟩
    · exact q H1 D h.1 nD h.2
/-! ### is_let -/
/-- those of the first i coins that are too few -/
def bad (b : Nat) (ns : List Int) (i : Nat) : List Int := ((List.range i).filter fun k => !(k == b || decide (0 ≤ ns.getD k 0))).map fun k => ns.getD k 0
theorem bad_zero (b : Nat) (ns : List Int) : bad b ns 0 = [] := rfl
theorem bad_succ (b : Nat) (ns : List Int) (i : Nat) : bad b ns (i + 1) = bad b ns i ++ if (i == b || decide (0 ≤ ns.getD i 0)) = true then [] else [ns.getD i 0] := by
  unfold bad
  rw [List.range_succ, List.filter_append, List.map_append]
  cases h : (i == b || decide (0 ≤ ns.getD i 0)) with
  | true => rw [List.filter_cons_of_neg (by rw [h]; exact Bool.false_ne_true)]; rfl
  | false => rw [List.filter_cons_of_pos (by rw [h]; rfl)]; rfl
theorem bad_length (b : Nat) (ns : List Int) (i : Nat) : (bad b ns i).length ≤ i := by
  unfold bad
  rw [List.length_map]
  refine Nat.le_trans (List.length_filter_le _ _) ?_
  rw [List.length_range]
  exact Nat.le_refl _
theorem bad_ok (b : Nat) (ns : List Int) : (bad b ns ns.length).isEmpty = ok b ns := by
  unfold bad ok
  rw [Bool.eq_iff_iff, List.isEmpty_iff, List.map_eq_nil_iff, List.filter_eq_nil_iff, List.all_eq_true]
  constructor
  · intro h k hk
    have := h k hk
    cases e : (k == b || decide (0 ≤ ns.getD k 0)) with
    | true => rfl
    | false => rw [e] at this; exact absurd rfl this
  · intro h k hk
    rw [h k hk]
    simp
theorem dpInts {K : PySem.W.Frag} {H : Hp} : ∀ ns : List Int, L2.DpAll K H (ns.map V.int) (ns.map PyData.int)
  | [] => .nil
  | n :: r => .cons (.int n) (dpInts r)
theorem eqv_empty (ns : List Int) : PyData.eqv (.list (ns.map .int)) (.list []) = ns.isEmpty := by
  cases ns with
  | nil => rfl
  | cons a r => rfl
def spIsLet : Sp := fun vs H Q _ => ∃ (c fl : Addr) (ns : List Int) (b : Nat), vs = [.ref c, .ref fl] ∧ H c = some (.tup (ns.map V.int)) ∧ H fl = some (.lst (floors ns.length b)) ∧ ns.length ≤ 4 ∧
  ∀ H', Same H H' → Q (.bl (ok b ns)) H'
theorem ok_isLet {f : Addr} {fd : FuncData} {k : Nat} (F : Fun K "is_let" "is_let" sIsLet f fd) (G : Gb mg) : FnOk P w K mg base CX0 (k + 1) f fd ["coins", "floors"] spIsLet := by
  refine F.ok scIsLet (fun vs H Q E h => ?_) (fun cdv A outer s H vs Q E hr h => ?_)
  · obtain ⟨c, fl, ns, b, rfl, _⟩ := h
    rfl
  · obtain ⟨c, fl, ns, b, rfl, hc, hfl, hn, q⟩ := h
    refine ⟨_, pss_one (ps_ret (pe_cmpR (op_eqD hr.units) (pe_lc (own := [("one", 2), ("floor", 3)]) (g := gTup K 2 (gCons (gName 2) (gCons (gName 3) gNil))) rfl scIsLet.nd (pi_zipM (by rfl) G.zip (pa_cons (pv 0) (pa_cons (pv 1) pa_nil)))
        (blkOk_by (N := ["coins", "floors", "one", "floor"]) (sc := defScope sIsLet) (by decide +kernel))
        (fun _ _ _ _ _ => pg_tup rfl (pgs_cons (pg_name (i := 2) scIsLet.nd rfl (Or.inl rfl)) (pgs_cons (pg_name (i := 3) scIsLet.nd rfl (Or.inl rfl)) pgs_nil)))
        (fun _ _ _ _ _ => pts_one (PW.pt (pw_and (pt_cmpR op_notN (pv 3) pe_non (nomark _)) (pw_and1 (pt_cmpR op_lt (pv 2) (pv 3) (nomark _))))))
        (fun _ _ _ _ _ => pv 2)) (pe_lst pa_nil) (nomark _))), ?_⟩
    refine ⟨_, rfl, _, rfl, c, fl, _, _, rfl, SqT.of hc, SqL.of hfl, fun D nD => ?_⟩
    refine lc_it (walk_zipM (n := ns.length) (xs := ns.map V.int) (ys := floors ns.length b) (by rw [List.length_map]) (floors_length _ _))
      (fun i H1 => Same H H1 ∧ H1 D = some (.lst ((bad b ns i).map V.int))) ⟨same_new nD, upd_same⟩ (fun i H1 _ h => ⟨SqT.of (h.1 _ _ hc), SqL.of (h.1 _ _ hfl)⟩) (fun i x H1 H2 hi h y => ?_) (fun H1 h => ?_)
    · obtain ⟨T, x1, x2, rfl, nT, rfl, e1, e2⟩ := y
      obtain ⟨n, en, rfl⟩ := map_at e1
      have en' : n = ns.getD i 0 := by rw [List.getD_eq_getElem?_getD, en]; rfl
      have e2' : (floors ns.length b)[i]? = some x2 := e2
      rw [floors_at hi] at e2'
      have ex : x2 = (if i = b then V.non else V.int 0) := (Option.some.inj e2').symm
      have hDT : D ≠ T := ne_of_none h.2 nT
      have hD2 : (upd H1 T (.tup [.int n, x2])) D = some (.lst ((bad b ns i).map V.int)) := by rw [upd_ne hDT]; exact h.2
      have s2 : Same H (upd H1 T (.tup [.int n, x2])) := h.1.new nT
      refine ⟨T, [.int n, x2], rfl, .inl (.inl upd_same), rfl, .int n, [x2], rfl, x2, [], rfl, rfl, rfl, ?_⟩
      have skip : (i == b || decide (0 ≤ ns.getD i 0)) = true → Same H (upd H1 T (.tup [.int n, x2])) ∧ (upd H1 T (.tup [.int n, x2])) D = some (.lst ((bad b ns (i + 1)).map V.int)) := by
        intro e
        refine ⟨s2, ?_⟩
        rw [bad_succ, if_pos e, List.append_nil]
        exact hD2
      by_cases hb : i = b
      · rw [if_pos hb] at ex
        subst ex
        exact ⟨_, rfl, rfl, _, rfl, skip (by simp [hb])⟩
      · rw [if_neg hb] at ex
        subst ex
        refine ⟨_, rfl, rfl, _, rfl, _, rfl, _, rfl, n, 0, rfl, rfl, _, rfl, ?_⟩
        by_cases hz : n < 0
        · refine ifDT hz ⟨_, rfl, _, hD2, ?_, s2.put nD, ?_⟩
          · have := bad_length b ns i
            rw [List.length_map]
            exact line_lt (by omega)
          · rw [upd_same, bad_succ, ← en', if_neg (by rw [decide_eq_false (by omega), Bool.or_false, beq_iff_eq]; exact hb), List.map_append]
            rfl
        · exact ifDF hz (skip (by rw [← en', decide_eq_true (by omega), Bool.or_true]))
    · refine ⟨Nat.zero_le _, fun l nl => ?_⟩
      have hDl : D ≠ l := ne_of_none h.2 nl
      refine ⟨.list ((bad b ns ns.length).map .int), .list [], .lst (SqL.of (by rw [upd_ne hDl]; exact h.2)) (dpInts _), .lst (SqL.of upd_same) .nil, PySem.W.shaped_ints _, rfl, ?_⟩
      rw [eqv_empty, bad_ok]
      exact q _ (h.1.new nl)
end
end Dp

set_option Elab.async false
set_option linter.all false
set_option maxRecDepth 100000
set_option maxHeartbeats 4000000
/-! counts_in. -/
namespace Dp
open PySem PySem.Spec PyProof.Rows L2
/-- coins as a dict's key; rows as a dict -/
def encK (k : List Int) : List L2.Key := k.map Sum.inl
def enc (rows : List (List Int × Int)) : List (List L2.Key × V) := rows.map fun p => (encK p.1, V.int p.2)
theorem encK_V (k : List Int) : (encK k).map kV = k.map V.int := by
  unfold encK
  rw [List.map_map]
  rfl
theorem encK_inj {a b : List Int} : encK a = encK b ↔ a = b := by
  constructor
  · intro h
    unfold encK at h
    induction a generalizing b with
    | nil => cases b with
      | nil => rfl
      | cons y s => cases h
    | cons x r ih => cases b with
      | nil => cases h
      | cons y s =>
        rw [List.map_cons, List.map_cons] at h
        injection h with h1 h2
        injection h1 with h1
        rw [h1, ih h2]
  · intro h
    rw [h]
theorem enc_length (rows : List (List Int × Int)) : (enc rows).length = rows.length := by unfold enc; rw [List.length_map]
theorem enc_at {rows : List (List Int × Int)} {i : Nat} {k : List L2.Key} {v : V} (h : (enc rows)[i]? = some (k, v)) : ∃ p, rows[i]? = some p ∧ k = encK p.1 ∧ v = .int p.2 := by
  unfold enc at h
  rw [List.getElem?_map] at h
  cases e : rows[i]? with
  | none => rw [e] at h; cases h
  | some p =>
    rw [e] at h
    have h' := Option.some.inj h
    exact ⟨p, rfl, (congrArg Prod.fst h').symm, (congrArg Prod.snd h').symm⟩
theorem valV_enc (rows : List (List Int × Int)) (k : List Int) : valV (enc rows) (encK k) = if has rows k then some (V.int (look rows k)) else none := by
  induction rows with
  | nil => rfl
  | cons p r ih =>
    show valV ((encK p.1, V.int p.2) :: enc r) (encK k) = _
    by_cases e : p.1 = k
    · rw [valV_pos (show (encK p.1, V.int p.2).1 = encK k from encK_inj.mpr e)]
      have h1 : has (p :: r) k = true := by simp [has, e]
      have h2 : look (p :: r) k = p.2 := by simp [look, List.find?_cons, e]
      rw [h1, if_pos rfl, h2]
    · rw [valV_neg (show ¬ (encK p.1, V.int p.2).1 = encK k from fun z => e (encK_inj.mp z)), ih]
      have h1 : has (p :: r) k = has r k := by simp [has, e]
      have h2 : look (p :: r) k = look r k := by simp [look, List.find?_cons, e]
      rw [h1, h2]
theorem getD_enc (rows : List (List Int × Int)) (k : List Int) : (valV (enc rows) (encK k)).getD (V.int 0) = V.int (look rows k) := by
  rw [valV_enc]
  cases h : has rows k with
  | true => rfl
  | false => rw [look_none h]; rfl
theorem any_enc (rows : List (List Int × Int)) (k : List Int) : ((enc rows).any fun kv => decide (kv.1 = encK k)) = has rows k := by
  unfold enc has
  rw [List.any_map]
  refine congrArg (fun g => rows.any g) ?_
  funext p
  show decide (encK p.1 = encK k) = decide (p.1 = k)
  rw [Bool.eq_iff_iff, decide_eq_true_eq, decide_eq_true_eq, encK_inj]
theorem putK_enc (rows : List (List Int × Int)) (k : List Int) (v : Int) : putK (enc rows) (encK k) (V.int v) = enc (put rows k v) := by
  unfold putK put
  rw [any_enc]
  cases h : has rows k with
  | true =>
    rw [if_pos rfl, if_pos rfl]
    unfold enc
    rw [List.map_map, List.map_map]
    refine List.map_congr_left fun p _ => ?_
    show (if encK p.1 = encK k then (encK p.1, V.int v) else (encK p.1, V.int p.2)) = (encK (if p.1 = k then (p.1, v) else p).1, V.int (if p.1 = k then (p.1, v) else p).2)
    by_cases e : p.1 = k
    · rw [if_pos (encK_inj.mpr e), if_pos e]
    · rw [if_neg (fun z => e (encK_inj.mp z)), if_neg e]
  | false =>
    rw [if_neg Bool.false_ne_true, if_neg Bool.false_ne_true]
    unfold enc
    rw [List.map_append]
    rfl
section
variable {P : Program} {w : World} {K : PySem.W.Frag} {mg : Str → Option Value} {base : Heap}
def spCounts : Sp := fun vs H Q _ => ∃ (f : Int) (c fl : Addr) (ns : List Int) (b m : Nat), vs = [.int f, .ref c, .ref fl, .int m] ∧ H c = some (.tup (ns.map V.int)) ∧ H fl = some (.lst (floors ns.length b)) ∧
  2 ≤ f ∧ f ≤ 9 ∧ 1 ≤ ns.length ∧ ns.length ≤ 4 ∧ m ≤ 12 ∧ ns.length ^ m ≤ 100000 ∧
  ∀ H' q rows, Same H H' → H q = none → H' q = some (.dT (enc rows)) → Counts rows (ends f b ns m) → Q (.ref q) H'
theorem ok_counts {f fO fL : Addr} {fd fdO fdL : FuncData} (F : Fun K "counts_in" "counts_in" sCountsIn f fd) (G : Gb mg)
    (DO : Df K mg "owed_in" sOwedIn fO fdO ["factor", "coins", "player"]) (GO : FnOk P w K mg base CX0 1 fO fdO ["factor", "coins", "player"] spOwedIn)
    (DL : Df K mg "is_let" sIsLet fL fdL ["coins", "floors"]) (GL : FnOk P w K mg base CX0 1 fL fdL ["coins", "floors"] spIsLet) :
    FnOk P w K mg base CX0 2 f fd ["factor", "coins", "floors", "many"] spCounts := by
  refine F.ok scCountsIn (fun vs H Q E h => ?_) (fun cdv A outer s H vs Q E hr h => ?_)
  · obtain ⟨f, c, fl, ns, b, m, rfl, _⟩ := h
    rfl
  · obtain ⟨fa, c, fl, ns, b, m, rfl, hc, hfl, hf1, hf2, hn1, hn4, hm, hpow, q⟩ := h
    have hu := hu_of hr
    refine ⟨_, pss_cons (ps_set (i := 4) scCountsIn.nd rfl (.inl rfl) (pe_disp1 hu (pv 1) pe_int))
      (pss_cons (ps_for PassesOwn.never rfl (pi_range1 (by rfl) G.range (pa_cons (pv 3) pa_nil)) (pg_name (i := 5) scCountsIn.nd rfl (.inl rfl))
        (pss_cons (ps_set (i := 6) scCountsIn.nd rfl (.inl rfl) pe_dnewT)
        (pss_cons (ps_for PassesOwn.never rfl (pi_keysMT (pv 4)) (pg_name (i := 7) scCountsIn.nd rfl (.inl rfl))
          (pss_one (ps_for PassesOwn.never rfl (pi_range1 (by rfl) G.range (pa_cons (pe_callB call_len_seq (by rfl) G.len PySem.boot_len (pa_cons (pv 1) pa_nil)) pa_nil)) (pg_name (i := 8) scCountsIn.nd rfl (.inl rfl))
            (pss_cons (ps_set (i := 9) scCountsIn.nd rfl (.inl rfl) (pe_call GO hr (by rfl) DO.glob DO.kp DO.bind .nil pass0 (pa_cons (pv 0) (pa_cons (pv 7) (pa_cons (pv 8) pa_nil)))))
            (pss_one (ps_if (pt_val (pe_call GL hr (by rfl) DL.glob DL.kp DL.bind .nil pass0 (pa_cons (pv 9) (pa_cons (pv 2) pa_nil))))
              (pss_one (ps_dput hu (pv 6) (pv 9) (pe_op op_add (pe_dget2 hu (pv 6) (pv 9) pe_int ⟨rfl, rfl, rfl, rfl⟩) (pe_dget hu (pv 4) (pv 7) (fun _ _ => rfl))) rfl)) pss_nil))))))
        (pss_one (ps_set (i := 4) scCountsIn.nd rfl (.inl rfl) (pv 6))))))
      (pss_one (ps_ret (pv 4)))), ?_⟩
    -- rows = {coins: 1}
    refine fun d0 nd0 => ?_
    have hc0 : (upd H d0 (.dT [])) c = some (.tup (ns.map V.int)) := by rw [upd_ne (ne_of_none hc nd0)]; exact hc
    refine ⟨.ref c, rfl, c, encK ns, rfl, upd_same, by rw [encK_V]; exact hc0, ?_⟩
    rw [upd_upd]
    -- for turn in range(many)
    refine ⟨_, rfl, m, rfl, by omega, by omega, ?_⟩
    refine for_range (lo := 0) (n := m) (fun i σ H1 => ∃ y5 y6 y7 y8 y9 d rows, σ = [some (.int fa), some (.ref c), some (.ref fl), some (.int m), some (.ref d), y5, y6, y7, y8, y9] ∧ Same H H1 ∧ H d = none ∧ H1 d = some (.dT (enc rows)) ∧ Counts rows (ends fa b ns i))
      ⟨_, _, _, _, _, d0, [(ns, 1)], rfl, same_new nd0, nd0, upd_same, Counts.one ns⟩ (fun i σ H1 hi h => ?_) (fun σ H1 h => ?_)
    · obtain ⟨y5, y6, y7, y8, y9, d, rows, rfl, s1, nd, hd, cnt⟩ := h
      have hR : rows.length * ns.length ≤ 100000 := by
        have h1 := cnt.length_le
        rw [ends_length] at h1
        have h2 := lets_count fa b ns i
        have h3 : rows.length * ns.length ≤ ns.length ^ i * ns.length := Nat.mul_le_mul_right _ (Nat.le_trans h1 h2)
        have h4 : ns.length ^ i * ns.length = ns.length ^ (i + 1) := (Nat.pow_succ ..).symm
        have h5 : ns.length ^ (i + 1) ≤ ns.length ^ m := Nat.pow_le_pow_right hn1 (by omega)
        omega
      have hkeys : ∀ p ∈ rows, p.1.length = ns.length := fun p hp => by
        have h1 : p.1 ∈ ends fa b ns i := (cnt.mem p.1).mp (List.mem_map.mpr ⟨p, hp, rfl⟩)
        obtain ⟨wc, hwc, e⟩ := List.mem_map.mp h1
        rw [← e]
        exact (lets_length hwc).1
      -- more = {}
      refine fun e ne => ?_
      have hed : d ≠ e := ne_of_none hd ne
      have ne0 : H e = none := s1.free ne
      -- for here in rows.keys()
      refine ⟨.ref d, rfl, d, enc rows, rfl, by rw [upd_ne hed]; exact hd, fun o => ?_⟩
      have s2 : Same H (upd (upd H1 e (.dT [])) d (.frz o (.dT (enc rows)))) := (s1.put ne0).put nd
      refine for_it (walk_keysT (d := d) (o := o) (kvs := enc rows)) (fun j σ H2 => ∃ y7 y8 y9 more, σ = [some (.int fa), some (.ref c), some (.ref fl), some (.int m), some (.ref d), some (.int (0 + (i : Nat))), some (.ref e), y7, y8, y9] ∧
          Same H H2 ∧ H2 d = some (.frz o (.dT (enc rows))) ∧ H2 e = some (.dT (enc more)) ∧ Acc more (sumG fa b ns.length rows j) ∧ more.length ≤ j * ns.length)
        ⟨_, _, _, [], rfl, s2, upd_same, by rw [upd_ne (Ne.symm hed)]; exact upd_same, Acc.nil.eq fun g => (sumG_zero ..).symm, Nat.zero_le _⟩ (fun j σ H2 _ h => ?_) (fun j x σ H2 H2' hj h y => ?_) (fun σ H2 h => ?_)
      · obtain ⟨_, _, _, _, _, _, h3, _⟩ := h
        exact h3
      · obtain ⟨y7, y8, y9, more, rfl, s3, hd3, he3, acc, hlen⟩ := h
        obtain ⟨rfl, k, v, kq, hk, rfl, hkq⟩ := y
        obtain ⟨p, hp, rfl, rfl⟩ := enc_at hk
        rw [encK_V] at hkq
        have hpl := hkeys p (List.mem_of_getElem? hp)
        have hjR : j < rows.length := by rw [enc_length] at hj; exact hj
        have hpos := cnt.pos p (List.mem_of_getElem? hp)
        have hlook := look_at cnt.nodup hp
        have hhas : has rows p.1 = true := has_mem.mpr (List.mem_map.mpr ⟨p, List.mem_of_getElem? hp, rfl⟩)
        -- for payer in range(len(coins))
        refine ⟨_, rfl, c, _, rfl, .inr (SqT.of (s3 _ _ hc)), ns.length, by rw [List.length_map], by omega, by omega, ?_⟩
        refine for_range (lo := 0) (n := ns.length) (fun r σ H3 => ∃ y8 y9 more, σ = [some (.int fa), some (.ref c), some (.ref fl), some (.int m), some (.ref d), some (.int (0 + (i : Nat))), some (.ref e), some (.ref kq), y8, y9] ∧
            Same H H3 ∧ H3 d = some (.frz o (.dT (enc rows))) ∧ H3 e = some (.dT (enc more)) ∧ H3 kq = some (.tup (p.1.map V.int)) ∧ Acc more (fun g => sumG fa b ns.length rows j g + p.2 * stepG fa b p.1 r g) ∧ more.length ≤ j * ns.length + r)
          ⟨_, _, more, rfl, s3, hd3, he3, hkq, acc.eq fun g => by rw [stepG_zero]; omega, by omega⟩ (fun r σ H3 hr3 h => ?_) (fun σ H3 h => ?_)
        · obtain ⟨y8, y9, more, rfl, s4, hd4, he4, hk4, acc4, hlen4⟩ := h
          -- there = owed_in(factor, here, payer)
          refine ⟨_, rfl, _, rfl, _, rfl, fa, kq, p.1, r, by rw [Int.zero_add]; rfl, hk4, hf1, hf2, by omega, by omega, fun H4 t s5 nt ht => ?_⟩
          -- if is_let(there, floors)
          refine ⟨_, rfl, _, rfl, t, fl, owed fa p.1 r, b, rfl, ht, ?_, by rw [owed_length]; omega, fun H5 s6 => ⟨_, rfl, ?_⟩⟩
          · rw [owed_length, hpl]
            exact s5 _ _ (s4 _ _ hfl)
          have s7 : Same H3 H5 := s5.trans s6
          have ht5 : H5 t = some (.tup ((encK (owed fa p.1 r)).map kV)) := by rw [encK_V]; exact s6 _ _ ht
          have he5 := s7 _ _ he4
          have hd5 := s7 _ _ hd4
          have hk5 := s7 _ _ hk4
          cases hok : ok b (owed fa p.1 r) with
          | true =>
            refine iteT ?_
            have hlt : more.length < sizeLine := by
              have : (j + 1) * ns.length ≤ rows.length * ns.length := Nat.mul_le_mul_right _ hjR
              rw [Nat.succ_mul] at this
              exact line_lt (by omega)
            refine ⟨_, rfl, e, rfl, .inr ⟨_, .inl he5⟩, _, rfl, _, DGet.t he5 ht5, _, rfl, _, rfl, d, .int p.2, rfl, .inr ⟨enc rows, encK p.1, kq, .inr ⟨o, hd5⟩, rfl, by rw [encK_V]; exact hk5, ?_⟩, look more (owed fa p.1 r), p.2, getD_enc _ _, rfl, ?_⟩
            · rw [valV_enc, hhas, if_pos rfl, hlook]
            refine ⟨_, rfl, _, rfl, e, _, rfl, DPut.t he5 ht5 (by rw [enc_length]; exact hlt), ?_⟩
            rw [putK_enc]
            have hde : d ≠ e := hed
            refine ⟨_, _, put more (owed fa p.1 r) (look more (owed fa p.1 r) + p.2), rfl, (s4.trans s7).put ne0, ?_, upd_same, ?_, (acc4.add (k := owed fa p.1 r) hpos).eq fun g => ?_, ?_⟩
            · rw [upd_ne hde]; exact hd5
            · rw [upd_ne (ne_of hk5 he5 (fun z => nomatch z))]; exact hk5
            · rw [stepG_succ, if_pos hok, Int.mul_add]; omega
            · have := put_length more (owed fa p.1 r) (look more (owed fa p.1 r) + p.2)
              omega
          | false =>
            refine iteF ?_
            refine ⟨_, _, more, rfl, s4.trans s7, hd5, he5, hk5, acc4.eq fun g => ?_, by omega⟩
            rw [stepG_succ, if_neg (by rw [hok]; exact Bool.false_ne_true), Int.add_zero]
        · obtain ⟨y8, y9, more, rfl, s4, hd4, he4, hk4, acc4, hlen4⟩ := h
          refine ⟨_, _, _, more, rfl, s4, hd4, he4, acc4.eq fun g => (sumG_succ hp g).symm, ?_⟩
          rw [Nat.succ_mul]
          omega
      · -- rows = more
        obtain ⟨y7, y8, y9, more, rfl, s3, hd3, he3, acc, hlen⟩ := h
        rw [enc_length] at acc
        exact ⟨_, rfl, _, _, _, _, _, e, more, rfl, s3, ne0, he3, round_ok cnt acc⟩
    · obtain ⟨y5, y6, y7, y8, y9, d, rows, rfl, s1, nd, hd, cnt⟩ := h
      exact ⟨_, rfl, q H1 d rows s1 nd hd cnt⟩
end
end Dp

set_option Elab.async false
set_option linter.all false
set_option maxRecDepth 100000
set_option maxHeartbeats 4000000
/-! words_in. -/
namespace Dp
open PySem PySem.Spec PyProof.Rows L2
/-- a value is a tuple of these ints -/
def IsW (H : Hp) (x : V) (w : List Int) : Prop := ∃ a, x = .ref a ∧ H a = some (.tup (w.map V.int))
/-- values that are tuples of ints, one for each -/
abbrev Ws (H : Hp) : List V → List (List Int) → Prop := Paired (IsW H)
/-- a value is a pair of a word and coins -/
def IsP (H : Hp) (x : V) (wc : List Int × List Int) : Prop := ∃ t wa ca, x = .ref t ∧ H t = some (.tup [.ref wa, .ref ca]) ∧ H wa = some (.tup (wc.1.map V.int)) ∧ H ca = some (.tup (wc.2.map V.int))
abbrev Ps (H : Hp) : List V → List (List Int × List Int) → Prop := Paired (IsP H)
/-- all tuples stay -/
def TupKeep (H H' : Hp) : Prop := ∀ t xs, H t = some (.tup xs) → H' t = some (.tup xs)
theorem TupKeep.of {H H' : Hp} (s : Same H H') : TupKeep H H' := fun t xs h => s _ _ h
theorem TupKeep.trans {H H1 H2 : Hp} (a : TupKeep H H1) (b : TupKeep H1 H2) : TupKeep H H2 := fun t xs h => b t xs (a t xs h)
theorem TupKeep.lst {H : Hp} {e : Addr} {xs : List V} {o : HO} (h : H e = some (.lst xs)) : TupKeep H (upd H e o) := fun t ys ht => by
  rw [upd_ne (ne_of ht h (fun z => nomatch z))]
  exact ht
theorem IsW.keep {H H' : Hp} {x : V} {w : List Int} (h : IsW H x w) (k : TupKeep H H') : IsW H' x w := by
  obtain ⟨a, e, h1⟩ := h
  exact ⟨a, e, k _ _ h1⟩
theorem IsP.keep {H H' : Hp} {x : V} {wc : List Int × List Int} (h : IsP H x wc) (k : TupKeep H H') : IsP H' x wc := by
  obtain ⟨t, wa, ca, e, h1, h2, h3⟩ := h
  exact ⟨t, wa, ca, e, k _ _ h1, k _ _ h2, k _ _ h3⟩
theorem ws_keep {H H' : Hp} {xs : List V} {ws : List (List Int)} (h : Ws H xs ws) (k : TupKeep H H') : Ws H' xs ws := Paired.mapP h fun _ _ q => q.keep k
theorem ps_keep {H H' : Hp} {xs : List V} {ws : List (List Int × List Int)} (h : Ps H xs ws) (k : TupKeep H H') : Ps H' xs ws := Paired.mapP h fun _ _ q => q.keep k
theorem next_succ (f : Int) (b r : Nat) (wc : List Int × List Int) : next f b (r + 1) wc = next f b r wc ++ if ok b (owed f wc.2 r) = true then [(wc.1 ++ [(r : Int)], owed f wc.2 r)] else [] := by
  unfold next
  rw [List.range_succ, List.filterMap_append]
  congr 1
  by_cases h : ok b (owed f wc.2 r) = true
  · rw [if_pos h, List.filterMap_cons, if_pos h]; rfl
  · rw [if_neg h, List.filterMap_cons, if_neg h]; rfl
theorem flatMap_succ {α β : Type} {g : α → List β} {l : List α} {j : Nat} {x : α} (h : l[j]? = some x) : (l.take (j + 1)).flatMap g = (l.take j).flatMap g ++ g x := by
  rw [List.take_add_one, h, List.flatMap_append]
  simp
section
variable {P : Program} {w : World} {K : PySem.W.Frag} {mg : Str → Option Value} {base : Heap}
def spWords : Sp := fun vs H Q _ => ∃ (f : Int) (c fl : Addr) (ns : List Int) (b m : Nat), vs = [.int f, .ref c, .ref fl, .int m] ∧ H c = some (.tup (ns.map V.int)) ∧ H fl = some (.lst (floors ns.length b)) ∧
  2 ≤ f ∧ f ≤ 9 ∧ 1 ≤ ns.length ∧ ns.length ≤ 4 ∧ m ≤ 12 ∧ ns.length ^ m ≤ 2000 ∧
  ∀ H' q xs, Same H H' → H q = none → H' q = some (.lst xs) → Ws H' xs (words f b ns m) → Q (.ref q) H'
theorem ok_words {f fC fO fL : Addr} {fd fdC fdO fdL : FuncData} (F : Fun K "words_in" "words_in" sWordsIn f fd) (G : Gb mg) (C : Gc mg)
    (DC : Df K mg "counts_in" sCountsIn fC fdC ["factor", "coins", "floors", "many"]) (GC : FnOk P w K mg base CX0 2 fC fdC ["factor", "coins", "floors", "many"] spCounts)
    (DO : Df K mg "owed_in" sOwedIn fO fdO ["factor", "coins", "player"]) (GO : FnOk P w K mg base CX0 1 fO fdO ["factor", "coins", "player"] spOwedIn)
    (DL : Df K mg "is_let" sIsLet fL fdL ["coins", "floors"]) (GL : FnOk P w K mg base CX0 1 fL fdL ["coins", "floors"] spIsLet) :
    FnOk P w K mg base CX0 3 f fd ["factor", "coins", "floors", "many"] spWords := by
  obtain ⟨t1, c1⟩ := C.words
  refine F.ok scWordsIn (fun vs H Q E h => ?_) (fun cdv A outer s H vs Q E hr h => ?_)
  · obtain ⟨f, c, fl, ns, b, m, rfl, _⟩ := h
    rfl
  · obtain ⟨fa, c, fl, ns, b, m, rfl, hc, hfl, hf1, hf2, hn1, hn4, hm, hpow, q⟩ := h
    have hu := hu_of hr
    refine ⟨_, pss_cons (ps_if (pt_cmpR op_gt (pe_callB (cr_sumVals rfl) (by rfl) G.sum PyProof.Rows.boot_sum (pa_cons (pe_bm0 PySem.F.plainAttrs_dict PySem.F.slot_dict_values PySem.F.type_dict_values mt_valuesT
          (pe_call GC hr (by rfl) DC.glob DC.kp DC.bind .nil pass0 (pa_cons (pv 0) (pa_cons (pv 1) (pa_cons (pv 2) (pa_cons (pv 3) pa_nil)))))) pa_nil)) (pe_glob (v := .int 2000) (by rfl) c1 ⟨_, rfl⟩) (nomark _)) pss_never pss_nil)
      (pss_cons (ps_set (i := 4) scWordsIn.nd rfl (.inl rfl) (pe_lst (pa_cons (pe_tup (pa_cons (pe_tup pa_nil) (pa_cons (pv 1) pa_nil))) pa_nil)))
      (pss_cons (ps_for PassesOwn.never rfl (pi_range1 (by rfl) G.range (pa_cons (pv 3) pa_nil)) (pg_name (i := 5) scWordsIn.nd rfl (.inl rfl))
        (pss_cons (ps_set (i := 6) scWordsIn.nd rfl (.inl rfl) (pe_lst pa_nil))
        (pss_cons (ps_for PassesOwn.never rfl (pi_list (pv 4)) (pg_tup rfl (pgs_cons (pg_name (i := 7) scWordsIn.nd rfl (.inl rfl)) (pgs_cons (pg_name (i := 8) scWordsIn.nd rfl (.inl rfl)) pgs_nil)))
          (pss_one (ps_for PassesOwn.never rfl (pi_range1 (by rfl) G.range (pa_cons (pe_callB call_len_seq (by rfl) G.len PySem.boot_len (pa_cons (pv 1) pa_nil)) pa_nil)) (pg_name (i := 9) scWordsIn.nd rfl (.inl rfl))
            (pss_cons (ps_set (i := 10) scWordsIn.nd rfl (.inl rfl) (pe_call GO (hr.mono (by decide)) (by rfl) DO.glob DO.kp DO.bind .nil pass0 (pa_cons (pv 0) (pa_cons (pv 8) (pa_cons (pv 9) pa_nil)))))
            (pss_one (ps_if (pt_val (pe_call GL (hr.mono (by decide)) (by rfl) DL.glob DL.kp DL.bind .nil pass0 (pa_cons (pv 10) (pa_cons (pv 2) pa_nil))))
              (pss_one (ps_expr (pe_bm PySem.F.plainAttrs_list PySem.F.slot_list_append PySem.F.type_list_append mt_append (pv 6) (pa_cons (pe_tup (pa_cons (pe_op op_catA (pv 7) (pe_tup (pa_cons (pv 9) pa_nil))) (pa_cons (pv 10) pa_nil))) pa_nil)))) pss_nil))))))
        (pss_one (ps_set (i := 4) scWordsIn.nd rfl (.inl rfl) (pv 6))))))
      (pss_one (ps_ret (pe_lc (own := [("word", 7), ("here", 8)]) (g := gTup K 2 (gCons (gName 7) (gCons (gName 8) gNil))) (tt := tYes) rfl scWordsIn.nd (pi_list (pv 4))
        (blkOk_by (N := ["factor", "coins", "floors", "many", "rows", "turn", "more", "word", "here", "payer", "there"]) (sc := defScope sWordsIn) (by decide +kernel))
        (fun _ _ _ _ _ => pg_tup rfl (pgs_cons (pg_name (i := 7) scWordsIn.nd rfl (Or.inl rfl)) (pgs_cons (pg_name (i := 8) scWordsIn.nd rfl (Or.inl rfl)) pgs_nil)))
        (fun _ _ _ _ _ => pts_nil) (fun _ _ _ _ _ => pv 7)))))), ?_⟩
    -- not too many
    refine ⟨_, rfl, _, rfl, _, rfl, _, rfl, fa, c, fl, ns, b, m, rfl, hc, hfl, hf1, hf2, hn1, hn4, hm, by omega, fun H1 d rows s1 nd hd cnt => ?_⟩
    refine ⟨.inr (.inr (.inl ⟨rfl, .inr ⟨_, hd⟩⟩)), d, enc rows, rfl, rfl, hd, fun p np => ?_⟩
    have hdp : d ≠ p := ne_of_none hd np
    have s2 : Same H (upd H1 p (valuesO p d)) := s1.new np
    refine ⟨p, d, enc rows, rows.map (·.2), rfl, upd_same, by rw [upd_ne hdp]; exact hd, ?_, _, _, rfl, rfl, _, rfl, ?_⟩
    · unfold enc
      rw [List.map_map, List.map_map]
      rfl
    have htot : ¬ (2000 : Int) < (rows.map (·.2)).sum := by
      rw [cnt.total, ends_length]
      have := lets_count fa b ns m
      omega
    refine ifDF htot ?_
    -- rows = [((), coins)]
    revert s2
    generalize upd H1 p (valuesO p d) = H2
    intro s2
    refine ⟨Nat.zero_le _, fun w0 nw0 => ⟨.ref c, rfl, by show 2 ≤ sizeLine; decide, fun t0 nt0 => ⟨by show 1 ≤ sizeLine; decide, fun l0 nl0 => ?_⟩⟩⟩
    have k1 : Same H2 (upd H2 w0 (.tup [])) := same_new nw0
    have k2 := same_new (o := .tup [V.ref w0, .ref c]) nt0
    have k3 := same_new (o := .lst [V.ref t0]) nl0
    have kk := k1.trans (k2.trans k3)
    have hl0 : H l0 = none := (s2.trans (k1.trans k2)).free nl0
    have hP0 : Ps (upd (upd (upd H2 w0 (.tup [])) t0 (.tup [.ref w0, .ref c])) l0 (.lst [.ref t0])) [.ref t0] (lets fa b ns 0) :=
      .cons ⟨t0, w0, c, rfl, k3 _ _ upd_same, k3 _ _ (k2 _ _ upd_same), (s2.trans kk) _ _ hc⟩ .nil
    -- for turn in range(many)
    refine ⟨_, rfl, m, rfl, by omega, by omega, ?_⟩
    refine for_range (lo := 0) (n := m) (fun i σ H1 => ∃ y5 y6 y7 y8 y9 y10 l xs, σ = [some (.int fa), some (.ref c), some (.ref fl), some (.int m), some (.ref l), y5, y6, y7, y8, y9, y10] ∧ Same H H1 ∧ H l = none ∧ H1 l = some (.lst xs) ∧ Ps H1 xs (lets fa b ns i))
      ⟨_, _, _, _, _, _, l0, _, rfl, s2.trans kk, hl0, upd_same, hP0⟩ (fun i σ H1 hi h => ?_) (fun σ H1 h => ?_)
    · obtain ⟨y5, y6, y7, y8, y9, y10, l, xs, rfl, s1, nl, hl, hP⟩ := h
      have hR : (lets fa b ns i).length * ns.length ≤ 2000 := by
        have h3 : (lets fa b ns i).length * ns.length ≤ ns.length ^ i * ns.length := Nat.mul_le_mul_right _ (lets_count fa b ns i)
        have h4 : ns.length ^ i * ns.length = ns.length ^ (i + 1) := (Nat.pow_succ ..).symm
        have h5 : ns.length ^ (i + 1) ≤ ns.length ^ m := Nat.pow_le_pow_right hn1 (by omega)
        omega
      -- more = []
      refine ⟨Nat.zero_le _, fun e ne => ?_⟩
      have hel : l ≠ e := ne_of_none hl ne
      have ne0 : H e = none := s1.free ne
      have s2 : Same H1 (upd H1 e (.lst [])) := same_new ne
      -- for word, here in rows
      refine ⟨.ref l, rfl, l, rfl, ⟨_, SqL.of (s2 _ _ hl)⟩, ?_⟩
      refine for_it (walk_list (xs := xs)) (fun j σ H2 => ∃ y7 y8 y9 y10 ys, σ = [some (.int fa), some (.ref c), some (.ref fl), some (.int m), some (.ref l), some (.int (0 + (i : Nat))), some (.ref e), y7, y8, y9, y10] ∧
          Same H H2 ∧ H2 l = some (.lst xs) ∧ Ps H2 xs (lets fa b ns i) ∧ H2 e = some (.lst ys) ∧ Ps H2 ys (((lets fa b ns i).take j).flatMap (next fa b ns.length)))
        ⟨_, _, _, _, [], rfl, s1.trans s2, s2 _ _ hl, ps_keep hP (.of s2), upd_same, .nil⟩ (fun j σ H2 _ h => ?_) (fun j x σ H2 H2' hj h y => ?_) (fun σ H2 h => ?_)
      · obtain ⟨_, _, _, _, _, _, _, h3, _⟩ := h
        exact SqL.of h3
      · obtain ⟨y7, y8, y9, y10, ys, rfl, s3, hl3, hP3, he3, hY⟩ := h
        obtain ⟨rfl, hx⟩ := y
        obtain ⟨wc, hwc, t, wa, ca, rfl, ht, hwa, hca⟩ := paired_get hP3 hx
        obtain ⟨hlen2, hlen1⟩ := lets_length (List.mem_of_getElem? hwc)
        have hjR : j < (lets fa b ns i).length := (List.getElem?_eq_some_iff.mp hwc).1
        refine ⟨t, _, rfl, SqT.of ht, rfl, .ref wa, [.ref ca], rfl, .ref ca, [], rfl, rfl, ?_⟩
        -- for payer in range(len(coins))
        refine ⟨_, rfl, c, _, rfl, .inr (SqT.of (s3 _ _ hc)), ns.length, by rw [List.length_map], by omega, by omega, ?_⟩
        refine for_range (lo := 0) (n := ns.length) (fun r σ H3 => ∃ y9 y10 ys, σ = [some (.int fa), some (.ref c), some (.ref fl), some (.int m), some (.ref l), some (.int (0 + (i : Nat))), some (.ref e), some (.ref wa), some (.ref ca), y9, y10] ∧
            Same H H3 ∧ H3 l = some (.lst xs) ∧ Ps H3 xs (lets fa b ns i) ∧ H3 wa = some (.tup (wc.1.map V.int)) ∧ H3 ca = some (.tup (wc.2.map V.int)) ∧ H3 e = some (.lst ys) ∧ Ps H3 ys (((lets fa b ns i).take j).flatMap (next fa b ns.length) ++ next fa b r wc))
          ⟨_, _, ys, rfl, s3, hl3, hP3, hwa, hca, he3, by show Ps _ _ (_ ++ []); rw [List.append_nil]; exact hY⟩ (fun r σ H3 hr3 h => ?_) (fun σ H3 h => ?_)
        · obtain ⟨y9, y10, ys, rfl, s4, hl4, hP4, hwa4, hca4, he4, hY4⟩ := h
          -- there = owed_in(factor, here, payer)
          refine ⟨_, rfl, _, rfl, _, rfl, fa, ca, wc.2, r, by rw [Int.zero_add]; rfl, hca4, hf1, hf2, by omega, by omega, fun H4 t s5 nt ht => ?_⟩
          -- if is_let(there, floors)
          refine ⟨_, rfl, _, rfl, t, fl, owed fa wc.2 r, b, rfl, ht, ?_, by rw [owed_length]; omega, fun H5 s6 => ⟨_, rfl, ?_⟩⟩
          · rw [owed_length, hlen2]
            exact s5 _ _ (s4 _ _ hfl)
          have s7 : Same H3 H5 := s5.trans s6
          have ht5 := s6 _ _ ht
          have he5 := s7 _ _ he4
          have hl5 := s7 _ _ hl4
          have hwa5 := s7 _ _ hwa4
          have hca5 := s7 _ _ hca4
          have hP5 := ps_keep hP4 (.of s7)
          have hY5 := ps_keep hY4 (.of s7)
          cases hok : ok b (owed fa wc.2 r) with
          | true =>
            refine iteT ?_
            have hylen : ys.length ≤ 2000 := by
              have h1 := hY5.length
              rw [List.length_append] at h1
              have h2 := flatMap_len (next fa b ns.length) ns.length (next_len fa b ns.length) ((lets fa b ns i).take j)
              have h3 := next_len fa b r wc
              have h4 : (j + 1) * ns.length ≤ (lets fa b ns i).length * ns.length := Nat.mul_le_mul_right _ hjR
              rw [Nat.succ_mul] at h4
              have h5 : ((lets fa b ns i).take j).length * ns.length ≤ j * ns.length := Nat.mul_le_mul_right _ (by rw [List.length_take]; omega)
              omega
            -- the new pair, whatever address the new word has
            have fin : ∀ (H6 : Hp) (wn : Addr), Same H5 H6 → H6 wn = some (.tup ((wc.1 ++ [(r : Int)]).map V.int)) → ∀ tn, H6 tn = none →
                Same H (upd (upd H6 tn (.tup [.ref wn, .ref t])) e (.lst (ys ++ [.ref tn]))) ∧ (upd (upd H6 tn (.tup [.ref wn, .ref t])) e (.lst (ys ++ [.ref tn]))) l = some (.lst xs) ∧ (upd H6 tn (.tup [.ref wn, .ref t])) e = some (.lst ys) ∧
                Ps (upd (upd H6 tn (.tup [.ref wn, .ref t])) e (.lst (ys ++ [.ref tn]))) xs (lets fa b ns i) ∧ (upd (upd H6 tn (.tup [.ref wn, .ref t])) e (.lst (ys ++ [.ref tn]))) wa = some (.tup (wc.1.map V.int)) ∧
                (upd (upd H6 tn (.tup [.ref wn, .ref t])) e (.lst (ys ++ [.ref tn]))) ca = some (.tup (wc.2.map V.int)) ∧
                Ps (upd (upd H6 tn (.tup [.ref wn, .ref t])) e (.lst (ys ++ [.ref tn]))) (ys ++ [.ref tn]) (((lets fa b ns i).take j).flatMap (next fa b ns.length) ++ next fa b (r + 1) wc) := by
              intro H6 wn s8 hwn tn ntn
              have s9 : Same H5 (upd H6 tn (.tup [.ref wn, .ref t])) := s8.new ntn
              have he9 := s9 _ _ he5
              have tk : TupKeep (upd H6 tn (.tup [.ref wn, .ref t])) (upd (upd H6 tn (.tup [.ref wn, .ref t])) e (.lst (ys ++ [.ref tn]))) := .lst he9
              have tk5 : TupKeep H5 (upd (upd H6 tn (.tup [.ref wn, .ref t])) e (.lst (ys ++ [.ref tn]))) := (TupKeep.of s9).trans tk
              have hle : l ≠ e := hel
              refine ⟨(s4.trans (s7.trans s9)).put ne0, by rw [upd_ne hle]; exact s9 _ _ hl5, he9, ps_keep hP5 tk5, tk5 _ _ hwa5, tk5 _ _ hca5, ?_⟩
              rw [next_succ, if_pos hok, ← List.append_assoc]
              refine Paired.snoc (ps_keep hY5 tk5) ⟨tn, wn, t, rfl, tk _ _ upd_same, tk _ _ ((same_new ntn) _ _ hwn), tk5 _ _ ht5⟩
            refine ⟨_, rfl, .inl ⟨rfl, _, SqL.of he5⟩, _, rfl, _, rfl, by show 1 ≤ sizeLine; decide, fun u nu => ?_⟩
            have s8 : Same H5 (upd H5 u (.tup [.int (0 + (r : Nat))])) := same_new nu
            refine ⟨wa, u, _, _, rfl, rfl, SqT.of (s8 _ _ hwa5), SqT.of upd_same, ?_, fun hw => ?_, fun hw hz => absurd hz (by simp), fun hw _ wn nwn => ?_⟩
            · rw [List.length_map, hlen1]
              exact line_small (by show i + 1 ≤ _; omega)
            · have hw0 : wc.1 = [] := List.map_eq_nil_iff.mp hw
              refine ⟨.ref t, rfl, by show 2 ≤ sizeLine; decide, fun tn ntn => ?_⟩
              obtain ⟨g1, g2, g3, g4, g5, g6, g7⟩ := fin _ u s8 (by rw [upd_same, hw0]; show _ = some (HO.tup [V.int (r : Int)]); rw [Int.zero_add]) tn ntn
              exact ⟨e, ys, _, rfl, rfl, g3, line_lt (by omega), _, _, _, rfl, g1, g2, g4, g5, g6, upd_same, g7⟩
            · refine ⟨.ref t, rfl, by show 2 ≤ sizeLine; decide, fun tn ntn => ?_⟩
              obtain ⟨g1, g2, g3, g4, g5, g6, g7⟩ := fin _ wn (s8.new nwn) (by rw [upd_same, List.map_append, Int.zero_add]; rfl) tn ntn
              exact ⟨e, ys, _, rfl, rfl, g3, line_lt (by omega), _, _, _, rfl, g1, g2, g4, g5, g6, upd_same, g7⟩
          | false =>
            refine iteF ?_
            refine ⟨_, _, ys, rfl, s4.trans s7, hl5, hP5, hwa5, hca5, he5, ?_⟩
            rw [next_succ, if_neg (by rw [hok]; exact Bool.false_ne_true), List.append_nil]
            exact hY5
        · obtain ⟨y9, y10, ys, rfl, s4, hl4, hP4, hwa4, hca4, he4, hY4⟩ := h
          refine ⟨_, _, _, _, ys, rfl, s4, hl4, hP4, he4, ?_⟩
          rw [flatMap_succ hwc]
          exact hY4
      · -- rows = more
        obtain ⟨y7, y8, y9, y10, ys, rfl, s3, hl3, hP3, he3, hY⟩ := h
        have hxl := hP3.length
        rw [hxl, List.take_length] at hY
        exact ⟨_, rfl, _, _, _, _, _, _, e, ys, rfl, s3, ne0, he3, hY⟩
    · -- return [word for word, here in rows]
      obtain ⟨y5, y6, y7, y8, y9, y10, l, xs, rfl, s1, nl, hl, hP⟩ := h
      refine ⟨.ref l, rfl, l, rfl, ⟨_, SqL.of hl⟩, fun D nD => ?_⟩
      have nD0 : H D = none := s1.free nD
      have sD : Same H1 (upd H1 D (.lst [])) := same_new nD
      have hxl := hP.length
      have hcnt := lets_count fa b ns m
      refine lc_it (walk_list (xs := xs)) (fun i H2 => Same H H2 ∧ H2 l = some (.lst xs) ∧ Ps H2 xs (lets fa b ns m) ∧ ∃ ys, H2 D = some (.lst ys) ∧ Ws H2 ys ((words fa b ns m).take i))
        ⟨s1.trans sD, sD _ _ hl, ps_keep hP (.of sD), [], upd_same, .nil⟩ (fun i H2 _ h => SqL.of h.2.1) (fun i x H2 H2' hi h y => ?_) (fun H2 h => ?_)
      · obtain ⟨s2, hl2, hP2, ys, hD2, hW⟩ := h
        obtain ⟨rfl, hx⟩ := y
        obtain ⟨wc, hwc, t, wa, ca, rfl, ht, hwa, hca⟩ := paired_get hP2 hx
        have tk : TupKeep H2' (upd H2' D (.lst (ys ++ [.ref wa]))) := .lst hD2
        have hlD : l ≠ D := ne_of_none hl nD
        have hyl := hW.length
        refine ⟨t, _, rfl, SqT.of ht, rfl, .ref wa, [.ref ca], rfl, .ref ca, [], rfl, rfl, rfl, _, rfl, ys, hD2, ?_, s2.put nD0, by rw [upd_ne hlD]; exact hl2, ps_keep hP2 tk, _, upd_same, ?_⟩
        · rw [hyl, List.length_take]
          exact line_lt (by omega)
        · have hww : (words fa b ns m)[i]? = some wc.1 := by unfold words; rw [List.getElem?_map, hwc]; rfl
          rw [List.take_add_one, hww]
          exact Paired.snoc (ws_keep hW tk) ⟨wa, rfl, tk _ _ hwa⟩
      · obtain ⟨s2, hl2, hP2, ys, hD2, hW⟩ := h
        have hwl : (words fa b ns m).length = xs.length := by unfold words; rw [List.length_map]; exact hxl.symm
        rw [← hwl, List.take_length] at hW
        exact q H2 D ys s2 nD0 hD2 hW
end
end Dp

set_option Elab.async false
set_option linter.all false
set_option maxRecDepth 100000
set_option maxHeartbeats 4000000
/-! bank_count, bank_words, bank_least. -/
namespace Dp
open PySem PySem.Spec PyProof.Rows L2
section
variable {P : Program} {w : World} {K : PySem.W.Frag} {mg : Str → Option Value} {base : Heap}
/-- what the three ask of their arguments -/
structure Asks (H : Hp) (vs : List V) (t : Addr) (f : Int) (c : Addr) (ns : List Int) (b m : Nat) : Prop where
  args : vs = [.ref t, .int b, .int m]
  tab : Tab H t f c ns
  bank : b < ns.length
  many : m ≤ 12
  pow : ns.length ^ m ≤ 2000
def spBankCount : Sp := fun vs H Q _ => ∃ t f c ns b m, Asks H vs t f c ns b m ∧ ∀ H', Same H H' → Q (.int (lets f b ns m).length) H'
theorem ok_bankCount {f fN fC fF : Addr} {fd fdN fdC fdF : FuncData} (F : Fun K "bank_count" "bank_count" sBankCount f fd) (G : Gb mg)
    (DN : Df K mg "need_bank" sNeedBank fN fdN ["table", "bank", "many"]) (GN : FnOk P w K mg base CX0 4 fN fdN ["table", "bank", "many"] spNeedBank)
    (DC : Df K mg "counts_in" sCountsIn fC fdC ["factor", "coins", "floors", "many"]) (GC : FnOk P w K mg base CX0 2 fC fdC ["factor", "coins", "floors", "many"] spCounts)
    (DF : Df K mg "floors_of" sFloorsOf fF fdF ["players", "bank", "limit"]) (GF : FnOk P w K mg base CX0 1 fF fdF ["players", "bank", "limit"] spFloors) :
    FnOk P w K mg base CX0 5 f fd ["table", "bank", "many"] spBankCount := by
  refine F.ok scBankCount (fun vs H Q E h => ?_) (fun cdv A outer s H vs Q E hr h => ?_)
  · obtain ⟨t, f, c, ns, b, m, ⟨rfl, _⟩, _⟩ := h
    rfl
  · obtain ⟨t, fa, c, ns, b, m, ⟨rfl, T, hb, hm, hp⟩, q⟩ := h
    refine ⟨_, pss_cons (ps_expr (pe_call GN hr (by rfl) DN.glob DN.kp DN.bind .nil pass0 (pa_cons (pv 0) (pa_cons (pv 1) (pa_cons (pv 2) pa_nil)))))
      (pss_one (ps_ret (pe_callB (cr_sumVals rfl) (by rfl) G.sum PyProof.Rows.boot_sum (pa_cons (pe_bm0 PySem.F.plainAttrs_dict PySem.F.slot_dict_values PySem.F.type_dict_values mt_valuesT
        (pe_call GC (hr.mono (by decide)) (by rfl) DC.glob DC.kp DC.bind .nil pass0 (pa_cons (pe_ix ix_tup (pv 0) pe_int (fun _ _ => rfl)) (pa_cons (pe_ix ix_tup (pv 0) pe_int (fun _ _ => rfl))
          (pa_cons (pe_call GF (hr.mono (by decide)) (by rfl) DF.glob DF.kp DF.bind .nil pass0 (pa_cons (pe_callB call_len_seq (by rfl) G.len PySem.boot_len (pa_cons (pe_ix ix_tup (pv 0) pe_int (fun _ _ => rfl)) pa_nil)) (pa_cons (pv 1) (pa_cons pe_int pa_nil))))
          (pa_cons (pv 2) pa_nil)))))) pa_nil)))), ?_⟩
    refine ⟨_, rfl, _, rfl, _, rfl, t, fa, c, ns, b, m, rfl, T, hb, hm, fun H1 s1 => ?_⟩
    have T1 := T.same s1
    refine ⟨_, rfl, t, _, _, _, rfl, rfl, SqT.of T1.at_, rfl, _, rfl, t, _, _, _, rfl, rfl, SqT.of T1.at_, rfl, _, rfl, t, _, _, _, rfl, rfl, SqT.of T1.at_, rfl, c, _, rfl, .inr (SqT.of T1.coins), ?_⟩
    refine ⟨_, rfl, ns.length, b, by rw [List.length_map]; rfl, T.len.2, fun H2 fl s2 nf hf => ?_⟩
    refine ⟨_, rfl, fa, c, fl, ns, b, m, rfl, (T1.same s2).coins, hf, T.fac.1, T.fac.2, T.len.1, T.len.2, hm, by omega, fun H3 d rows s3 nd hd cnt => ?_⟩
    refine ⟨.inr (.inr (.inl ⟨rfl, .inr ⟨_, hd⟩⟩)), d, enc rows, rfl, rfl, hd, fun p np => ?_⟩
    have hdp : d ≠ p := ne_of_none hd np
    refine ⟨p, d, enc rows, rows.map (·.2), rfl, upd_same, by rw [upd_ne hdp]; exact hd, ?_, ?_⟩
    · unfold enc
      rw [List.map_map, List.map_map]
      rfl
    · rw [cnt.total, ends_length]
      exact q _ ((s1.trans (s2.trans s3)).new np)
def spBankWords : Sp := fun vs H Q _ => ∃ t f c ns b m, Asks H vs t f c ns b m ∧ ∀ H' q xs, Same H H' → H q = none → H' q = some (.lst xs) → Ws H' xs (words f b ns m) → Q (.ref q) H'
theorem ok_bankWords {f fN fC fF : Addr} {fd fdN fdC fdF : FuncData} (F : Fun K "bank_words" "bank_words" sBankWords f fd) (G : Gb mg)
    (DN : Df K mg "need_bank" sNeedBank fN fdN ["table", "bank", "many"]) (GN : FnOk P w K mg base CX0 4 fN fdN ["table", "bank", "many"] spNeedBank)
    (DC : Df K mg "words_in" sWordsIn fC fdC ["factor", "coins", "floors", "many"]) (GC : FnOk P w K mg base CX0 3 fC fdC ["factor", "coins", "floors", "many"] spWords)
    (DF : Df K mg "floors_of" sFloorsOf fF fdF ["players", "bank", "limit"]) (GF : FnOk P w K mg base CX0 1 fF fdF ["players", "bank", "limit"] spFloors) :
    FnOk P w K mg base CX0 5 f fd ["table", "bank", "many"] spBankWords := by
  refine F.ok scBankWords (fun vs H Q E h => ?_) (fun cdv A outer s H vs Q E hr h => ?_)
  · obtain ⟨t, f, c, ns, b, m, ⟨rfl, _⟩, _⟩ := h
    rfl
  · obtain ⟨t, fa, c, ns, b, m, ⟨rfl, T, hb, hm, hp⟩, q⟩ := h
    refine ⟨_, pss_cons (ps_expr (pe_call GN hr (by rfl) DN.glob DN.kp DN.bind .nil pass0 (pa_cons (pv 0) (pa_cons (pv 1) (pa_cons (pv 2) pa_nil)))))
      (pss_one (ps_ret (pe_call GC (hr.mono (by decide)) (by rfl) DC.glob DC.kp DC.bind .nil pass0 (pa_cons (pe_ix ix_tup (pv 0) pe_int (fun _ _ => rfl)) (pa_cons (pe_ix ix_tup (pv 0) pe_int (fun _ _ => rfl))
          (pa_cons (pe_call GF (hr.mono (by decide)) (by rfl) DF.glob DF.kp DF.bind .nil pass0 (pa_cons (pe_callB call_len_seq (by rfl) G.len PySem.boot_len (pa_cons (pe_ix ix_tup (pv 0) pe_int (fun _ _ => rfl)) pa_nil)) (pa_cons (pv 1) (pa_cons pe_int pa_nil))))
          (pa_cons (pv 2) pa_nil))))))), ?_⟩
    refine ⟨_, rfl, _, rfl, _, rfl, t, fa, c, ns, b, m, rfl, T, hb, hm, fun H1 s1 => ?_⟩
    have T1 := T.same s1
    refine ⟨_, rfl, t, _, _, _, rfl, rfl, SqT.of T1.at_, rfl, _, rfl, t, _, _, _, rfl, rfl, SqT.of T1.at_, rfl, _, rfl, t, _, _, _, rfl, rfl, SqT.of T1.at_, rfl, c, _, rfl, .inr (SqT.of T1.coins), ?_⟩
    refine ⟨_, rfl, ns.length, b, by rw [List.length_map]; rfl, T.len.2, fun H2 fl s2 nf hf => ?_⟩
    refine ⟨_, rfl, fa, c, fl, ns, b, m, rfl, (T1.same s2).coins, hf, T.fac.1, T.fac.2, T.len.1, T.len.2, hm, hp, fun H3 d xs s3 nd hd hW => ?_⟩
    exact q H3 d xs (s1.trans (s2.trans s3)) ((s1.trans s2).free nd) hd hW
/-- the bank's coins behind each word that is let -/
def banks (f : Int) (b : Nat) (ns : List Int) (m : Nat) : List Int := (ends f b ns m).map fun c => c.getD b 0
def spBankLeast : Sp := fun vs H Q _ => ∃ t f c ns b m, Asks H vs t f c ns b m ∧ banks f b ns m ≠ [] ∧ ∀ H' q lo hi, Same H H' → H q = none → H' q = some (.tup [.int lo, .int hi]) →
  lo ∈ banks f b ns m → (∀ y ∈ banks f b ns m, lo ≤ y) → hi ∈ banks f b ns m → (∀ y ∈ banks f b ns m, y ≤ hi) → Q (.ref q) H'
theorem ok_bankLeast {f fN fC fF : Addr} {fd fdN fdC fdF : FuncData} (F : Fun K "bank_least" "bank_least" sBankLeast f fd) (G : Gb mg)
    (DN : Df K mg "need_bank" sNeedBank fN fdN ["table", "bank", "many"]) (GN : FnOk P w K mg base CX0 4 fN fdN ["table", "bank", "many"] spNeedBank)
    (DC : Df K mg "counts_in" sCountsIn fC fdC ["factor", "coins", "floors", "many"]) (GC : FnOk P w K mg base CX0 2 fC fdC ["factor", "coins", "floors", "many"] spCounts)
    (DF : Df K mg "floors_of" sFloorsOf fF fdF ["players", "bank", "limit"]) (GF : FnOk P w K mg base CX0 1 fF fdF ["players", "bank", "limit"] spFloors) :
    FnOk P w K mg base CX0 5 f fd ["table", "bank", "many"] spBankLeast := by
  refine F.ok scBankLeast (fun vs H Q E h => ?_) (fun cdv A outer s H vs Q E hr h => ?_)
  · obtain ⟨t, f, c, ns, b, m, ⟨rfl, _⟩, _⟩ := h
    rfl
  · obtain ⟨t, fa, c, ns, b, m, ⟨rfl, T, hb, hm, hp⟩, hne, q⟩ := h
    refine ⟨_, pss_cons (ps_expr (pe_call GN hr (by rfl) DN.glob DN.kp DN.bind .nil pass0 (pa_cons (pv 0) (pa_cons (pv 1) (pa_cons (pv 2) pa_nil)))))
      (pss_cons (ps_setLc (i := 3) (own := [("coins", 4)]) (g := gName 4) (tt := tYes) (te := tOp (rIxT K) (tVar 4) (tVar 1)) rfl scBankLeast.nd rfl rfl (sw_true rfl rfl rfl (by decide +kernel)) (pi_keysMT
        (pe_call GC (hr.mono (by decide)) (by rfl) DC.glob DC.kp DC.bind .nil pass0 (pa_cons (pe_ix ix_tup (pv 0) pe_int (fun _ _ => rfl)) (pa_cons (pe_ix ix_tup (pv 0) pe_int (fun _ _ => rfl))
          (pa_cons (pe_call GF (hr.mono (by decide)) (by rfl) DF.glob DF.kp DF.bind .nil pass0 (pa_cons (pe_callB call_len_seq (by rfl) G.len PySem.boot_len (pa_cons (pe_ix ix_tup (pv 0) pe_int (fun _ _ => rfl)) pa_nil)) (pa_cons (pv 1) (pa_cons pe_int pa_nil))))
          (pa_cons (pv 2) pa_nil))))))
        (blkOk_by (N := ["table", "bank", "many", "some", "coins"]) (sc := defScope sBankLeast) (by decide +kernel)) (fun _ _ _ _ _ => pg_name (i := 4) scBankLeast.nd rfl (Or.inl rfl)) (fun _ _ _ _ _ => pts_nil)
        (fun _ _ _ _ _ => pe_ix ix_tup (pv 4) (pv 1) (fun _ _ => rfl)))
      (pss_one (ps_ret (pe_tup (pa_cons (pe_callB (cr_min rfl) (by rfl) G.min PyProof.Rows.boot_min (pa_cons (pv 3) pa_nil)) (pa_cons (pe_callB (cr_max rfl) (by rfl) G.max PyProof.Rows.boot_max (pa_cons (pv 3) pa_nil)) pa_nil)))))), ?_⟩
    refine ⟨_, rfl, _, rfl, _, rfl, t, fa, c, ns, b, m, rfl, T, hb, hm, fun H1 s1 => ?_⟩
    have T1 := T.same s1
    refine ⟨_, rfl, t, _, _, _, rfl, rfl, SqT.of T1.at_, rfl, _, rfl, t, _, _, _, rfl, rfl, SqT.of T1.at_, rfl, _, rfl, t, _, _, _, rfl, rfl, SqT.of T1.at_, rfl, c, _, rfl, .inr (SqT.of T1.coins), ?_⟩
    refine ⟨_, rfl, ns.length, b, by rw [List.length_map]; rfl, T.len.2, fun H2 fl s2 nf hf => ?_⟩
    refine ⟨_, rfl, fa, c, fl, ns, b, m, rfl, (T1.same s2).coins, hf, T.fac.1, T.fac.2, T.len.1, T.len.2, hm, by omega, fun H3 d rows s3 nd hd cnt => ?_⟩
    have nd0 : H d = none := (s1.trans s2).free nd
    refine ⟨d, enc rows, rfl, hd, fun o D nD => ?_⟩
    have s4 : Same H (upd H3 d (.frz o (.dT (enc rows)))) := (s1.trans (s2.trans s3)).put nd0
    have hDd : D ≠ d := fun z => by rw [z, upd_same] at nD; cases nD
    have nD0 : H D = none := s4.free nD
    have hkeys : ∀ p ∈ rows, p.1.length = ns.length := fun p hp => by
      have h1 : p.1 ∈ ends fa b ns m := (cnt.mem p.1).mp (List.mem_map.mpr ⟨p, hp, rfl⟩)
      obtain ⟨wc, hwc, e⟩ := List.mem_map.mp h1
      rw [← e]
      exact (lets_length hwc).1
    have hlen : rows.length ≤ 2000 := by
      have h1 := cnt.length_le
      rw [ends_length] at h1
      have h2 := lets_count fa b ns m
      omega
    refine lc_it (walk_keysT (d := d) (o := o) (kvs := enc rows)) (fun i H4 => Same H H4 ∧ H4 d = some (.frz o (.dT (enc rows))) ∧ H4 D = some (.lst ((rows.take i).map fun p => V.int (p.1.getD b 0))))
      ⟨s4.new nD, by rw [upd_ne (Ne.symm hDd)]; exact upd_same, upd_same⟩ (fun i H4 _ h => h.2.1) (fun i x H4 H4' hi h y => ?_) (fun H4 h => ?_)
    · obtain ⟨s5, hd5, hD5⟩ := h
      obtain ⟨rfl, k, v, kq, hk, rfl, hkq⟩ := y
      obtain ⟨p, hp, rfl, rfl⟩ := enc_at hk
      rw [encK_V] at hkq
      have hpl := hkeys p (List.mem_of_getElem? hp)
      refine ⟨rfl, _, rfl, _, rfl, kq, _, b, _, rfl, rfl, SqT.of hkq, atI_nat (by rw [List.getElem?_map, getD_of (by omega)]; rfl), _, hD5, ?_, s5.put nD0, by rw [upd_ne (Ne.symm hDd)]; exact hd5, ?_⟩
      · rw [List.length_map, List.length_take]
        exact line_lt (by omega)
      · rw [upd_same, take_map hp]
    · obtain ⟨s5, hd5, hD5⟩ := h
      rw [enc_length, List.take_length] at hD5
      have eL : (rows.map fun p => V.int (p.1.getD b 0)) = (rows.map fun p => p.1.getD b 0).map V.int := by rw [List.map_map]; rfl
      rw [eL] at hD5
      have hmem : ∀ y, y ∈ (rows.map fun p => p.1.getD b 0) ↔ y ∈ banks fa b ns m := by
        intro y
        unfold banks
        constructor
        · intro hy
          obtain ⟨p, hp, e⟩ := List.mem_map.mp hy
          exact List.mem_map.mpr ⟨p.1, (cnt.mem p.1).mp (List.mem_map.mpr ⟨p, hp, rfl⟩), e⟩
        · intro hy
          obtain ⟨k, hk, e⟩ := List.mem_map.mp hy
          obtain ⟨p, hp, e2⟩ := List.mem_map.mp ((cnt.mem k).mpr hk)
          exact List.mem_map.mpr ⟨p, hp, by rw [← e, ← e2]⟩
      have hpos : 0 < (rows.map fun p => p.1.getD b 0).length := by
        cases e : banks fa b ns m with
        | nil => exact absurd e hne
        | cons a r =>
          have : a ∈ (rows.map fun p => p.1.getD b 0) := (hmem a).mpr (by rw [e]; exact List.mem_cons_self)
          exact List.length_pos_of_mem this
      refine ⟨_, rfl, D, _, rfl, SqL.of hD5, hpos, fun lo hlo hlo2 => ⟨_, rfl, D, _, rfl, SqL.of hD5, hpos, fun hi hhi hhi2 => ⟨by show 2 ≤ sizeLine; decide, fun p np => ?_⟩⟩⟩
      exact q _ p lo hi (s5.new np) (s5.free np) upd_same ((hmem lo).mp hlo) (fun y hy => hlo2 y ((hmem y).mpr hy)) ((hmem hi).mp hhi) (fun y hy => hhi2 y ((hmem y).mpr hy))
end
end Dp

set_option Elab.async false
set_option linter.all false
set_option maxRecDepth 100000
set_option maxHeartbeats 4000000
/-! The law's draws: _law_taken, _law_pick. -/
namespace Dp
open PySem PySem.Spec PyProof.Rows L2
/-- a list that is read alone: the script, or one of the module's own -/
def Scr (K : PySem.W.Frag) (H : Hp) (p : Addr) (xs : List V) : Prop := (∃ o, H p = some (.frz o (.lst xs))) ∨ SqL K (fun _ => none) p xs
theorem Scr.sq {K : PySem.W.Frag} {H : Hp} {p : Addr} {xs : List V} (h : Scr K H p xs) : SqL K H p xs := by
  rcases h with ⟨o, h⟩ | (h | ⟨o, h⟩) | h
  · exact .inl (.inr ⟨o, h⟩)
  · cases h
  · cases h
  · exact .inr h
theorem Scr.of {K : PySem.W.Frag} {H : Hp} {p : Addr} {xs : List V} (h : SqL K H p xs) (n : ∀ ys, H p ≠ some (.lst ys)) : Scr K H p xs := by
  rcases h with (h | ⟨o, h⟩) | h
  · exact absurd h (n xs)
  · exact .inl ⟨o, h⟩
  · exact .inr (.inr h)
theorem Scr.keep {K : PySem.W.Frag} {H H' : Hp} {p : Addr} {xs : List V} (h : Scr K H p xs) (k : ∀ o u, H p = some (.frz o u) → H' p = some (.frz o u)) : Scr K H' p xs := by
  rcases h with ⟨o, h⟩ | h
  · exact .inl ⟨o, k _ _ h⟩
  · exact .inr h
/-- the row of draws at r: the script, how much of it is taken, a mixed number, a great cell's rest -/
structure RowAt (K : PySem.W.Frag) (H : Hp) (r scr : Addr) (ns : List Int) (a : Nat) (b c : Int) : Prop where
  at_ : H r = some (.lst [.ref scr, .int (a : Int), .int b, .int c])
  scr : Scr K H scr (ns.map V.int)
  low : 0 ≤ b
def Row (K : PySem.W.Frag) (H : Hp) (r : Addr) : Prop := ∃ scr ns a b c, RowAt K H r scr ns a b c
theorem RowAt.put {K : PySem.W.Frag} {H : Hp} {r scr : Addr} {ns : List Int} {a a' : Nat} {b c b' c' : Int} (R : RowAt K H r scr ns a b c) (h : 0 ≤ b') :
    RowAt K (upd H r (.lst [.ref scr, .int (a' : Int), .int b', .int c'])) r scr ns a' b' c' :=
  ⟨upd_same, R.scr.keep fun o u e => by rw [upd_ne (ne_of e R.at_ (fun z => nomatch z))]; exact e, h⟩
theorem Row.same {K : PySem.W.Frag} {H H' : Hp} {r : Addr} (R : Row K H r) (s : Same H H') : Row K H' r := by
  obtain ⟨scr, ns, a, b, c, R⟩ := R
  exact ⟨scr, ns, a, b, c, s _ _ R.at_, R.scr.keep fun o u e => s _ _ e, R.low⟩
/-- another list is written -/
theorem Row.lst {K : PySem.W.Frag} {H : Hp} {r p : Addr} {xs : List V} {o : HO} (R : Row K H r) (hp : H p = some (.lst xs)) (ne : p ≠ r) : Row K (upd H p o) r := by
  obtain ⟨scr, ns, a, b, c, R⟩ := R
  exact ⟨scr, ns, a, b, c, by rw [upd_ne (Ne.symm ne)]; exact R.at_, R.scr.keep fun o u e => by rw [upd_ne (ne_of e hp (fun z => nomatch z))]; exact e, R.low⟩
theorem Row.ne_new {K : PySem.W.Frag} {H : Hp} {r p : Addr} (R : Row K H r) (hp : H p = none) : p ≠ r := by
  obtain ⟨scr, ns, a, b, c, R⟩ := R
  exact fun e => by rw [e, R.at_] at hp; cases hp
/-- a list of ints is not the row -/
theorem Row.ne_ints {K : PySem.W.Frag} {H : Hp} {r p : Addr} {ns : List Int} (R : Row K H r) (hp : H p = some (.lst (ns.map V.int))) : p ≠ r := by
  obtain ⟨scr, ms, a, b, c, R⟩ := R
  refine ne_of hp R.at_ fun z => ?_
  injection z with z
  cases ns with
  | nil => cases z
  | cons x s => injection z with z; cases z
theorem SameBut.free {r p : Addr} {H H1 : Hp} (s : SameBut r H H1) (n : H1 p = none) (ne : p ≠ r) : H p = none := by
  cases e : H p with
  | none => rfl
  | some o => rw [s p o ne e] at n; cases n
theorem SameBut.put {r p : Addr} {H H1 : Hp} {o : HO} (s : SameBut r H H1) (n : H p = none) : SameBut r H (L2.upd H1 p o) := fun b x nb e => by
  rw [upd_ne (ne_of_none e n)]
  exact s b x nb e
section
variable {P : Program} {w : World} {K : PySem.W.Frag} {mg : Str → Option Value} {base : Heap}
def spTaken (K : PySem.W.Frag) : Sp := fun vs H Q _ => ∃ (r : Addr) (m : Nat), vs = [.ref r, .int (m : Int)] ∧ 1 ≤ m ∧ m ≤ 1000 ∧ Row K H r ∧
  ∀ H' (v : Nat), v < m → Row K H' r → SameBut r H H' → (∀ p, p ≠ r → H p = none → H' p = none) → Q (.int (v : Int)) H'
theorem ok_taken {f : Addr} {fd : FuncData} {k : Nat} (F : Fun K "_law_taken" "_law_taken" sTaken f fd) (G : Gb mg) : FnOk P w K mg base CX0 (k + 1) f fd ["_law_row", "_law_many"] (spTaken K) := by
  refine F.ok scTaken (fun vs H Q E h => ?_) (fun cdv A outer s H vs Q E hr h => ?_)
  · obtain ⟨r, m, rfl, _⟩ := h
    rfl
  · obtain ⟨r, m, rfl, hm1, hm2, ⟨scr, ns, a, b, c, R⟩, q⟩ := h
    refine ⟨_, pss_cons (ps_if (pt_cmpR op_gt (pe_ix ix_list (pv 0) pe_int (fun _ _ => rfl)) pe_int (nomark _))
        (pss_cons (ps_set (i := 2) scTaken.nd rfl (.inl rfl) (pe_op op_mod (pe_callTy call_int1 (by rfl) G.int PyProof.Rows.boot_int (pa_cons (pe_ix ix_list (pv 0) pe_int (fun _ _ => rfl)) pa_nil)) (pv 1)))
        (pss_cons (ps_asg (pe_op op_fdiv (pe_ix ix_list (pv 0) pe_int (fun _ _ => rfl)) (pv 1)) (pg_sub (pv 0) pe_int set_list))
        (pss_one (ps_ret (pv 2))))) pss_nil)
      (pss_cons (ps_asg (pe_op op_add (pe_ix ix_list (pv 0) pe_int (fun _ _ => rfl)) pe_int) (pg_sub (pv 0) pe_int set_list))
      (pss_cons (ps_if (pt_cmpR op_gt (pe_ix ix_list (pv 0) pe_int (fun _ _ => rfl)) (pe_callB call_len_seq (by rfl) G.len PySem.boot_len (pa_cons (pe_ix ix_list (pv 0) pe_int (fun _ _ => rfl)) pa_nil)) (nomark _))
        (pss_cons (ps_asg (pe_op op_mod (pe_callTy call_int1 (by rfl) G.int PyProof.Rows.boot_int (pa_cons (pe_op op_add (pe_op op_mul (pe_ix ix_list (pv 0) pe_int (fun _ _ => rfl)) pe_int) pe_int) pa_nil)) pe_int) (pg_sub (pv 0) pe_int set_list))
        (pss_one (ps_ret (pe_op op_mod (pe_callTy call_int1 (by rfl) G.int PyProof.Rows.boot_int (pa_cons (pe_op op_fdiv (pe_ix ix_list (pv 0) pe_int (fun _ _ => rfl)) pe_int) pa_nil)) (pv 1))))) pss_nil)
      (pss_cons (ps_set (i := 3) scTaken.nd rfl (.inl rfl) (pe_ix ix_list (pe_ix ix_list (pv 0) pe_int (fun _ _ => rfl)) (pe_op op_sub (pe_ix ix_list (pv 0) pe_int (fun _ _ => rfl)) pe_int) (fun _ _ => rfl)))
      (pss_cons (ps_asg (pe_op op_mod (pe_callTy call_int1 (by rfl) G.int PyProof.Rows.boot_int (pa_cons (pe_op op_add (pe_op op_add (pe_op op_mul (pe_ix ix_list (pv 0) pe_int (fun _ _ => rfl)) pe_int) (pv 3)) pe_int) pa_nil)) pe_int) (pg_sub (pv 0) pe_int set_list))
      (pss_cons (ps_if (pt_cmpR op_ge (pv 3) (pe_op op_pow pe_int pe_int) (nomark _)) (pss_one (ps_asg (pe_op op_fdiv (pv 3) (pv 1)) (pg_sub (pv 0) pe_int set_list))) pss_nil)
      (pss_one (ps_ret (pe_op op_mod (pe_callTy call_int1 (by rfl) G.int PyProof.Rows.boot_int (pa_cons (pv 3) pa_nil)) (pv 1))))))))), ?_⟩
    have hmm : (0 : Int) < (m : Int) := by omega
    -- what is handed back
    have give : ∀ (H' : Hp) (z : Int), Row K H' r → SameBut r H H' → (∀ p, p ≠ r → H p = none → H' p = none) → Q (.int (z % (m : Int))) H' := by
      intro H' z h1 h2 h3
      have e0 := Int.emod_nonneg z (show (m : Int) ≠ 0 by omega)
      have e1 := Int.emod_lt_of_pos z hmm
      have e2 : z % (m : Int) = (((z % (m : Int)).toNat : Nat) : Int) := by omega
      rw [e2]
      exact q H' _ (by omega) h1 h2 h3
    have same1 : ∀ o, SameBut r H (upd H r o) := fun o => SameBut.upd
    have free1 : ∀ o, ∀ p, p ≠ r → H p = none → (upd H r o) p = none := fun o p hp h => by rw [upd_ne hp]; exact h
    -- if row[3] > 0
    refine ⟨_, rfl, r, _, _, .int c, rfl, rfl, SqL.of R.at_, rfl, _, _, rfl, rfl, _, rfl, ?_⟩
    refine ifD (fun hc => ?_) (fun hc => ?_)
    · refine ⟨_, rfl, r, _, _, .int c, rfl, rfl, SqL.of R.at_, rfl, .inl ⟨c, rfl, ?_⟩⟩
      refine ⟨_, rfl, c, m, rfl, rfl, hmm, ?_⟩
      refine ⟨_, rfl, r, _, _, .int c, rfl, rfl, SqL.of R.at_, rfl, _, rfl, c, m, rfl, rfl, ⟨hmm, by omega⟩, ?_⟩
      refine ⟨_, rfl, r, _, 3, 3, rfl, rfl, R.at_, rfl, _, rfl, ?_⟩
      exact give _ c ⟨_, _, _, _, _, R.put R.low⟩ (same1 _) (free1 _)
    · -- row[1] = row[1] + 1
      refine ⟨_, rfl, r, _, _, .int a, rfl, rfl, SqL.of R.at_, rfl, _, _, rfl, rfl, ?_⟩
      refine ⟨_, rfl, r, _, 1, 1, rfl, rfl, R.at_, rfl, ?_⟩
      have R1 : RowAt K (upd H r (.lst [.ref scr, .int ((a + 1 : Nat) : Int), .int b, .int c])) r scr ns (a + 1) b c := R.put R.low
      have hup : ∀ o, upd (upd H r (.lst [.ref scr, .int ((a + 1 : Nat) : Int), .int b, .int c])) r o = upd H r o := fun o => upd_upd
      refine ⟨_, rfl, r, _, _, .int ((a + 1 : Nat) : Int), rfl, rfl, SqL.of R1.at_, rfl, _, rfl, r, _, _, .ref scr, rfl, rfl, SqL.of R1.at_, rfl, scr, _, rfl, .inl R1.scr.sq, _, _, rfl, rfl, _, rfl, ?_⟩
      refine ifD (fun hl => ?_) (fun hl => ?_)
      · refine ⟨_, rfl, r, _, _, .int b, rfl, rfl, SqL.of R1.at_, rfl, b, 48271, rfl, rfl, .inr ⟨by omega, by omega⟩, _, _, rfl, rfl, .inl ⟨_, rfl, ?_⟩⟩
        refine ⟨_, 2147483647, rfl, rfl, (by show (0 : Int) < 2147483647; decide), ?_⟩
        refine ⟨_, rfl, r, _, 2, 2, rfl, rfl, R1.at_, rfl, ?_⟩
        have hb' : (0 : Int) ≤ (b * 48271 + 11) % 2147483647 := Int.emod_nonneg _ (by decide)
        have R2 := R1.put (a' := a + 1) (b' := (b * 48271 + 11) % 2147483647) (c' := c) hb'
        refine ⟨_, rfl, r, _, _, .int _, rfl, rfl, SqL.of R2.at_, rfl, _, 7, rfl, rfl, ⟨by decide, by decide⟩, .inl ⟨_, rfl, ?_⟩⟩
        refine ⟨_, rfl, _, m, rfl, rfl, hmm, ?_⟩
        refine give _ _ ⟨_, _, _, _, _, R2⟩ ?_ ?_
        · exact (same1 _).trans SameBut.upd
        · intro p hp h
          rw [upd_ne hp]
          exact free1 _ p hp h
      · have hl' : a < ns.length := by
          rw [List.length_map] at hl
          omega
        have en : ns[a]? = some ns[a] := List.getElem?_eq_getElem hl'
        refine ⟨_, rfl, r, _, _, .ref scr, rfl, rfl, SqL.of R1.at_, rfl, _, rfl, r, _, _, .int ((a + 1 : Nat) : Int), rfl, rfl, SqL.of R1.at_, rfl, _, _, rfl, rfl, ?_⟩
        refine ⟨scr, _, _, .int ns[a], rfl, rfl, R1.scr.sq, ?_, ?_⟩
        · have e : ((a + 1 : Nat) : Int) - 1 = ((a : Nat) : Int) := by omega
          rw [e]
          exact atI_nat (by rw [List.getElem?_map, en]; rfl)
        refine ⟨_, rfl, r, _, _, .int b, rfl, rfl, SqL.of R1.at_, rfl, b, 48271, rfl, rfl, .inr ⟨by omega, by omega⟩, _, rfl, _, _, rfl, rfl, _, _, rfl, rfl, .inl ⟨_, rfl, ?_⟩⟩
        refine ⟨_, 2147483647, rfl, rfl, (by show (0 : Int) < 2147483647; decide), ?_⟩
        refine ⟨_, rfl, r, _, 2, 2, rfl, rfl, R1.at_, rfl, ?_⟩
        have hb' : (0 : Int) ≤ (b * 48271 + ns[a] + 11) % 2147483647 := Int.emod_nonneg _ (by decide)
        have R2 := R1.put (a' := a + 1) (b' := (b * 48271 + ns[a] + 11) % 2147483647) (c' := c) hb'
        have same2 : SameBut r H (upd (upd H r (.lst [.ref scr, .int ((a + 1 : Nat) : Int), .int b, .int c])) r (.lst [.ref scr, .int ((a + 1 : Nat) : Int), .int ((b * 48271 + ns[a] + 11) % 2147483647), .int c])) := (same1 _).trans SameBut.upd
        have free2 : ∀ p, p ≠ r → H p = none → (upd (upd H r (.lst [.ref scr, .int ((a + 1 : Nat) : Int), .int b, .int c])) r (.lst [.ref scr, .int ((a + 1 : Nat) : Int), .int ((b * 48271 + ns[a] + 11) % 2147483647), .int c])) p = none := by
          intro p hp h
          rw [upd_ne hp]
          exact free1 _ p hp h
        refine ⟨_, rfl, 10, 18, rfl, rfl, ⟨by decide, by decide, by decide⟩, _, _, rfl, rfl, _, rfl, ?_⟩
        refine ifD (fun hg => ?_) (fun hg => ?_)
        · refine ⟨_, rfl, _, rfl, _, m, rfl, rfl, ⟨hmm, by omega⟩, ?_⟩
          refine ⟨_, rfl, r, _, 3, 3, rfl, rfl, R2.at_, rfl, ?_⟩
          have R3 := R2.put (a' := a + 1) (b' := (b * 48271 + ns[a] + 11) % 2147483647) (c' := ns[a] / (m : Int)) hb'
          refine ⟨_, rfl, .inl ⟨_, rfl, _, rfl, _, m, rfl, rfl, hmm, ?_⟩⟩
          refine give _ _ ⟨_, _, _, _, _, R3⟩ (same2.trans SameBut.upd) ?_
          intro p hp h
          rw [upd_ne hp]
          exact free2 p hp h
        · refine ⟨_, rfl, .inl ⟨_, rfl, _, rfl, _, m, rfl, rfl, hmm, ?_⟩⟩
          exact give _ _ ⟨_, _, _, _, _, R2⟩ same2 free2
end
end Dp

set_option Elab.async false
set_option linter.all false
set_option maxRecDepth 100000
set_option maxHeartbeats 4000000
/-! _law_pick, _law_all_words, _law_owed, _law_along, _law_payers. -/
namespace Dp
open PySem PySem.Spec PyProof.Rows L2
theorem paired_app {α β : Type} {R : α → β → Prop} : ∀ {l₁ : List α} {l₂ : List β} {m₁ : List α} {m₂ : List β}, Paired R l₁ l₂ → Paired R m₁ m₂ → Paired R (l₁ ++ m₁) (l₂ ++ m₂)
  | _, _, _, _, .nil, k => k
  | _, _, _, _, .cons r t, k => .cons r (paired_app t k)
section
variable {P : Program} {w : World} {K : PySem.W.Frag} {mg : Str → Option Value} {base : Heap}
/-! ### _law_pick -/
def spPick (K : PySem.W.Frag) : Sp := fun vs H Q _ => ∃ (r l : Addr) (xs : List Int), vs = [.ref r, .ref l] ∧ H l = some (.lst (xs.map V.int)) ∧ 1 ≤ xs.length ∧ xs.length ≤ 1000 ∧ Row K H r ∧
  ∀ H' x, x ∈ xs → Row K H' r → SameBut r H H' → (∀ p, p ≠ r → H p = none → H' p = none) → Q (.int x) H'
theorem ok_pick {f fT : Addr} {fd fdT : FuncData} (F : Fun K "_law_pick" "_law_pick" sPick f fd) (G : Gb mg)
    (DT : Df K mg "_law_taken" sTaken fT fdT ["_law_row", "_law_many"]) (GT : FnOk P w K mg base CX0 1 fT fdT ["_law_row", "_law_many"] (spTaken K)) :
    FnOk P w K mg base CX0 2 f fd ["_law_row", "_law_things"] (spPick K) := by
  refine F.ok scPick (fun vs H Q E h => ?_) (fun cdv A outer s H vs Q E hr h => ?_)
  · obtain ⟨r, l, xs, rfl, _⟩ := h
    rfl
  · obtain ⟨r, l, xs, rfl, hl, h1, h2, R, q⟩ := h
    refine ⟨_, pss_one (ps_ret (pe_ix ix_list (pv 1) (pe_call GT hr (by rfl) DT.glob DT.kp DT.bind .nil pass0 (pa_cons (pv 0) (pa_cons (pe_callB call_len_seq (by rfl) G.len PySem.boot_len (pa_cons (pv 1) pa_nil)) pa_nil))) (fun _ _ => rfl))), ?_⟩
    refine ⟨_, rfl, _, rfl, _, rfl, l, _, rfl, .inl (SqL.of hl), r, xs.length, by rw [List.length_map]; rfl, h1, h2, R, fun H' v hv R' sb fr => ?_⟩
    have hlr : l ≠ r := by
      obtain ⟨scr, ns, a, b, c, R0⟩ := R
      refine ne_of hl R0.at_ fun z => ?_
      cases xs with
      | nil => exact absurd h1 (by simp)
      | cons x s => injection z with z; injection z with z; cases z
    have ev : xs[v]? = some xs[v] := List.getElem?_eq_getElem hv
    exact ⟨l, _, v, .int xs[v], rfl, rfl, SqL.of (sb _ _ hlr hl), atI_nat (by rw [List.getElem?_map, ev]; rfl), q H' _ (List.getElem_mem hv) R' sb fr⟩
/-! ### _law_all_words -/
def ext (n : Nat) (w : List Int) : List (List Int) := (List.range n).map fun (p : Nat) => w ++ [(p : Int)]
theorem allw_succ (n m : Nat) : allw n (m + 1) = (allw n m).flatMap (ext n) := rfl
theorem ext_length (n : Nat) (w : List Int) : (ext n w).length = n := by unfold ext; simp
def spAllWords : Sp := fun vs H Q _ => ∃ n m : Nat, vs = [.int n, .int m] ∧ 1 ≤ n ∧ n ≤ 4 ∧ m ≤ 4 ∧ ∀ H' q xs, Same H H' → H q = none → H' q = some (.lst xs) → Ws H' xs (allw n m) → Q (.ref q) H'
theorem ok_allWords {f : Addr} {fd : FuncData} {k : Nat} (F : Fun K "_law_all_words" "_law_all_words" sAllWords f fd) (G : Gb mg) : FnOk P w K mg base CX0 (k + 1) f fd ["_law_players", "_law_many"] spAllWords := by
  refine F.ok scAllWords (fun vs H Q E h => ?_) (fun cdv A outer s H vs Q E hr h => ?_)
  · obtain ⟨n, m, rfl, _⟩ := h
    rfl
  · obtain ⟨n, m, rfl, hn1, hn4, hm4, q⟩ := h
    refine ⟨_, pss_cons (ps_set (i := 2) scAllWords.nd rfl (.inl rfl) (pe_lst (pa_cons (pe_tup pa_nil) pa_nil)))
      (pss_cons (ps_for PassesOwn.never rfl (pi_range1 (by rfl) G.range (pa_cons (pv 1) pa_nil)) (pg_name (i := 3) scAllWords.nd rfl (.inl rfl))
        (pss_cons (ps_set (i := 4) scAllWords.nd rfl (.inl rfl) (pe_lst pa_nil))
        (pss_cons (ps_for PassesOwn.never rfl (pi_list (pv 2)) (pg_name (i := 5) scAllWords.nd rfl (.inr rfl))
          (pss_one (ps_set (i := 4) scAllWords.nd rfl (.inl rfl) (pe_op op_cat (pv 4) (pe_lc (own := [("_law_payer", 6)]) (g := gName 6) (tt := tYes) (te := tOp (rCatA K) (tVar 5) (tTup (tCons (tVar 6) tNil))) rfl scAllWords.nd
            (pi_range1 (by rfl) G.range (pa_cons (pv 0) pa_nil)) (blkOk_by (N := ["_law_players", "_law_many", "_law_words", "_law_turn", "_law_more", "_law_word", "_law_payer"]) (sc := defScope sAllWords) (by decide +kernel))
            (fun _ _ _ _ _ => pg_name (i := 6) scAllWords.nd rfl (Or.inl rfl)) (fun _ _ _ _ _ => pts_nil) (fun _ _ _ _ _ => pe_op op_catA (pv 5) (pe_tup (pa_cons (pv 6) pa_nil))))))))
        (pss_one (ps_set (i := 2) scAllWords.nd rfl (.inl rfl) (pv 4))))))
      (pss_one (ps_ret (pv 2)))), ?_⟩
    refine ⟨Nat.zero_le _, fun w0 nw0 => ⟨by show 1 ≤ sizeLine; decide, fun l0 nl0 => ?_⟩⟩
    have k1 : Same H (upd H w0 (.tup [])) := same_new nw0
    have k3 := same_new (o := .lst [V.ref w0]) nl0
    refine ⟨_, rfl, m, rfl, by omega, by omega, ?_⟩
    refine for_range (lo := 0) (n := m) (fun i σ H1 => ∃ y3 y4 y5 y6 l xs, σ = [some (.int n), some (.int m), some (.ref l), y3, y4, y5, y6] ∧ Same H H1 ∧ H l = none ∧ H1 l = some (.lst xs) ∧ Ws H1 xs (allw n i))
      ⟨_, _, _, _, l0, _, rfl, k1.trans k3, k1.free nl0, upd_same, .cons ⟨w0, rfl, k3 _ _ upd_same⟩ .nil⟩ (fun i σ H1 hi h => ?_) (fun σ H1 h => ?_)
    · obtain ⟨y3, y4, y5, y6, l, xs, rfl, s1, nl, hl, hW⟩ := h
      have hcount : (allw n i).length * n ≤ 256 := by
        rw [allw_count]
        have h4 : n ^ i * n = n ^ (i + 1) := (Nat.pow_succ ..).symm
        have h5 : n ^ (i + 1) ≤ 4 ^ (i + 1) := Nat.pow_le_pow_left hn4 _
        have h6 : 4 ^ (i + 1) ≤ 4 ^ 4 := Nat.pow_le_pow_right (by decide) (by omega)
        have h7 : (4 : Nat) ^ 4 = 256 := rfl
        omega
      refine ⟨Nat.zero_le _, fun e ne => ?_⟩
      have hel : l ≠ e := ne_of_none hl ne
      have s2 : Same H1 (upd H1 e (.lst [])) := same_new ne
      refine ⟨.ref l, rfl, l, rfl, ⟨_, SqL.of (s2 _ _ hl)⟩, ?_⟩
      refine for_it (walk_list (xs := xs)) (fun j σ H2 => ∃ y5 y6 e ys, σ = [some (.int n), some (.int m), some (.ref l), some (.int (0 + (i : Nat))), some (.ref e), y5, y6] ∧ Same H H2 ∧ H e = none ∧ H2 l = some (.lst xs) ∧ Ws H2 xs (allw n i) ∧ H2 e = some (.lst ys) ∧ Ws H2 ys (((allw n i).take j).flatMap (ext n)))
        ⟨_, _, e, [], rfl, s1.trans s2, s1.free ne, s2 _ _ hl, ws_keep hW (.of s2), upd_same, .nil⟩ (fun j σ H2 _ h => ?_) (fun j x σ H2 H2' hj h y => ?_) (fun σ H2 h => ?_)
      · obtain ⟨_, _, _, _, _, _, _, h3, _⟩ := h
        exact SqL.of h3
      · obtain ⟨y5, y6, e, ys, rfl, s3, ne0, hl3, hW3, he3, hY⟩ := h
        obtain ⟨rfl, hx⟩ := y
        obtain ⟨wd, hwd, wa, rfl, hwa⟩ := paired_get hW3 hx
        have hjR : j < (allw n i).length := (List.getElem?_eq_some_iff.mp hwd).1
        have hwlen : wd.length = i := (allw_length (List.mem_of_getElem? hwd)).1
        have hylen : ys.length ≤ j * n := by
          rw [hY.length]
          refine Nat.le_trans (flatMap_len (ext n) n (fun x => Nat.le_of_eq (ext_length n x)) _) (Nat.mul_le_mul_right _ ?_)
          rw [List.length_take]
          omega
        have hjn : (j + 1) * n ≤ (allw n i).length * n := Nat.mul_le_mul_right _ hjR
        rw [Nat.succ_mul] at hjn
        refine ⟨_, rfl, _, rfl, n, rfl, by omega, by omega, fun D nD => ?_⟩
        have nD0 : H D = none := s3.free nD
        have sD : Same H2' (upd H2' D (.lst [])) := same_new nD
        refine lc_range (lo := 0) (n := n) (fun r H3 => Same H H3 ∧ H3 l = some (.lst xs) ∧ Ws H3 xs (allw n i) ∧ H3 e = some (.lst ys) ∧ Ws H3 ys (((allw n i).take j).flatMap (ext n)) ∧ H3 wa = some (.tup (wd.map V.int)) ∧ ∃ zs, H3 D = some (.lst zs) ∧ Ws H3 zs (ext r wd))
          ⟨s3.trans sD, sD _ _ hl3, ws_keep hW3 (.of sD), sD _ _ he3, ws_keep hY (.of sD), sD _ _ hwa, [], upd_same, .nil⟩ (fun r H3 hr3 h => ?_) (fun H3 h => ?_)
        · obtain ⟨s4, hl4, hW4, he4, hY4, hwa4, zs, hD4, hZ4⟩ := h
          have hzlen : zs.length = r := hZ4.length.trans (ext_length r wd)
          have hDl : l ≠ D := ne_of_none hl3 nD
          have hDe : e ≠ D := ne_of_none he3 nD
          have fin : ∀ (H6 : Hp) (wn : Addr), Same H3 H6 → H6 wn = some (.tup ((wd ++ [(r : Int)]).map V.int)) → ∃ acc, H6 D = some (.lst acc) ∧ acc.length < sizeLine ∧ (Same H (upd H6 D (.lst (acc ++ [.ref wn]))) ∧ (upd H6 D (.lst (acc ++ [.ref wn]))) l = some (.lst xs) ∧
              Ws (upd H6 D (.lst (acc ++ [.ref wn]))) xs (allw n i) ∧ (upd H6 D (.lst (acc ++ [.ref wn]))) e = some (.lst ys) ∧ Ws (upd H6 D (.lst (acc ++ [.ref wn]))) ys (((allw n i).take j).flatMap (ext n)) ∧ (upd H6 D (.lst (acc ++ [.ref wn]))) wa = some (.tup (wd.map V.int)) ∧
              ∃ zs, (upd H6 D (.lst (acc ++ [.ref wn]))) D = some (.lst zs) ∧ Ws (upd H6 D (.lst (acc ++ [.ref wn]))) zs (ext (r + 1) wd)) := by
            intro H6 wn s6 hwn
            have hD6 := s6 _ _ hD4
            have tk : TupKeep H6 (upd H6 D (.lst (zs ++ [.ref wn]))) := .lst hD6
            have tk3 : TupKeep H3 (upd H6 D (.lst (zs ++ [.ref wn]))) := (TupKeep.of s6).trans tk
            refine ⟨zs, hD6, line_lt (by omega), (s4.trans s6).put nD0, by rw [upd_ne hDl]; exact s6 _ _ hl4, ws_keep hW4 tk3, by rw [upd_ne hDe]; exact s6 _ _ he4, ws_keep hY4 tk3, tk3 _ _ hwa4, _, upd_same, ?_⟩
            unfold ext
            rw [range_map]
            exact Paired.snoc (ws_keep hZ4 tk3) ⟨wn, rfl, tk _ _ hwn⟩
          refine ⟨rfl, _, rfl, _, rfl, by show 1 ≤ sizeLine; decide, fun u nu => ?_⟩
          have s8 : Same H3 (upd H3 u (.tup [.int (0 + (r : Nat))])) := same_new nu
          refine ⟨wa, u, _, _, rfl, rfl, SqT.of (s8 _ _ hwa4), SqT.of upd_same, ?_, fun hw => ?_, fun hw hz => absurd hz (by simp), fun hw _ wn nwn => ?_⟩
          · rw [List.length_map, hwlen]
            exact line_small (by show i + 1 ≤ _; omega)
          · have hw0 : wd = [] := List.map_eq_nil_iff.mp hw
            exact fin _ u s8 (by rw [upd_same, hw0]; show _ = some (HO.tup [V.int (r : Int)]); rw [Int.zero_add])
          · exact fin _ wn (s8.new nwn) (by rw [upd_same, List.map_append, Int.zero_add]; rfl)
        · obtain ⟨s4, hl4, hW4, he4, hY4, hwa4, zs, hD4, hZ4⟩ := h
          have hzlen : zs.length = n := hZ4.length.trans (ext_length n wd)
          refine ⟨e, D, ys, zs, rfl, rfl, he4, hD4, line_small (by omega), fun p np => ?_⟩
          have s5 : Same H3 (upd H3 p (.lst (ys ++ zs))) := same_new np
          refine ⟨_, _, p, _, rfl, s4.trans s5, s4.free np, s5 _ _ hl4, ws_keep hW4 (.of s5), upd_same, ?_⟩
          rw [flatMap_succ hwd]
          exact paired_app (ws_keep hY4 (.of s5)) (ws_keep hZ4 (.of s5))
      · obtain ⟨y5, y6, e, ys, rfl, s3, ne0, hl3, hW3, he3, hY⟩ := h
        have hxl := hW3.length
        rw [hxl, List.take_length] at hY
        exact ⟨_, rfl, _, _, _, _, e, ys, rfl, s3, ne0, he3, hY⟩
    · obtain ⟨y3, y4, y5, y6, l, xs, rfl, s1, nl, hl, hW⟩ := h
      exact ⟨_, rfl, q H1 l xs s1 nl hl hW⟩
end
end Dp

set_option Elab.async false
set_option linter.all false
set_option maxRecDepth 100000
set_option maxHeartbeats 4000000
/-! _law_owed, _law_along, _law_payers. -/
namespace Dp
open PySem PySem.Spec PyProof.Rows L2
section
variable {P : Program} {w : World} {K : PySem.W.Frag} {mg : Str → Option Value} {base : Heap}
/-! ### _law_owed -/
theorem gives_at {f : Int} {ns : List Int} {k : Nat} (h : k < ns.length) : ns.getD k 0 + (ns.map fun x => (f - 1) * x).getD k 0 = f * ns.getD k 0 := by
  rw [getD_scale, Int.sub_mul]
  omega
theorem found_eq (f : Int) (ns : List Int) : ((List.range ns.length).map fun k => ns.getD k 0 + (ns.map fun x => (f - 1) * x).getD k 0) = ns.map fun x => f * x := by
  refine List.ext_getElem? fun k => ?_
  rw [List.getElem?_map, List.getElem?_map]
  by_cases h : k < ns.length
  · rw [List.getElem?_range h, List.getElem?_eq_getElem h]
    show some (ns.getD k 0 + _) = some (f * ns[k])
    rw [gives_at h, List.getD_eq_getElem?_getD, List.getElem?_eq_getElem h]
    rfl
  · rw [List.getElem?_eq_none (by simpa using h), List.getElem?_eq_none (by simpa using h)]
    rfl
theorem owed_eq (f : Int) (ns : List Int) (p : Nat) (h : p < ns.length) :
    (((List.range ns.length).map fun k => ns.getD k 0 + (ns.map fun x => (f - 1) * x).getD k 0).set p (ns.getD p 0 - ((ns.map fun x => (f - 1) * x).sum - (ns.map fun x => (f - 1) * x).getD p 0))) = owed f ns p := by
  rw [found_eq, sum_scale]
  unfold owed
  have := gives_at (f := f) h
  rw [show ns.getD p 0 - ((f - 1) * ns.sum - (ns.map fun x => (f - 1) * x).getD p 0) = f * ns.getD p 0 - (f - 1) * ns.sum by omega]
theorem ok_owed' {f : Addr} {fd : FuncData} {k : Nat} (F : Fun K "_law_owed" "_law_owed" sOwed f fd) (G : Gb mg) : FnOk P w K mg base CX0 (k + 1) f fd ["_law_factor", "_law_coins", "_law_payer"] spOwedIn := by
  refine F.ok scOwed (fun vs H Q E h => ?_) (fun cdv A outer s H vs Q E hr h => ?_)
  · obtain ⟨f, c, ns, p, rfl, _⟩ := h
    rfl
  · obtain ⟨fa, c, ns, p, rfl, hc, hf1, hf2, hlen, hp, q⟩ := h
    refine ⟨_, pss_cons (ps_set (i := 3) scOwed.nd rfl (.inr rfl) (pe_lc (own := [("_law_one", 5)]) (g := gName 5) (tt := tYes) rfl scOwed.nd (pi_tup (pv 1))
          (blkOk_by (N := ["_law_factor", "_law_coins", "_law_payer", "_law_gives", "_law_found", "_law_one", "_law_k"]) (sc := defScope sOwed) (by decide +kernel)) (fun _ _ _ _ _ => pg_name (i := 5) scOwed.nd rfl (Or.inl rfl)) (fun _ _ _ _ _ => pts_nil)
          (fun _ _ _ _ _ => pe_op op_mul (pe_op op_sub (pv 0) pe_int) (pv 5))))
      (pss_cons (ps_setLc (i := 4) (own := [("_law_k", 6)]) (g := gName 6) (tt := tYes) (te := tOp (rI0 fun i j => .int (i + j)) (tOp (rIxT K) (tVar 1) (tVar 6)) (tOp (rIxL K) (tVar 3) (tVar 6))) rfl scOwed.nd rfl rfl (sw_true rfl rfl rfl (by decide +kernel))
          (pi_range1 (by rfl) G.range (pa_cons (pe_callB call_len_seq (by rfl) G.len PySem.boot_len (pa_cons (pv 1) pa_nil)) pa_nil))
          (blkOk_by (N := ["_law_factor", "_law_coins", "_law_payer", "_law_gives", "_law_found", "_law_one", "_law_k"]) (sc := defScope sOwed) (by decide +kernel)) (fun _ _ _ _ _ => pg_name (i := 6) scOwed.nd rfl (Or.inl rfl)) (fun _ _ _ _ _ => pts_nil)
          (fun _ _ _ _ _ => pe_op op_add (pe_ix ix_tup (pv 1) (pv 6) (fun _ _ => rfl)) (pe_ix ix_list (pv 3) (pv 6) (fun _ _ => rfl))))
      (pss_cons (ps_asg (pe_op op_sub (pe_ix ix_tup (pv 1) (pv 2) (fun _ _ => rfl)) (pe_op op_sub (pe_callB (cr_sum rfl) (by rfl) G.sum PyProof.Rows.boot_sum (pa_cons (pv 3) pa_nil)) (pe_ix ix_list (pv 3) (pv 2) (fun _ _ => rfl)))) (pg_sub (pv 4) (pv 2) set_list))
      (pss_one (ps_ret (pe_callTy call_tuple_of (by rfl) G.tuple PyProof.Rows.boot_tuple (pa_cons (pv 4) pa_nil)))))), ?_⟩
    -- gives
    refine ⟨.ref c, rfl, c, rfl, ⟨_, SqT.of hc⟩, fun D nD => ?_⟩
    refine lc_tup (xs := ns.map V.int) (fun i H1 => Same H H1 ∧ H1 D = some (.lst ((ns.take i).map fun x => .int ((fa - 1) * x)))) ⟨same_new nD, upd_same⟩ (fun i H1 _ h => SqT.of (h.1 _ _ hc)) (fun i x H1 hx h => ?_) (fun H1 h => ?_)
    · obtain ⟨n, en, rfl⟩ := map_at hx
      refine ⟨rfl, _, rfl, _, _, rfl, rfl, _, rfl, fa - 1, n, rfl, rfl, .inl ⟨by omega, by omega⟩, _, h.2, ?_, h.1.put nD, ?_⟩
      · rw [List.length_map, List.length_take]
        exact line_lt (by omega)
      · rw [upd_same, take_map en]
    · obtain ⟨s1, hD⟩ := h
      have e0 : ns.take (ns.map V.int).length = ns := by rw [List.length_map]; exact List.take_length
      rw [e0] at hD
      have eG : (ns.map fun x => V.int ((fa - 1) * x)) = (ns.map fun x => (fa - 1) * x).map V.int := by rw [List.map_map]; rfl
      rw [eG] at hD
      -- found
      refine ⟨_, rfl, c, _, rfl, .inr (SqT.of (s1 _ _ hc)), ns.length, by rw [List.length_map], by omega, by omega, fun D2 nD2 => ?_⟩
      have nD20 : H D2 = none := s1.free nD2
      have sD2 : Same H1 (upd H1 D2 (.lst [])) := same_new nD2
      have hDD : D ≠ D2 := ne_of_none hD nD2
      refine lc_range (lo := 0) (n := ns.length) (fun i H2 => Same H H2 ∧ H2 D = some (.lst ((ns.map fun x => (fa - 1) * x).map V.int)) ∧ H2 D2 = some (.lst (((List.range i).map fun k => ns.getD k 0 + (ns.map fun x => (fa - 1) * x).getD k 0).map V.int)))
        ⟨s1.trans sD2, sD2 _ _ hD, upd_same⟩ (fun i H2 hi h => ?_) (fun H2 h => ?_)
      · obtain ⟨s2, hD2, hE2⟩ := h
        have eg : ((ns.map fun x => (fa - 1) * x).map V.int)[i]? = some (.int ((ns.map fun x => (fa - 1) * x).getD i 0)) := by
          rw [List.getElem?_map, getD_of (by rw [List.length_map]; exact hi)]
          rfl
        refine ⟨rfl, _, rfl, _, rfl, c, _, _, _, rfl, rfl, SqT.of (s2 _ _ hc), (by rw [Int.zero_add]; exact atI_nat (by rw [List.getElem?_map, getD_of hi]; rfl)), _, rfl, _, rfl, D, _, _, _, rfl, rfl, SqL.of hD2, (by rw [Int.zero_add]; exact atI_nat eg), _, _, rfl, rfl, _, hE2, ?_, s2.put nD20, by rw [upd_ne hDD]; exact hD2, ?_⟩
        · rw [List.length_map, List.length_map, List.length_range]
          exact line_lt (by omega)
        · rw [upd_same, range_map, List.map_append]
          rfl
      · obtain ⟨s2, hD2, hE2⟩ := h
        have hc2 := s2 _ _ hc
        have eg : ((ns.map fun x => (fa - 1) * x).map V.int)[p]? = some (.int ((ns.map fun x => (fa - 1) * x).getD p 0)) := by
          rw [List.getElem?_map, getD_of (by rw [List.length_map]; exact hp)]
          rfl
        refine ⟨_, rfl, _, rfl, c, _, p, _, rfl, rfl, SqT.of hc2, atI_nat (by rw [List.getElem?_map, getD_of hp]; rfl), _, rfl, D, _, rfl, SqL.of hD2, _, rfl, _, rfl, D, _, p, _, rfl, rfl, SqL.of hD2, atI_nat eg, _, _, rfl, rfl, _, _, rfl, rfl, ?_⟩
        refine ⟨_, rfl, _, rfl, D2, _, p, p, rfl, rfl, hE2, ?_, ?_⟩
        · rw [List.length_map, List.length_map, List.length_range]
          unfold ixN
          rw [if_pos (by omega), if_pos (by omega)]
          rfl
        · refine ⟨_, rfl, D2, _, rfl, .inl ⟨SqL.of upd_same, fun l nl => ?_⟩⟩
          have s3 : Same H (upd H2 D2 (.lst ((((List.range ns.length).map fun k => ns.getD k 0 + (ns.map fun x => (fa - 1) * x).getD k 0).map V.int).set p (.int (ns.getD p 0 - ((ns.map fun x => (fa - 1) * x).sum - (ns.map fun x => (fa - 1) * x).getD p 0)))))) := s2.put nD20
          refine q _ l (s3.new nl) (s3.free nl) ?_
          rw [upd_same, ← owed_eq fa ns p hp, List.map_set]
/-! ### _law_along -/
def along (f : Int) (ns w : List Int) (i : Nat) : List (List Int) := (List.range (i + 1)).map fun j => fin f ns (w.take j)
def spAlong : Sp := fun vs H Q _ => ∃ (f : Int) (c wa : Addr) (ns wd : List Int), vs = [.int f, .ref c, .ref wa] ∧ H c = some (.tup (ns.map V.int)) ∧ H wa = some (.tup (wd.map V.int)) ∧ 2 ≤ f ∧ f ≤ 9 ∧ ns.length ≤ 4 ∧ wd.length ≤ 4 ∧
  (∀ x ∈ wd, 0 ≤ x ∧ x < (ns.length : Int)) ∧ ∀ H' q xs, Same H H' → H q = none → H' q = some (.lst xs) → Ws H' xs (along f ns wd wd.length) → Q (.ref q) H'
theorem ok_along {f fO : Addr} {fd fdO : FuncData} (F : Fun K "_law_along" "_law_along" sAlong f fd)
    (DO : Df K mg "_law_owed" sOwed fO fdO ["_law_factor", "_law_coins", "_law_payer"]) (GO : FnOk P w K mg base CX0 1 fO fdO ["_law_factor", "_law_coins", "_law_payer"] spOwedIn) :
    FnOk P w K mg base CX0 2 f fd ["_law_factor", "_law_coins", "_law_word"] spAlong := by
  refine F.ok scAlong (fun vs H Q E h => ?_) (fun cdv A outer s H vs Q E hr h => ?_)
  · obtain ⟨f, c, wa, ns, wd, rfl, _⟩ := h
    rfl
  · obtain ⟨fa, c, wa, ns, wd, rfl, hc, hwa, hf1, hf2, hlen, hwl, hw, q⟩ := h
    refine ⟨_, pss_cons (ps_set (i := 3) scAlong.nd rfl (.inl rfl) (pe_lst (pa_cons (pv 1) pa_nil)))
      (pss_cons (ps_for PassesOwn.never rfl (pi_tup (pv 2)) (pg_name (i := 4) scAlong.nd rfl (.inl rfl))
        (pss_one (ps_expr (pe_bm PySem.F.plainAttrs_list PySem.F.slot_list_append PySem.F.type_list_append mt_append (pv 3) (pa_cons
          (pe_call GO hr (by rfl) DO.glob DO.kp DO.bind .nil pass0 (pa_cons (pv 0) (pa_cons (pe_ix ix_list (pv 3) (pe_un un_neg pe_int) (fun _ _ => rfl)) (pa_cons (pv 4) pa_nil)))) pa_nil)))))
      (pss_one (ps_ret (pv 3)))), ?_⟩
    refine ⟨.ref c, rfl, by show 1 ≤ sizeLine; decide, fun e ne => ?_⟩
    have s1 : Same H (upd H e (.lst [.ref c])) := same_new ne
    refine ⟨.ref wa, rfl, wa, rfl, ⟨_, SqT.of (s1 _ _ hwa)⟩, ?_⟩
    refine for_it (walk_tup (xs := wd.map V.int)) (fun i σ H1 => ∃ y4 ys a, σ = [some (.int fa), some (.ref c), some (.ref wa), some (.ref e), y4] ∧ Same H H1 ∧ H1 e = some (.lst (ys ++ [.ref a])) ∧ H1 a = some (.tup ((fin fa ns (wd.take i)).map V.int)) ∧ Ws H1 (ys ++ [.ref a]) (along fa ns wd i))
      ⟨_, [], c, rfl, s1, upd_same, s1 _ _ hc, .cons ⟨c, rfl, s1 _ _ hc⟩ .nil⟩ (fun i σ H1 _ h => ?_) (fun i x σ H1 H2 hi h y => ?_) (fun σ H1 h => ?_)
    · obtain ⟨_, _, _, _, s2, _⟩ := h
      exact SqT.of (s2 _ _ hwa)
    · obtain ⟨y4, ys, a, rfl, s2, he2, ha2, hW2⟩ := h
      obtain ⟨rfl, hx⟩ := y
      obtain ⟨p, ep, rfl⟩ := map_at hx
      have hp := hw p (List.mem_of_getElem? ep)
      have hil : i < wd.length := (List.getElem?_eq_some_iff.mp ep).1
      have epn : p = ((p.toNat : Nat) : Int) := by omega
      have hyl : (ys ++ [V.ref a]).length = i + 1 := by
        rw [hW2.length]
        unfold along
        simp
      refine ⟨.ref e, rfl, .inl ⟨rfl, _, SqL.of he2⟩, _, rfl, _, rfl, 1, rfl, e, _, -1, .ref a, rfl, rfl, SqL.of he2, atI_last _ _, _, rfl, fa, a, fin fa ns (wd.take i), p.toNat, (by rw [← epn]; rfl), ha2, hf1, hf2, by rw [fin_length]; exact hlen, by rw [fin_length]; omega, fun H3 t s3 nt ht => ?_⟩
      have he3 := s3 _ _ he2
      have tk : TupKeep H3 (upd H3 e (.lst ((ys ++ [.ref a]) ++ [.ref t]))) := .lst he3
      have tk2 : TupKeep H2 (upd H3 e (.lst ((ys ++ [.ref a]) ++ [.ref t]))) := (TupKeep.of s3).trans tk
      have hfin : fin fa ns (wd.take (i + 1)) = owed fa (fin fa ns (wd.take i)) p.toNat := by
        rw [List.take_add_one, ep]
        exact fin_snoc fa ns (wd.take i) p
      refine ⟨e, _, _, rfl, rfl, he3, line_lt (by omega), _, ys ++ [.ref a], t, rfl, (s2.trans s3).put ne, upd_same, by rw [hfin]; exact tk _ _ ht, ?_⟩
      unfold along
      rw [range_map]
      exact Paired.snoc (ws_keep hW2 tk2) ⟨t, rfl, by rw [hfin]; exact tk _ _ ht⟩
    · obtain ⟨y4, ys, a, rfl, s2, he2, ha2, hW2⟩ := h
      rw [List.length_map] at hW2
      exact ⟨_, rfl, q H1 e _ s2 ne he2 hW2⟩
/-! ### _law_payers -/
def ableTo (f : Int) (c : List Int) (i : Nat) : List Int := ((List.range i).filter fun k => decide (0 ≤ (owed f c k).getD k 0)).map fun (k : Nat) => (k : Int)
theorem ableTo_succ (f : Int) (c : List Int) (i : Nat) : ableTo f c (i + 1) = ableTo f c i ++ if 0 ≤ (owed f c i).getD i 0 then [(i : Int)] else [] := by
  unfold ableTo
  rw [List.range_succ, List.filter_append, List.map_append]
  by_cases h : 0 ≤ (owed f c i).getD i 0
  · rw [if_pos h, List.filter_cons_of_pos (p := fun k => decide (0 ≤ (owed f c k).getD k 0)) (decide_eq_true h)]
    rfl
  · rw [if_neg h, List.filter_cons_of_neg (p := fun k => decide (0 ≤ (owed f c k).getD k 0)) (by simpa using h)]
    rfl
theorem ableTo_length (f : Int) (c : List Int) (i : Nat) : (ableTo f c i).length ≤ i := by
  unfold ableTo
  rw [List.length_map]
  refine Nat.le_trans (List.length_filter_le _ _) ?_
  rw [List.length_range]
  exact Nat.le_refl _
def spPayers : Sp := fun vs H Q _ => ∃ (f : Int) (c : Addr) (ns : List Int), vs = [.int f, .ref c] ∧ H c = some (.tup (ns.map V.int)) ∧ 2 ≤ f ∧ f ≤ 9 ∧ ns.length ≤ 4 ∧
  ∀ H' q, Same H H' → H q = none → H' q = some (.lst ((able f ns).map V.int)) → Q (.ref q) H'
theorem ok_payers {f fO : Addr} {fd fdO : FuncData} (F : Fun K "_law_payers" "_law_payers" sPayers f fd) (G : Gb mg)
    (DO : Df K mg "_law_owed" sOwed fO fdO ["_law_factor", "_law_coins", "_law_payer"]) (GO : FnOk P w K mg base CX0 1 fO fdO ["_law_factor", "_law_coins", "_law_payer"] spOwedIn) :
    FnOk P w K mg base CX0 2 f fd ["_law_factor", "_law_coins"] spPayers := by
  refine F.ok scPayers (fun vs H Q E h => ?_) (fun cdv A outer s H vs Q E hr h => ?_)
  · obtain ⟨f, c, ns, rfl, _⟩ := h
    rfl
  · obtain ⟨fa, c, ns, rfl, hc, hf1, hf2, hlen, q⟩ := h
    refine ⟨_, pss_one (ps_ret (pe_lc (own := [("_law_k", 2)]) (g := gName 2) (tt := tTest (tOp (rI0 fun i j => .bl (decide (j ≤ i))) (tOp (rIxT K) (tCall spOwedIn [] E0 (tCons (tVar 0) (tCons (tVar 1) (tCons (tVar 2) tNil)))) (tVar 2)) (tC (.int 0)))) rfl scPayers.nd
        (pi_range1 (by rfl) G.range (pa_cons (pe_callB call_len_seq (by rfl) G.len PySem.boot_len (pa_cons (pv 1) pa_nil)) pa_nil))
        (blkOk_by (N := ["_law_factor", "_law_coins", "_law_k"]) (sc := defScope sPayers) (by decide +kernel)) (fun _ _ _ _ _ => pg_name (i := 2) scPayers.nd rfl (Or.inl rfl))
        (fun _ _ _ _ _ => pts_one (pt_cmpR op_ge (pe_ix ix_tup (pe_call GO hr (by rfl) DO.glob DO.kp DO.bind .nil pass0 (pa_cons (pv 0) (pa_cons (pv 1) (pa_cons (pv 2) pa_nil)))) (pv 2) (fun _ _ => rfl)) pe_int (nomark _)))
        (fun _ _ _ _ _ => pv 2))), ?_⟩
    refine ⟨_, rfl, c, _, rfl, .inr (SqT.of hc), ns.length, by rw [List.length_map], by omega, by omega, fun D nD => ?_⟩
    refine lc_range (lo := 0) (n := ns.length) (fun i H1 => Same H H1 ∧ H1 D = some (.lst ((ableTo fa ns i).map V.int))) ⟨same_new nD, upd_same⟩ (fun i H1 hi h => ?_) (fun H1 h => ?_)
    · obtain ⟨s1, hD1⟩ := h
      refine ⟨rfl, _, rfl, _, rfl, _, rfl, fa, c, ns, i, (by rw [Int.zero_add]; rfl), s1 _ _ hc, hf1, hf2, hlen, hi, fun H2 t s2 nt ht => ?_⟩
      have hD2 := s2 _ _ hD1
      refine ⟨_, rfl, t, _, _, .int ((owed fa ns i).getD i 0), rfl, rfl, SqT.of ht, (by rw [Int.zero_add]; exact atI_nat (by rw [List.getElem?_map, getD_of (by rw [owed_length]; exact hi)]; rfl)), _, 0, rfl, rfl, _, rfl, ?_⟩
      refine ifD (fun hz => ?_) (fun hz => ?_)
      · refine ⟨_, rfl, _, hD2, ?_, (s1.trans s2).put nD, ?_⟩
        · have := ableTo_length fa ns i
          rw [List.length_map]
          exact line_lt (by omega)
        · rw [upd_same, ableTo_succ, if_pos hz, List.map_append, Int.zero_add]
          rfl
      · refine ⟨s1.trans s2, ?_⟩
        rw [ableTo_succ, if_neg hz, List.append_nil]
        exact hD2
    · exact q H1 D h.1 nD h.2
end
end Dp

set_option Elab.async false
set_option linter.all false
set_option maxRecDepth 100000
set_option maxHeartbeats 4000000
/-! _law_alike, of values that are alike. -/
namespace Dp
open PySem PySem.Spec PyProof.Rows L2
section
variable {P : Program} {w : World} {K : PySem.W.Frag} {mg : Str → Option Value} {base : Heap}
/-- two values, alike by R: the answer is True -/
def spAlike (R : Hp → V → V → Prop) : Sp := fun vs H Q _ => ∃ x y, vs = [x, y] ∧ R H x y ∧ ∀ H', Same H H' → Q (.bl true) H'
def AlInt : Hp → V → V → Prop := fun _ x y => ∃ i : Int, x = .int i ∧ y = .int i
/-- two lists, or two tuples, of values alike by R -/
def AlSeq (R : Hp → V → V → Prop) : Hp → V → V → Prop := fun H x y => ∃ a d xs ys, x = .ref a ∧ y = .ref d ∧ ((H a = some (.lst xs) ∧ H d = some (.lst ys)) ∨ (H a = some (.tup xs) ∧ H d = some (.tup ys))) ∧
  xs.length = ys.length ∧ xs.length ≤ 2000 ∧ ∀ (i : Nat) (x y : V), xs[i]? = some x → ys[i]? = some y → R H x y
def Stays (R : Hp → V → V → Prop) : Prop := ∀ H H' x y, Same H H' → R H x y → R H' x y
theorem alInt_stays : Stays AlInt := fun _ _ _ _ _ h => h
theorem alSeq_stays {R : Hp → V → V → Prop} (r : Stays R) : Stays (AlSeq R) := fun H H' x y s h => by
  obtain ⟨a, d, xs, ys, rfl, rfl, h1, h2, h3, h4⟩ := h
  refine ⟨a, d, xs, ys, rfl, rfl, ?_, h2, h3, fun i x y e1 e2 => r _ _ _ _ s (h4 i x y e1 e2)⟩
  rcases h1 with ⟨k1, k2⟩ | ⟨k1, k2⟩
  · exact .inl ⟨s _ _ k1, s _ _ k2⟩
  · exact .inr ⟨s _ _ k1, s _ _ k2⟩
theorem kit_no {a : String} (h1 : kitB a "tuple" = some false) (h2 : kitB a "list" = some false) : PySem.W.kitAny K (.type a) [.type "tuple", .type "list"] = some false :=
  kitAny_cons (b := false) (kit_ty h1) (fun _ => kitAny_cons (b := false) (kit_ty h2) (fun _ => kitAny_nil) (fun z => nomatch z)) (fun z => nomatch z)
theorem kit_tup : PySem.W.kitAny K (.type "tuple") [.type "tuple", .type "list"] = some true :=
  kitAny_cons (b := true) (kit_ty (by decide +kernel)) (fun z => nomatch z) (fun _ => rfl)
theorem kit_lst : PySem.W.kitAny K (.type "list") [.type "tuple", .type "list"] = some true :=
  kitAny_cons (b := false) (kit_ty (by decide +kernel)) (fun _ => kitAny_cons (b := true) (kit_ty (by decide +kernel)) (fun z => nomatch z) (fun _ => rfl)) (fun z => nomatch z)
theorem tl_cls : Paired ClsV [.ty "tuple", .ty "list"] [.type "tuple", .type "list"] := .cons (.ty _) (.cons (.ty _) .nil)
theorem ok_alikeInt {f : Addr} {fd : FuncData} {k : Nat} (F : Fun K "_law_alike" "_law_alike" sAlike f fd) (G : Gb mg) : FnOk P w K mg base CX0 (k + 1) f fd ["_law_found", "_law_due"] (spAlike AlInt) := by
  refine F.ok scAlike (fun vs H Q E h => ?_) (fun cdv A outer s H vs Q E hr h => ?_)
  · obtain ⟨x, y, rfl, _⟩ := h
    rfl
  · obtain ⟨x, y, rfl, ⟨i, rfl, rfl⟩, q⟩ := h
    refine ⟨_, pss_cons (ps_if (pt_val (pe_callB call_isiT (by rfl) G.isinstance boot_isinstance (pa_cons (pv 1) (pa_cons (pe_tup (pa_cons (pe_bltn (v := .ty "tuple") (by rfl) G.tuple PyProof.Rows.boot_tuple rfl) (pa_cons (pe_bltn (v := .ty "list") (by rfl) G.list PyProof.Rows.boot_list rfl) pa_nil))) pa_nil)))) pss_never pss_nil)
      (pss_cons (ps_if (PW.pt (pw_or (pt_cmpR op_isN (pv 1) pe_non (nomark _)) (pw_or1 (pt_val (pe_callB call_isi (by rfl) G.isinstance boot_isinstance (pa_cons (pv 1) (pa_cons (pe_bltn (v := .ty "str") (by rfl) G.str PyProof.Rows.boot_str rfl) pa_nil))))))) pss_never pss_nil)
      (pss_one (ps_ret (pe_and (pe_callB call_isi (by rfl) G.isinstance boot_isinstance (pa_cons (pv 0) (pa_cons (pe_bltn (v := .ty "int") (by rfl) G.int PyProof.Rows.boot_int rfl) pa_nil)))
        (pe_and (pe_cmpR op_eq (pe_callB call_isi (by rfl) G.isinstance boot_isinstance (pa_cons (pv 0) (pa_cons (pe_bltn (v := .ty "bool") (by rfl) G.bool PyProof.Rows.boot_bool rfl) pa_nil)))
          (pe_callB call_isi (by rfl) G.isinstance boot_isinstance (pa_cons (pv 1) (pa_cons (pe_bltn (v := .ty "bool") (by rfl) G.bool PyProof.Rows.boot_bool rfl) pa_nil))) (nomark _))
        (pe_one (pe_cmpR op_eq (pv 0) (pv 1) (nomark _)))))))), ?_⟩
    refine ⟨_, rfl, by show 2 ≤ sizeLine; decide, fun p np => ?_⟩
    have s1 : Same H (upd H p (.tup [.ty "tuple", .ty "list"])) := same_new np
    refine ⟨_, p, _, _, _, false, rfl, upd_same, tl_cls, .base (.int i), kit_no (by decide +kernel) (by decide +kernel), _, rfl, iteF ?_⟩
    refine ⟨_, rfl, rfl, _, rfl, ?_⟩
    refine ifDF (fun z => nomatch z) ?_
    refine ⟨_, rfl, _, _, _, _, false, rfl, .ty "str", .base (.int i), kit_ty (by decide +kernel), _, rfl, iteF ?_⟩
    refine ⟨_, rfl, _, _, _, _, true, rfl, .ty "int", .base (.int i), kit_ty (by decide +kernel), _, rfl, iteT ?_⟩
    refine ⟨_, rfl, _, _, _, _, false, rfl, .ty "bool", .base (.int i), kit_ty (by decide +kernel), _, rfl, _, _, _, _, false, rfl, .ty "bool", .base (.int i), kit_ty (by decide +kernel), rfl, _, rfl, ?_⟩
    refine ifDT rfl ⟨_, rfl, _, rfl, rfl, ?_⟩
    rw [decide_eq_true rfl]
    exact q _ s1
theorem ok_alikeSeq {R : Hp → V → V → Prop} (st : Stays R) {f : Addr} {fd : FuncData} {k : Nat} (D : Df K mg "_law_alike" sAlike f fd ["_law_found", "_law_due"]) (G : Gb mg)
    (GA : FnOk P w K mg base CX0 k f fd ["_law_found", "_law_due"] (spAlike R)) : FnOk P w K mg base CX0 (k + 1) f fd ["_law_found", "_law_due"] (spAlike (AlSeq R)) := by
  refine D.fn.ok scAlike (fun vs H Q E h => ?_) (fun cdv A outer s H vs Q E hr h => ?_)
  · obtain ⟨x, y, rfl, _⟩ := h
    rfl
  · obtain ⟨x, y, rfl, ⟨a, d, xs, ys, rfl, rfl, hs, hl, hz, hR⟩, q⟩ := h
    refine ⟨_, pss_cons (ps_if (pt_val (pe_callB call_isiT (by rfl) G.isinstance boot_isinstance (pa_cons (pv 1) (pa_cons (pe_tup (pa_cons (pe_bltn (v := .ty "tuple") (by rfl) G.tuple PyProof.Rows.boot_tuple rfl) (pa_cons (pe_bltn (v := .ty "list") (by rfl) G.list PyProof.Rows.boot_list rfl) pa_nil))) pa_nil))))
        (pss_cons (ps_if (PW.pt (pw_or (pt_not (pt_val (pe_callB call_isiT (by rfl) G.isinstance boot_isinstance (pa_cons (pv 0) (pa_cons (pe_tup (pa_cons (pe_bltn (v := .ty "tuple") (by rfl) G.tuple PyProof.Rows.boot_tuple rfl) (pa_cons (pe_bltn (v := .ty "list") (by rfl) G.list PyProof.Rows.boot_list rfl) pa_nil))) pa_nil)))))
            (pw_or1 (pt_cmpR op_ne (pe_callB call_isi (by rfl) G.isinstance boot_isinstance (pa_cons (pv 0) (pa_cons (pe_bltn (v := .ty "list") (by rfl) G.list PyProof.Rows.boot_list rfl) pa_nil)))
              (pe_callB call_isi (by rfl) G.isinstance boot_isinstance (pa_cons (pv 1) (pa_cons (pe_bltn (v := .ty "list") (by rfl) G.list PyProof.Rows.boot_list rfl) pa_nil))) (nomark _))))) pss_never pss_nil)
        (pss_cons (ps_if (pt_cmpR op_ne (pe_callB call_len_seq (by rfl) G.len PySem.boot_len (pa_cons (pv 0) pa_nil)) (pe_callB call_len_seq (by rfl) G.len PySem.boot_len (pa_cons (pv 1) pa_nil)) (nomark _)) pss_never pss_nil)
        (pss_one (ps_ret (pe_cmpR (op_eqD hr.units) (pe_lc (own := [("_law_k", 2)]) (g := gName 2)
          (tt := tNot (tB (tCall (spAlike R) [] E0 (tCons (tOp (rIx K) (tVar 0) (tVar 2)) (tCons (tOp (rIx K) (tVar 1) (tVar 2)) tNil))))) rfl scAlike.nd
          (pi_range1 (by rfl) G.range (pa_cons (pe_callB call_len_seq (by rfl) G.len PySem.boot_len (pa_cons (pv 1) pa_nil)) pa_nil))
          (blkOk_by (N := ["_law_found", "_law_due", "_law_k"]) (sc := defScope sAlike) (by decide +kernel)) (fun _ _ _ _ _ => pg_name (i := 2) scAlike.nd rfl (Or.inl rfl))
          (fun _ _ _ _ _ => pts_one (pt_not (pt_val (pe_call GA hr (by rfl) D.glob D.kp D.bind .nil pass0 (pa_cons (pe_ix ix_seq (pv 0) (pv 2) (fun _ _ => rfl)) (pa_cons (pe_ix ix_seq (pv 1) (pv 2) (fun _ _ => rfl)) pa_nil))))))
          (fun _ _ _ _ _ => pv 2)) (pe_lst pa_nil) (nomark _)))))) pss_nil) pss_never, ?_⟩
    -- what both are
    have key : ∃ (T : String) (il : Bool), PySem.W.kitAny K (.type T) [.type "tuple", .type "list"] = some true ∧ PySem.W.kitOne K (.type T) (.type "list") = some il ∧
        ∀ H', Same H H' → TyX K H' (.ref a) (.type T) ∧ TyX K H' (.ref d) (.type T) ∧ (SqL K H' a xs ∨ SqT K H' a xs) ∧ (SqL K H' d ys ∨ SqT K H' d ys) ∧
          (∀ (i : Nat) v (Q : VK), xs[i]? = some v → Q v H' → rIx K (.ref a) (.int (i : Int)) H' Q) ∧ ∀ (i : Nat) v (Q : VK), ys[i]? = some v → Q v H' → rIx K (.ref d) (.int (i : Int)) H' Q := by
      rcases hs with ⟨ha, hd⟩ | ⟨ha, hd⟩
      · refine ⟨"list", true, kit_lst, kit_ty (by decide +kernel), fun H' s' => ⟨.base (.lst (s' _ _ ha)), .base (.lst (s' _ _ hd)), .inl (SqL.of (s' _ _ ha)), .inl (SqL.of (s' _ _ hd)), fun i v Q e z => .inl ⟨a, xs, i, v, rfl, rfl, SqL.of (s' _ _ ha), atI_nat e, z⟩, fun i v Q e z => .inl ⟨d, ys, i, v, rfl, rfl, SqL.of (s' _ _ hd), atI_nat e, z⟩⟩⟩
      · refine ⟨"tuple", false, kit_tup, kit_ty (by decide +kernel), fun H' s' => ⟨.base (.tup (s' _ _ ha)), .base (.tup (s' _ _ hd)), .inr (SqT.of (s' _ _ ha)), .inr (SqT.of (s' _ _ hd)), fun i v Q e z => .inr (.inl ⟨a, xs, i, v, rfl, rfl, SqT.of (s' _ _ ha), atI_nat e, z⟩), fun i v Q e z => .inr (.inl ⟨d, ys, i, v, rfl, rfl, SqT.of (s' _ _ hd), atI_nat e, z⟩)⟩⟩
    obtain ⟨T, il, kt, ki, key⟩ := key
    refine ⟨_, rfl, by show 2 ≤ sizeLine; decide, fun p np => ?_⟩
    have s1 : Same H (upd H p (.tup [.ty "tuple", .ty "list"])) := same_new np
    refine ⟨_, p, _, _, _, true, rfl, upd_same, tl_cls, (key _ s1).2.1, kt, _, rfl, iteT ?_⟩
    refine ⟨_, rfl, by show 2 ≤ sizeLine; decide, fun p2 np2 => ?_⟩
    have s2 := s1.new (o := .tup [.ty "tuple", .ty "list"]) np2
    obtain ⟨ta, td, la, ld, ia, id⟩ := key _ s2
    refine ⟨_, p2, _, _, _, true, rfl, upd_same, tl_cls, ta, kt, _, rfl, iteF ?_⟩
    refine ⟨_, rfl, _, _, _, _, il, rfl, .ty "list", ta, ki, _, rfl, _, _, _, _, il, rfl, .ty "list", td, ki, rfl, _, rfl, iteNS rfl ?_⟩
    refine ⟨_, rfl, a, xs, rfl, la, _, rfl, d, ys, rfl, ld, rfl, _, rfl, iteNS (by rw [hl]) ?_⟩
    refine ⟨_, rfl, d, ys, rfl, ld, ys.length, rfl, by omega, by omega, fun D nD => ?_⟩
    refine lc_range (lo := 0) (n := ys.length) (fun i H1 => Same H H1 ∧ H1 D = some (.lst [])) ⟨s2.new nD, upd_same⟩ (fun i H1 hi h => ?_) (fun H1 h => ?_)
    · obtain ⟨s3, hD⟩ := h
      obtain ⟨_, _, _, _, ia, id⟩ := key _ s3
      have ex : xs[i]? = some xs[i] := List.getElem?_eq_getElem (by omega)
      have ey : ys[i]? = some ys[i] := List.getElem?_eq_getElem hi
      refine ⟨rfl, _, rfl, _, rfl, ?_⟩
      rw [Int.zero_add]
      refine ia i _ _ ex ⟨_, rfl, _, rfl, ?_⟩
      refine id i _ _ ey ⟨_, _, rfl, st _ _ _ _ s3 (hR i _ _ ex ey), fun H2 s4 => ⟨_, rfl, iteF ⟨s3.trans s4, s4 _ _ hD⟩⟩⟩
    · obtain ⟨s3, hD⟩ := h
      refine ⟨Nat.zero_le _, fun l nl => ?_⟩
      have hDl : D ≠ l := ne_of_none hD nl
      refine ⟨.list [], .list [], .lst (SqL.of (by rw [upd_ne hDl]; exact hD)) .nil, .lst (SqL.of upd_same) .nil, rfl, rfl, ?_⟩
      exact q _ (s3.new nl)
end
end Dp

set_option linter.all false
set_option maxRecDepth 10000
/-! Plain mathematics of the tables that the law draws. -/
namespace Dp
theorem mem_set' {l : List Int} {p : Nat} {v x : Int} (h : x ∈ l.set p v) : x ∈ l ∨ x = v := List.mem_or_eq_of_mem_set h
/-- coins times f, one of them f - 1 more -/
theorem grow_sum {f : Int} {ns : List Int} {p : Nat} (h : p < ns.length) : ((ns.map fun x => f * x).set p ((ns.map fun x => f * x).getD p 0 + (f - 1))).sum = f * ns.sum + (f - 1) := by
  rw [sum_set' (by simpa using h), sum_scale]
  omega
theorem grow_low {f : Int} {ns : List Int} {p : Nat} (hf : 1 ≤ f) (h : ∀ x ∈ ns, 0 ≤ x) : ∀ x ∈ (ns.map fun x => f * x).set p ((ns.map fun x => f * x).getD p 0 + (f - 1)), 0 ≤ x := by
  have h1 : ∀ x ∈ ns.map fun x => f * x, 0 ≤ x := by
    intro x hx
    obtain ⟨y, hy, e⟩ := List.mem_map.mp hx
    subst e
    exact Int.mul_nonneg (by omega) (h y hy)
  have h2 : 0 ≤ (ns.map fun x => f * x).getD p 0 := by
    rw [List.getD_eq_getElem?_getD]
    cases e : (ns.map fun x => f * x)[p]? with
    | none => simp
    | some y => exact h1 y (List.mem_of_getElem? e)
  intro x hx
  rcases mem_set' hx with hx | hx
  · exact h1 x hx
  · omega
theorem zeros_sum (n : Nat) : (List.replicate n (0 : Int)).sum = 0 := by
  induction n with
  | zero => rfl
  | succ n ih => rw [List.replicate_succ, List.sum_cons, ih]; rfl
theorem ones_sum (n : Nat) : (List.replicate n (1 : Int)).sum = (n : Int) := by
  induction n with
  | zero => rfl
  | succ n ih => rw [List.replicate_succ, List.sum_cons, ih]; omega
theorem low_replicate {n : Nat} {x : Int} (h : x ∈ List.replicate n (0 : Int)) : x = 0 := (List.mem_replicate.mp h).2
/-- the others divide by f: their coins divided come to the whole less p's, divided -/
theorem div_others {f : Int} (hf : 0 < f) : ∀ (ns : List Int) (p : Nat), p < ns.length → (∀ k, k < ns.length → k ≠ p → ns.getD k 0 % f = 0) →
    f * ((ns.map fun x => x / f).sum - ns.getD p 0 / f) = ns.sum - ns.getD p 0
  | [], _, h, _ => by simp at h
  | a :: r, 0, _, h => by
    have hr : ∀ s : List Int, (∀ x ∈ s, x % f = 0) → f * (s.map fun x => x / f).sum = s.sum := by
      intro s
      induction s with
      | nil => intro _; simp
      | cons b t ih =>
        intro hs
        rw [List.map_cons, List.sum_cons, List.sum_cons, Int.mul_add, ih fun x hx => hs x (List.mem_cons_of_mem _ hx), Int.mul_ediv_cancel' (Int.dvd_of_emod_eq_zero (hs b List.mem_cons_self))]
    have hall : ∀ x ∈ r, x % f = 0 := by
      intro x hx
      obtain ⟨k, hk, e⟩ := List.mem_iff_getElem.mp hx
      have := h (k + 1) (by simp; omega) (by omega)
      rw [List.getD_eq_getElem?_getD, List.getElem?_cons_succ, List.getElem?_eq_getElem hk, e] at this
      exact this
    have e := hr r hall
    rw [List.map_cons, List.sum_cons, List.sum_cons]
    show f * (a / f + (r.map fun x => x / f).sum - a / f) = a + r.sum - a
    rw [show a / f + (r.map fun x => x / f).sum - a / f = (r.map fun x => x / f).sum by omega, e]
    omega
  | a :: r, p + 1, hp, h => by
    have ih := div_others hf r p (by simpa using hp) (fun k hk hne => by
      have := h (k + 1) (by simp; omega) (by omega)
      rw [List.getD_eq_getElem?_getD, List.getElem?_cons_succ, ← List.getD_eq_getElem?_getD] at this
      exact this)
    have ha : f * (a / f) = a := Int.mul_ediv_cancel' (Int.dvd_of_emod_eq_zero (h 0 (by simp) (by omega)))
    rw [List.map_cons, List.sum_cons, List.sum_cons]
    show f * (a / f + (r.map fun x => x / f).sum - r.getD p 0 / f) = a + r.sum - r.getD p 0
    rw [show a / f + (r.map fun x => x / f).sum - r.getD p 0 / f = a / f + ((r.map fun x => x / f).sum - r.getD p 0 / f) by omega, Int.mul_add, ha, ih]
    omega
theorem getD_div {f : Int} {l : List Int} {p : Nat} : (l.map fun x => x / f).getD p 0 = l.getD p 0 / f := by
  rw [List.getD_eq_getElem?_getD, List.getD_eq_getElem?_getD, List.getElem?_map]
  cases l[p]? with
  | none => simp
  | some x => rfl
/-- a round backwards keeps the whole -/
theorem back_sum {f : Int} (hf : 0 < f) {ns : List Int} {p : Nat} (hp : p < ns.length) (h : ∀ k, k < ns.length → k ≠ p → ns.getD k 0 % f = 0) :
    ((ns.map fun x => x / f).set p ((ns.getD p 0 + (f - 1) * ns.sum) / f)).sum = ns.sum := by
  rw [sum_set' (by simpa using hp), getD_div]
  have e := div_others hf ns p hp h
  have e2 : ns.getD p 0 + (f - 1) * ns.sum = f * (ns.sum - ((ns.map fun x => x / f).sum - ns.getD p 0 / f)) := by
    rw [Int.mul_sub, e, Int.sub_mul]
    omega
  rw [e2, Int.mul_ediv_cancel_left _ (by omega)]
  omega
theorem back_low {f : Int} (hf : 2 ≤ f) {ns : List Int} {p : Nat} (h : ∀ x ∈ ns, 0 ≤ x) : ∀ x ∈ (ns.map fun x => x / f).set p ((ns.getD p 0 + (f - 1) * ns.sum) / f), 0 ≤ x := by
  intro x hx
  have h2 : 0 ≤ ns.getD p 0 := by
    rw [List.getD_eq_getElem?_getD]
    cases e : ns[p]? with
    | none => simp
    | some y => exact h y (List.mem_of_getElem? e)
  have h3 : 0 ≤ (f - 1) * ns.sum := Int.mul_nonneg (by omega) (sum_nonneg h)
  rcases mem_set' hx with hx | hx
  · obtain ⟨y, hy, e⟩ := List.mem_map.mp hx
    subst e
    exact Int.ediv_nonneg (h y hy) (by omega)
  · subst hx
    exact Int.ediv_nonneg (by omega) (by omega)
theorem scale_low {f : Int} (hf : 0 ≤ f) {ns : List Int} (h : ∀ x ∈ ns, 0 ≤ x) : ∀ x ∈ ns.map fun x => f * x, 0 ≤ x := by
  intro x hx
  obtain ⟨y, hy, e⟩ := List.mem_map.mp hx
  subst e
  exact Int.mul_nonneg hf (h y hy)
/-- the coins of the others -/
def oth (ns : List Int) (p i : Nat) : List Int := ((List.range i).filter fun k => !decide (k = p)).map fun k => ns.getD k 0
theorem oth_succ (ns : List Int) (p i : Nat) : oth ns p (i + 1) = oth ns p i ++ if i = p then [] else [ns.getD i 0] := by
  unfold oth
  rw [List.range_succ, List.filter_append, List.map_append]
  by_cases h : i = p
  · rw [if_pos h, List.filter_cons_of_neg (p := fun k => !decide (k = p)) (by simp [h])]
    rfl
  · rw [if_neg h, List.filter_cons_of_pos (p := fun k => !decide (k = p)) (by simp [h])]
    rfl
theorem oth_length (ns : List Int) (p i : Nat) : (oth ns p i).length ≤ i := by
  unfold oth
  rw [List.length_map]
  refine Nat.le_trans (List.length_filter_le _ _) ?_
  rw [List.length_range]
  exact Nat.le_refl _
/-- those of some that don't divide by f -/
def rests (f : Int) (xs : List Int) : List Int := xs.filter fun x => !decide (x % f = 0)
theorem rests_take {f : Int} {xs : List Int} {i : Nat} {x : Int} (h : xs[i]? = some x) : rests f (xs.take (i + 1)) = rests f (xs.take i) ++ if x % f = 0 then [] else [x] := by
  unfold rests
  rw [List.take_add_one, h, List.filter_append]
  show _ ++ List.filter _ [x] = _
  by_cases z : x % f = 0
  · rw [if_pos z, List.filter_cons_of_neg (p := fun x => !decide (x % f = 0)) (by simp [z])]
    rfl
  · rw [if_neg z, List.filter_cons_of_pos (p := fun x => !decide (x % f = 0)) (by simp [z])]
    rfl
theorem rests_none {f : Int} {ns : List Int} {p : Nat} (h : (rests f (oth ns p ns.length)).isEmpty = true) : ∀ k, k < ns.length → k ≠ p → ns.getD k 0 % f = 0 := by
  intro k hk hne
  have h1 : rests f (oth ns p ns.length) = [] := List.isEmpty_iff.mp h
  unfold rests at h1
  rw [List.filter_eq_nil_iff] at h1
  have hm : ns.getD k 0 ∈ oth ns p ns.length := List.mem_map.mpr ⟨k, List.mem_filter.mpr ⟨List.mem_range.mpr hk, by simp [hne]⟩, rfl⟩
  have := h1 _ hm
  simpa using this
theorem pow_le9 {f : Int} (h0 : 2 ≤ f) (h9 : f ≤ 9) : ∀ i : Nat, 1 ≤ f ^ i ∧ f ^ i ≤ 9 ^ i
  | 0 => by simp
  | i + 1 => by
    obtain ⟨h1, h2⟩ := pow_le9 h0 h9 i
    rw [Int.pow_succ, Int.pow_succ]
    constructor
    · have : 1 * 1 ≤ f ^ i * f := Int.mul_le_mul h1 (by omega) (by omega) (by omega)
      omega
    · have h3 : f ^ i * f ≤ f ^ i * 9 := Int.mul_le_mul_of_nonneg_left h9 (by omega)
      have h4 : f ^ i * 9 ≤ 9 ^ i * 9 := Int.mul_le_mul_of_nonneg_right h2 (by omega)
      omega
end Dp

set_option Elab.async false
set_option linter.all false
set_option maxRecDepth 100000
set_option maxHeartbeats 8000000
/-! _law_table: what it draws is a table. -/
namespace Dp
open PySem PySem.Spec PyProof.Rows L2
abbrev NT : List Str := ["_law_row", "_law_most", "_law_top", "_law_factor", "_law_players", "_law_way", "_law_size", "_law_coins", "_law_turn", "_law_many", "_law_payer", "_law_total", "_law_others", "_law_sums", "_law_one", "_law_k"]
theorem flat_rep {α : Type} (n : Nat) (x : α) : (List.replicate n [x]).flatten = List.replicate n x := by
  induction n with
  | zero => rfl
  | succ n ih => rw [List.replicate_succ, List.flatten_cons, ih, List.replicate_succ]; rfl
theorem rep_map (n : Nat) (x : Int) : List.replicate n (V.int x) = (List.replicate n x).map V.int := by rw [List.map_replicate]
/-- what a list of coins is while a table is drawn -/
structure Cns (K : PySem.W.Frag) (H H1 : Hp) (r l : Addr) (ns : List Int) (n : Nat) : Prop where
  same : SameBut r H H1
  row : Row K H1 r
  at_ : H1 l = some (.lst (ns.map V.int))
  len : ns.length = n
  low : ∀ x ∈ ns, 0 ≤ x
  free : H l = none
/-- a list of ints, and what a comprehension or a store makes of it, at an address that was free -/
theorem fresh_lst {K : PySem.W.Frag} {H H1 : Hp} {r D : Addr} (s : SameBut r H H1) (R : Row K H1 r) (n : H1 D = none) : H D = none := s.free n (R.ne_new n)
theorem row_new {K : PySem.W.Frag} {H1 : Hp} {r D : Addr} {o : HO} (R : Row K H1 r) (n : H1 D = none) : Row K (upd H1 D o) r := R.same (same_new n)
theorem sb_new {r D : Addr} {H H1 : Hp} {o : HO} (s : SameBut r H H1) (n : H1 D = none) : SameBut r H (upd H1 D o) := s.trans (SameBut.of (same_new n))
section
variable {P : Program} {w : World} {K : PySem.W.Frag} {mg : Str → Option Value} {base : Heap}
def spTable (K : PySem.W.Frag) : Sp := fun vs H Q _ => ∃ (r : Addr) (top : Nat), vs = [.ref r, .int 4, .int (top : Int)] ∧ 1 ≤ top ∧ top ≤ 1000 ∧ Row K H r ∧
  ∀ H' t f c ns, Tab H' t f c ns → Row K H' r → SameBut r H H' → Q (.ref t) H'
set_option maxHeartbeats 16000000 in
theorem ok_table {f fT fP : Addr} {fd fdT fdP : FuncData} (F : Fun K "_law_table" "_law_table" sTable f fd) (G : Gb mg)
    (DT : Df K mg "_law_taken" sTaken fT fdT ["_law_row", "_law_many"]) (GT : FnOk P w K mg base CX0 1 fT fdT ["_law_row", "_law_many"] (spTaken K))
    (DP : Df K mg "_law_pick" sPick fP fdP ["_law_row", "_law_things"]) (GP : FnOk P w K mg base CX0 2 fP fdP ["_law_row", "_law_things"] (spPick K)) :
    FnOk P w K mg base CX0 3 f fd ["_law_row", "_law_most", "_law_top"] (spTable K) := by
  refine F.ok scTable (fun vs H Q E h => ?_) (fun cdv A outer s H vs Q E hr h => ?_)
  · obtain ⟨r, top, rfl, _⟩ := h
    rfl
  · obtain ⟨r, top, rfl, ht1, ht2, R, q⟩ := h
    have hr1 := hr.mono (show 1 ≤ 2 by decide)
    refine ⟨_, pss_cons (ps_asg (pe_tup (pa_cons (pe_call GP hr (by rfl) DP.glob DP.kp DP.bind .nil pass0 (pa_cons (pv 0) (pa_cons (pe_lst (pa_cons (pe_int) (pa_cons (pe_int) (pa_cons (pe_int) (pa_cons (pe_int) (pa_cons (pe_int) (pa_cons (pe_int) (pa_cons (pe_int) pa_nil)))))))) pa_nil))) (pa_cons (pe_op op_add pe_int (pe_call GT hr1 (by rfl) DT.glob DT.kp DT.bind .nil pass0 (pa_cons (pv 0) (pa_cons (pv 1) pa_nil)))) pa_nil))) (pg_tup rfl (pgs_cons (pg_name (i := 3) scTable.nd rfl (.inr rfl)) (pgs_cons (pg_name (i := 4) scTable.nd rfl (.inl rfl)) pgs_nil))))
       (pss_cons (ps_set (i := 5) scTable.nd rfl (.inl rfl) (pe_call GT hr1 (by rfl) DT.glob DT.kp DT.bind .nil pass0 (pa_cons (pv 0) (pa_cons (pe_int) pa_nil))))
       (pss_cons (ps_if (pt_cmpR op_lt (pv 5) pe_int (nomark _)) (pss_cons (ps_par (i := 6) (j := 7) rfl scTable.nd rfl rfl (by decide) rfl rfl (pa_cons (pe_op op_add pe_int (pe_call GT hr1 (by rfl) DT.glob DT.kp DT.bind .nil pass0 (pa_cons (pv 0) (pa_cons (pe_int) pa_nil)))) (pa_cons (pe_op op_rep (pe_lst (pa_cons pe_int pa_nil)) (pv 4)) pa_nil)) (by rfl))
       (pss_cons (ps_for PassesOwn.never rfl (pi_range1 (by rfl) G.range (pa_cons (pv 6) pa_nil)) (pg_name (i := 8) scTable.nd rfl (.inl rfl)) (pss_cons (ps_setLc (i := 7) (own := [("_law_one", 14)]) (g := gName 14) (tt := tYes) rfl scTable.nd rfl rfl (sw_true rfl rfl rfl (by decide +kernel)) (pi_list (pv 7)) (blkOk_by (N := NT) (sc := defScope sTable) (by decide +kernel)) (fun _ _ _ _ _ => pg_name (i := 14) scTable.nd rfl (Or.inl rfl)) (fun _ _ _ _ _ => pts_nil) (fun _ _ _ _ _ => pe_op op_mul (pv 3) (pv 14)))
       (pss_one (ps_augS (pv 7) (pe_call GT hr1 (by rfl) DT.glob DT.kp DT.bind .nil pass0 (pa_cons (pv 0) (pa_cons (pv 4) pa_nil))) get_list (pe_op op_sub (pv 3) pe_int) ip_add set_list))))
       (pss_cons (ps_set (i := 9) scTable.nd rfl (.inr rfl) (pe_op op_add pe_int (pe_call GT hr1 (by rfl) DT.glob DT.kp DT.bind .nil pass0 (pa_cons (pv 0) (pa_cons (pe_int) pa_nil)))))
       (pss_one (ps_ret (pe_tup (pa_cons (pv 3) (pa_cons (pe_callTy call_tuple_of (by rfl) G.tuple PyProof.Rows.boot_tuple (pa_cons (pe_lc (own := [("_law_one", 14)]) (g := gName 14) (tt := tYes) rfl scTable.nd (pi_list (pv 7)) (blkOk_by (N := NT) (sc := defScope sTable) (by decide +kernel)) (fun _ _ _ _ _ => pg_name (i := 14) scTable.nd rfl (Or.inl rfl)) (fun _ _ _ _ _ => pts_nil) (fun _ _ _ _ _ => pe_op op_mul (pv 14) (pv 9))) pa_nil)) pa_nil)))))))) pss_nil)
       (pss_cons (ps_if (pt_cmpR op_eq (pv 5) pe_int (nomark _)) (pss_cons (ps_set (i := 7) scTable.nd rfl (.inl rfl) (pe_op op_rep (pe_lst (pa_cons pe_int pa_nil)) (pv 4)))
       (pss_cons (ps_asg (pe_op op_add pe_int (pe_call GT hr1 (by rfl) DT.glob DT.kp DT.bind .nil pass0 (pa_cons (pv 0) (pa_cons (pe_int) pa_nil)))) (pg_sub (pv 7) (pe_call GT hr1 (by rfl) DT.glob DT.kp DT.bind .nil pass0 (pa_cons (pv 0) (pa_cons (pv 4) pa_nil))) set_list))
       (pss_cons (ps_for PassesOwn.never rfl (pi_range1 (by rfl) G.range (pa_cons (pe_call GT hr1 (by rfl) DT.glob DT.kp DT.bind .nil pass0 (pa_cons (pv 0) (pa_cons (pe_int) pa_nil))) pa_nil)) (pg_name (i := 8) scTable.nd rfl (.inl rfl)) (pss_cons (ps_set (i := 10) scTable.nd rfl (.inr rfl) (pe_call GT hr1 (by rfl) DT.glob DT.kp DT.bind .nil pass0 (pa_cons (pv 0) (pa_cons (pv 4) pa_nil))))
       (pss_cons (ps_set (i := 11) scTable.nd rfl (.inl rfl) (pe_callB (cr_sum rfl) (by rfl) G.sum PyProof.Rows.boot_sum (pa_cons (pv 7) pa_nil)))
       (pss_cons (ps_setLc (i := 12) (own := [("_law_k", 15), ("_law_one", 14)]) (g := gTup K 2 (gCons (gName 15) (gCons (gName 14) gNil))) rfl scTable.nd rfl rfl (sw_true rfl rfl rfl (by decide +kernel)) (pi_enum (by rfl) G.enumerate (pa_cons (pv 7) pa_nil)) (blkOk_by (N := NT) (sc := defScope sTable) (by decide +kernel)) (fun _ _ _ _ _ => pg_tup rfl (pgs_cons (pg_name (i := 15) scTable.nd rfl (Or.inl rfl)) (pgs_cons (pg_name (i := 14) scTable.nd rfl (Or.inl rfl)) pgs_nil))) (fun _ _ _ _ _ => pts_one (pt_cmpR op_ne (pv 15) (pv 10) (nomark _))) (fun _ _ _ _ _ => pv 14))
       (pss_one (ps_if (pt_cmpR (op_eqD hr.units) (pe_lc (own := [("_law_one", 14)]) (g := gName 14) rfl scTable.nd (pi_list (pv 12)) (blkOk_by (N := NT) (sc := defScope sTable) (by decide +kernel)) (fun _ _ _ _ _ => pg_name (i := 14) scTable.nd rfl (Or.inl rfl)) (fun _ _ _ _ _ => pts_one (pt_cmpR op_ne (pe_op op_mod (pe_callTy call_int1 (by rfl) G.int PyProof.Rows.boot_int (pa_cons (pv 14) pa_nil)) (pv 3)) pe_int (nomark _))) (fun _ _ _ _ _ => pv 14)) (pe_lst pa_nil) (nomark _)) (pss_cons (ps_set (i := 13) scTable.nd rfl (.inl rfl) (pe_op op_add (pe_ix ix_list (pv 7) (pv 10) (fun _ _ => rfl)) (pe_op op_mul (pe_op op_sub (pv 3) pe_int) (pv 11))))
       (pss_cons (ps_setLc (i := 7) (own := [("_law_one", 14)]) (g := gName 14) (tt := tYes) rfl scTable.nd rfl rfl (sw_true rfl rfl rfl (by decide +kernel)) (pi_list (pv 7)) (blkOk_by (N := NT) (sc := defScope sTable) (by decide +kernel)) (fun _ _ _ _ _ => pg_name (i := 14) scTable.nd rfl (Or.inl rfl)) (fun _ _ _ _ _ => pts_nil) (fun _ _ _ _ _ => pe_op op_fdiv (pv 14) (pv 3)))
       (pss_one (ps_asg (pe_op op_fdiv (pv 13) (pv 3)) (pg_sub (pv 7) (pv 10) set_list))))) (pss_one (ps_setLc (i := 7) (own := [("_law_one", 14)]) (g := gName 14) (tt := tYes) rfl scTable.nd rfl rfl (sw_true rfl rfl rfl (by decide +kernel)) (pi_list (pv 7)) (blkOk_by (N := NT) (sc := defScope sTable) (by decide +kernel)) (fun _ _ _ _ _ => pg_name (i := 14) scTable.nd rfl (Or.inl rfl)) (fun _ _ _ _ _ => pts_nil) (fun _ _ _ _ _ => pe_op op_mul (pv 3) (pv 14))))))))))
       (pss_one (ps_ret (pe_tup (pa_cons (pv 3) (pa_cons (pe_callTy call_tuple_of (by rfl) G.tuple PyProof.Rows.boot_tuple (pa_cons (pv 7) pa_nil)) pa_nil)))))))) pss_nil)
       (pss_cons (ps_setLc (i := 7) (own := [("_law_k", 15)]) (g := gName 15) (tt := tYes) (te := tCall (spTaken K) [] E0 (tCons (tVar 0) (tCons (tVar 2) tNil))) rfl scTable.nd rfl rfl (sw_true rfl rfl rfl (by decide +kernel)) (pi_range1 (by rfl) G.range (pa_cons (pv 4) pa_nil)) (blkOk_by (N := NT) (sc := defScope sTable) (by decide +kernel)) (fun _ _ _ _ _ => pg_name (i := 15) scTable.nd rfl (Or.inl rfl)) (fun _ _ _ _ _ => pts_nil) (fun _ _ _ _ _ => pe_call GT hr1 (by rfl) DT.glob DT.kp DT.bind .nil pass0 (pa_cons (pv 0) (pa_cons (pv 2) pa_nil))))
       (pss_one (ps_ret (pe_tup (pa_cons (pv 3) (pa_cons (pe_ifExp (pt_cmpR op_gt (pe_callB (cr_sum rfl) (by rfl) G.sum PyProof.Rows.boot_sum (pa_cons (pv 7) pa_nil)) pe_int (nomark _)) (pe_callTy call_tuple_of (by rfl) G.tuple PyProof.Rows.boot_tuple (pa_cons (pv 7) pa_nil)) (pe_op op_repU (pe_tup (pa_cons pe_int pa_nil)) (pv 4))) pa_nil))))))))), ?_⟩
    -- factor, players
    refine ⟨_, rfl, by show 7 ≤ sizeLine; decide, fun l0 nl0 => ?_⟩
    refine ⟨r, l0, [2, 2, 2, 3, 3, 4, 9], rfl, upd_same, by decide, by decide, row_new R nl0, fun H1 fa hfa R1 sb1 fr1 => ?_⟩
    have hf : 2 ≤ fa ∧ fa ≤ 9 := by
      simp only [List.mem_cons, List.not_mem_nil, or_false] at hfa
      omega
    refine ⟨_, rfl, _, rfl, r, 4, rfl, by decide, by decide, R1, fun H2 v1 hv1 R2 sb2 fr2 => ⟨_, _, rfl, rfl, by show 2 ≤ sizeLine; decide, fun p np => ?_⟩⟩
    obtain ⟨n, hn, hn1, hn4⟩ : ∃ n : Nat, (1 : Int) + (v1 : Int) = (n : Int) ∧ 1 ≤ n ∧ n ≤ 4 := ⟨1 + v1, by omega, by omega, by omega⟩
    refine ⟨p, _, rfl, SqT.of upd_same, rfl, _, _, rfl, .int (n : Int), [], congrArg (fun z => [V.int z]) hn, rfl, ?_⟩
    have sbA : SameBut r H (upd H2 p (.tup [.int fa, .int (1 + (v1 : Int))])) := sb_new (((sb_new (SameBut.refl r H) nl0).trans sb1).trans sb2) np
    have RA : Row K (upd H2 p (.tup [.int fa, .int (1 + (v1 : Int))])) r := row_new R2 np
    revert sbA RA
    generalize upd H2 p (.tup [.int fa, .int (1 + (v1 : Int))]) = HA
    intro sbA RA
    -- way
    refine ⟨_, rfl, r, 5, rfl, by decide, by decide, RA, fun HB way hway RB sbB frB => ?_⟩
    have sbB' := sbA.trans sbB
    -- what is handed back
    have back : ∀ (H1 : Hp) (c : Addr) (ns : List Int), SameBut r H H1 → Row K H1 r → H1 c = some (.tup (ns.map V.int)) → ns.length = n → (∀ x ∈ ns, 0 ≤ x ∧ x ≤ 1000000) → 0 < ns.sum →
        ∀ t, H1 t = none → Q (.ref t) (upd H1 t (.tup [.int fa, .ref c])) := by
      intro H1 c ns sb1 R1 hc hl hlow hpos t nt
      exact q _ t fa c ns ⟨upd_same, same_new nt _ _ hc, hf, by omega, hlow, hpos⟩ (row_new R1 nt) (sb_new sb1 nt)
    -- zeros
    have zeros : ∀ (H1 : Hp) (z D : Addr), SameBut r H H1 → Row K H1 r → H1 z = none → (upd H1 z (.lst [.int 0])) D = none →
        Cns K H (upd (upd H1 z (.lst [.int 0])) D (.lst (List.replicate n (V.int 0)))) r D (List.replicate n 0) n := by
      intro H1 z D sb1 R1 nz nD
      have R2 := row_new (o := .lst [V.int 0]) R1 nz
      have sb2 := sb_new (o := .lst [V.int 0]) sb1 nz
      exact ⟨sb_new sb2 nD, row_new R2 nD, by rw [upd_same, rep_map], by simp, fun x hx => by rw [low_replicate hx]; exact Int.le_refl _, fresh_lst sb2 R2 nD⟩
    refine ⟨_, rfl, _, _, rfl, rfl, _, rfl, ?_⟩
    refine ifD (fun hw => ?_) (fun hw => ?_)
    · -- long lasting coins
      refine ⟨_, rfl, r, 5, rfl, by decide, by decide, RB, fun HC v2 hv2 RC sbC frC => ⟨_, _, rfl, rfl, by show 1 ≤ sizeLine; decide, fun z nz => ?_⟩⟩
      have sbC' := sbB'.trans sbC
      obtain ⟨sz, hsz, hsz1, hsz5⟩ : ∃ sz : Nat, (1 : Int) + (v2 : Int) = (sz : Int) ∧ 1 ≤ sz ∧ sz ≤ 5 := ⟨1 + v2, by omega, by omega, by omega⟩
      refine ⟨_, rfl, z, (n : Int), _, rfl, rfl, upd_same, by omega, by omega, ?_, fun D nD => ?_⟩
      · rw [Int.toNat_natCast]
        exact line_small (by show 1 * n ≤ _; omega)
      rw [Int.toNat_natCast, flat_rep]
      have C0 := zeros HC z D sbC' RC nz nD
      refine ⟨.int (sz : Int), .ref D, congrArg (fun z => [V.int z, V.ref D]) hsz, ?_⟩
      refine ⟨_, rfl, (sz : Int), rfl, by omega, by omega, ?_⟩
      rw [Int.toNat_natCast]
      refine for_range (lo := 0) (n := sz) (fun i σ H1 => ∃ y8 y9 y10 y11 y12 y13 y14 y15 l ns, σ = [some (.ref r), some (.int 4), some (.int (top : Int)), some (.int fa), some (.int (n : Int)), some (.int (way : Int)), some (.int (sz : Int)), some (.ref l), y8, y9, y10, y11, y12, y13, y14, y15] ∧
          Cns K H H1 r l ns n ∧ ns.sum + 1 = fa ^ i) ⟨_, _, _, _, _, _, _, _, D, _, rfl, C0, by rw [zeros_sum, Int.pow_zero]; rfl⟩ (fun i σ H1 hi h => ?_) (fun σ H1 h => ?_)
      · obtain ⟨y8, y9, y10, y11, y12, y13, y14, y15, l, ns, rfl, C, hsum⟩ := h
        -- coins = [factor * one for one in coins]
        refine ⟨.ref l, rfl, l, rfl, ⟨_, SqL.of C.at_⟩, fun D nD => ?_⟩
        have nD0 := fresh_lst C.same C.row nD
        refine lc_list (xs := ns.map V.int) (fun j H2 => SameBut r H H2 ∧ Row K H2 r ∧ H2 l = some (.lst (ns.map V.int)) ∧ H2 D = some (.lst ((ns.take j).map fun x => .int (fa * x))))
          ⟨sb_new C.same nD, row_new C.row nD, same_new nD _ _ C.at_, upd_same⟩ (fun j H2 _ h => SqL.of h.2.2.1) (fun j x H2 hx h => ?_) (fun H2 h => ?_)
        · obtain ⟨sb2, R2, hl2, hD2⟩ := h
          obtain ⟨m, em, rfl⟩ := map_at hx
          have hlD : l ≠ D := ne_of_none C.at_ nD
          refine ⟨rfl, _, rfl, _, rfl, fa, m, rfl, rfl, .inl ⟨by omega, by omega⟩, _, hD2, ?_, sb2.put nD0, R2.lst hD2 (C.row.ne_new nD), by rw [upd_ne hlD]; exact hl2, ?_⟩
          · have := C.len
            rw [List.length_map, List.length_take]
            exact line_lt (by omega)
          · rw [upd_same, take_map em]
        · obtain ⟨sb2, R2, hl2, hD2⟩ := h
          rw [List.length_map, List.take_length] at hD2
          have eG : (ns.map fun x => V.int (fa * x)) = (ns.map fun x => fa * x).map V.int := by rw [List.map_map]; rfl
          rw [eG] at hD2
          -- coins[taken] += factor - 1
          refine ⟨_, rfl, _, rfl, _, rfl, r, n, rfl, hn1, by omega, R2, fun H3 v hv R3 sb3 fr3 => ?_⟩
          have hDr : D ≠ r := C.row.ne_new nD
          have hD3 := sb3 _ _ hDr hD2
          have hvl : v < (ns.map fun x => fa * x).length := by rw [List.length_map, C.len]; exact hv
          refine ⟨D, _, v, .int ((ns.map fun x => fa * x).getD v 0), rfl, rfl, SqL.of hD3, by rw [List.getElem?_map, getD_of hvl]; rfl, _, rfl, _, _, rfl, rfl, _, _, rfl, rfl, D, _, v, v, rfl, rfl, hD3, ?_, ?_⟩
          · rw [List.length_map]
            unfold ixN
            rw [if_pos (by omega), if_pos (by omega)]
            rfl
          · refine ⟨_, _, _, _, _, _, _, _, D, (ns.map fun x => fa * x).set v ((ns.map fun x => fa * x).getD v 0 + (fa - 1)), rfl, ⟨(sb2.trans sb3).put nD0, R3.lst hD3 hDr, ?_, ?_, grow_low (by omega) C.low, nD0⟩, ?_⟩
            · rw [upd_same, List.map_set]
            · rw [List.length_set, List.length_map]; exact C.len
            · rw [grow_sum (by rw [C.len]; exact hv), Int.pow_succ, ← hsum, Int.add_mul, Int.mul_comm fa]
              omega
      · obtain ⟨y8, y9, y10, y11, y12, y13, y14, y15, l, ns, rfl, C, hsum⟩ := h
        -- many
        refine ⟨_, rfl, r, 3, rfl, by decide, by decide, C.row, fun H3 v hv R3 sb3 fr3 => ⟨_, _, rfl, rfl, ?_⟩⟩
        have hl3 := sb3 _ _ (C.row.ne_ints C.at_) C.at_
        have sbH := C.same.trans sb3
        refine ⟨_, rfl, .ref l, rfl, l, rfl, ⟨_, SqL.of hl3⟩, fun D nD => ?_⟩
        have nD0 := fresh_lst sbH R3 nD
        refine lc_list (xs := ns.map V.int) (fun j H2 => SameBut r H H2 ∧ Row K H2 r ∧ H2 l = some (.lst (ns.map V.int)) ∧ H2 D = some (.lst ((ns.take j).map fun x => .int (x * (1 + (v : Int))))))
          ⟨sb_new sbH nD, row_new R3 nD, same_new nD _ _ hl3, upd_same⟩ (fun j H2 _ h => SqL.of h.2.2.1) (fun j x H2 hx h => ?_) (fun H2 h => ?_)
        · obtain ⟨sb2, R2, hl2, hD2⟩ := h
          obtain ⟨m, em, rfl⟩ := map_at hx
          have hlD : l ≠ D := ne_of_none hl3 nD
          refine ⟨rfl, _, rfl, _, rfl, m, 1 + (v : Int), rfl, rfl, .inr ⟨by omega, by omega⟩, _, hD2, ?_, sb2.put nD0, R2.lst hD2 (R3.ne_new nD), by rw [upd_ne hlD]; exact hl2, ?_⟩
          · have := C.len
            rw [List.length_map, List.length_take]
            exact line_lt (by omega)
          · rw [upd_same, take_map em]
        · obtain ⟨sb2, R2, hl2, hD2⟩ := h
          rw [List.length_map, List.take_length] at hD2
          have eG : (ns.map fun x => V.int (x * (1 + (v : Int)))) = (ns.map fun x => (1 + (v : Int)) * x).map V.int := by
            rw [List.map_map]
            exact List.map_congr_left fun x _ => congrArg V.int (Int.mul_comm _ _)
          rw [eG] at hD2
          refine ⟨D, _, rfl, .inl ⟨SqL.of hD2, fun c nc => ⟨by show 2 ≤ sizeLine; decide, fun t nt => ?_⟩⟩⟩
          have hp := pow_le9 hf.1 hf.2 sz
          have hp5 : (9 : Int) ^ sz ≤ 9 ^ 5 := by
            have h5 : sz = 1 ∨ sz = 2 ∨ sz = 3 ∨ sz = 4 ∨ sz = 5 := by omega
            rcases h5 with e | e | e | e | e <;> (subst e; decide)
          have hp2 : 2 ≤ fa ^ sz := by
            obtain ⟨k, rfl⟩ : ∃ k, sz = k + 1 := ⟨sz - 1, by omega⟩
            have h1 := (pow_le9 hf.1 hf.2 k).1
            rw [Int.pow_succ]
            have : 1 * 2 ≤ fa ^ k * fa := Int.mul_le_mul h1 hf.1 (by omega) (by omega)
            omega
          refine back _ c ((ns.map fun x => (1 + (v : Int)) * x)) (sb_new sb2 nc) (row_new R2 nc) upd_same (by rw [List.length_map]; exact C.len) (fun x hx => ?_) ?_ t nt
          · obtain ⟨y, hy, e⟩ := List.mem_map.mp hx
            have h1 := C.low y hy
            have h2 := le_sum C.low hy
            subst e
            have h3 : 0 ≤ (1 + (v : Int)) * y := Int.mul_nonneg (by omega) h1
            have h4 : (1 + (v : Int)) * y ≤ 3 * y := Int.mul_le_mul_of_nonneg_right (by omega) h1
            omega
          · rw [sum_scale]
            have h3 : 0 < (1 + (v : Int)) * ns.sum := Int.mul_pos (by omega) (by omega)
            exact h3
    · refine ⟨_, rfl, rfl, _, rfl, ?_⟩
      refine ifD (fun hw2 => ?_) (fun hw2 => ?_)
      · -- a round or two, forwards or backwards
        refine ⟨by show 1 ≤ sizeLine; decide, fun z nz => ⟨_, rfl, z, (n : Int), _, rfl, rfl, upd_same, by omega, by omega, ?_, fun D nD => ?_⟩⟩
        · rw [Int.toNat_natCast]
          exact line_small (by show 1 * n ≤ _; omega)
        rw [Int.toNat_natCast, flat_rep]
        have C0 := zeros HB z D sbB' RB nz nD
        revert C0
        generalize upd (upd HB z (.lst [.int 0])) D (.lst (List.replicate n (V.int 0))) = HC
        intro C0
        -- coins[taken] = 1 + taken
        refine ⟨_, rfl, r, 9, rfl, by decide, by decide, C0.row, fun H2 v9 hv9 R2 sb2 fr2 => ⟨_, _, rfl, rfl, _, rfl, _, rfl, _, rfl, r, n, rfl, hn1, by omega, R2, fun H3 v hv R3 sb3 fr3 => ?_⟩⟩
        have hDr : D ≠ r := C0.row.ne_ints C0.at_
        have hD3 := sb3 _ _ hDr (sb2 _ _ hDr C0.at_)
        refine ⟨D, _, v, v, rfl, rfl, hD3, ?_, ?_⟩
        · rw [List.length_map, List.length_replicate]
          unfold ixN
          rw [if_pos (by omega), if_pos (by omega)]
          rfl
        have C1 : Cns K H (upd H3 D (.lst (((List.replicate n (0 : Int)).map V.int).set v (.int (1 + (v9 : Int)))))) r D ((List.replicate n (0 : Int)).set v (1 + (v9 : Int))) n := by
          refine ⟨((C0.same.trans sb2).trans sb3).put C0.free, R3.lst hD3 hDr, by rw [upd_same, List.map_set], by simp, fun x hx => ?_, C0.free⟩
          rcases mem_set' hx with hx | hx
          · rw [low_replicate hx]; exact Int.le_refl _
          · omega
        have S1 : ((List.replicate n (0 : Int)).set v (1 + (v9 : Int))).sum = 1 + (v9 : Int) := by
          rw [sum_set' (by simpa using hv), zeros_sum, List.getD_eq_getElem?_getD, List.getElem?_replicate, if_pos hv]
          simp
        revert C1
        generalize upd H3 D (.lst (((List.replicate n (0 : Int)).map V.int).set v (.int (1 + (v9 : Int))))) = HD
        intro C1
        -- for turn in range(taken)
        refine ⟨_, rfl, r, 5, rfl, by decide, by decide, C1.row, fun H4 v5 hv5 R4 sb4 fr4 => ⟨(v5 : Int), rfl, by omega, by omega, ?_⟩⟩
        rw [Int.toNat_natCast]
        have C2 : Cns K H H4 r D ((List.replicate n (0 : Int)).set v (1 + (v9 : Int))) n := ⟨C1.same.trans sb4, R4, sb4 _ _ hDr C1.at_, C1.len, C1.low, C1.free⟩
        refine for_range (lo := 0) (n := v5) (fun i σ H1 => ∃ y6 y8 y9 y10 y11 y12 y13 y14 y15 l ns, σ = [some (.ref r), some (.int 4), some (.int (top : Int)), some (.int fa), some (.int (n : Int)), some (.int (way : Int)), y6, some (.ref l), y8, y9, y10, y11, y12, y13, y14, y15] ∧
            Cns K H H1 r l ns n ∧ 1 ≤ ns.sum ∧ ns.sum ≤ 9 * 9 ^ i) ⟨_, _, _, _, _, _, _, _, _, D, _, rfl, C2, by omega, by rw [S1, Int.pow_zero]; omega⟩ (fun i σ H1 hi h => ?_) (fun σ H1 h => ?_)
        · obtain ⟨y6, y8, y9, y10, y11, y12, y13, y14, y15, l, ns, rfl, C, hs1, hs2⟩ := h
          have hlr : l ≠ r := C.row.ne_ints C.at_
          -- payer, total
          refine ⟨_, rfl, _, rfl, r, n, rfl, hn1, by omega, C.row, fun H2 p hp R2 sb2 fr2 => ?_⟩
          have hl2 := sb2 _ _ hlr C.at_
          have sbE := C.same.trans sb2
          refine ⟨_, rfl, l, ns, rfl, SqL.of hl2, ?_⟩
          -- others
          refine ⟨_, rfl, l, _, rfl, SqL.of hl2, fun D nD => ?_⟩
          have nD0 := fresh_lst sbE R2 nD
          have hDr : D ≠ r := R2.ne_new nD
          have hlD : l ≠ D := ne_of_none hl2 nD
          refine lc_it (walk_enum (xs := ns.map V.int)) (fun j H3 => SameBut r H H3 ∧ Row K H3 r ∧ H3 l = some (.lst (ns.map V.int)) ∧ H3 D = some (.lst ((oth ns p j).map V.int)))
            ⟨sb_new sbE nD, row_new R2 nD, same_new nD _ _ hl2, upd_same⟩ (fun j H3 _ h => SqL.of h.2.2.1) (fun j x H3 H3' hj h y => ?_) (fun H3 h => ?_)
          · obtain ⟨sb3, R3, hl3, hD3⟩ := h
            obtain ⟨T, x1, x2, rfl, nT, rfl, e1, e2⟩ := y
            obtain ⟨m, em, rfl⟩ := map_at e2
            have ex1 : x1 = .int (j : Int) := (Option.some.inj e1).symm
            subst ex1
            have hm : m = ns.getD j 0 := by rw [List.getD_eq_getElem?_getD, em]; rfl
            have hjn : j < ns.length := (List.getElem?_eq_some_iff.mp em).1
            have hDT : D ≠ T := ne_of_none hD3 nT
            have hlT : l ≠ T := ne_of_none hl3 nT
            have hD4 : (upd H3 T (.tup [.int (j : Int), .int m])) D = some (.lst ((oth ns p j).map V.int)) := by rw [upd_ne hDT]; exact hD3
            have hl4 : (upd H3 T (.tup [.int (j : Int), .int m])) l = some (.lst (ns.map V.int)) := by rw [upd_ne hlT]; exact hl3
            have sb5 := sb_new (o := .tup [.int (j : Int), .int m]) sb3 nT
            have R5 := row_new (o := .tup [.int (j : Int), .int m]) R3 nT
            refine ⟨T, _, rfl, .inl (.inl upd_same), rfl, .int (j : Int), [.int m], rfl, .int m, [], rfl, rfl, rfl, _, rfl, _, rfl, rfl, _, rfl, ?_⟩
            refine ifND (fun hne => ?_) (fun he => ?_)
            · have hjp : j ≠ p := fun z => hne (by rw [z])
              refine ⟨_, rfl, _, hD4, ?_, sb5.put nD0, R5.lst hD4 hDr, by rw [upd_ne hlD]; exact hl4, ?_⟩
              · have := oth_length ns p j
                have := C.len
                rw [List.length_map]
                exact line_lt (by omega)
              · rw [upd_same, oth_succ, if_neg hjp, List.map_append, hm]
                rfl
            · have hjp : j = p := by injection he with he; omega
              refine ⟨sb5, R5, hl4, ?_⟩
              rw [oth_succ, if_pos hjp, List.append_nil]
              exact hD4
          · obtain ⟨sb3, R3, hl3, hD3⟩ := h
            rw [List.length_map] at hD3
            -- is there one that does not divide
            refine ⟨.ref D, rfl, D, rfl, ⟨_, SqL.of hD3⟩, fun D2 nD2 => ?_⟩
            have nD20 := fresh_lst sb3 R3 nD2
            have hD2r : D2 ≠ r := R3.ne_new nD2
            have hlD2 : l ≠ D2 := ne_of_none hl3 nD2
            have hDD2 : D ≠ D2 := ne_of_none hD3 nD2
            refine lc_list (xs := (oth ns p ns.length).map V.int) (fun j H4 => SameBut r H H4 ∧ Row K H4 r ∧ H4 l = some (.lst (ns.map V.int)) ∧ H4 D = some (.lst ((oth ns p ns.length).map V.int)) ∧ H4 D2 = some (.lst ((rests fa ((oth ns p ns.length).take j)).map V.int)))
              ⟨sb_new sb3 nD2, row_new R3 nD2, same_new nD2 _ _ hl3, same_new nD2 _ _ hD3, upd_same⟩ (fun j H4 _ h => SqL.of h.2.2.2.1) (fun j x H4 hx h => ?_) (fun H4 h => ?_)
            · obtain ⟨sb4, R4, hl4, hD4, hE4⟩ := h
              obtain ⟨m, em, rfl⟩ := map_at hx
              refine ⟨rfl, _, rfl, .inl ⟨m, rfl, _, rfl, m, fa, rfl, rfl, by omega, rfl, _, rfl, ?_⟩⟩
              refine ifND (fun hne => ?_) (fun he => ?_)
              · have hz : ¬ m % fa = 0 := fun z => hne (congrArg V.int z)
                refine ⟨_, rfl, _, hE4, ?_, sb4.put nD20, R4.lst hE4 hD2r, by rw [upd_ne hlD2]; exact hl4, by rw [upd_ne hDD2]; exact hD4, ?_⟩
                · have h1 := List.length_filter_le (fun x : Int => !decide (x % fa = 0)) ((oth ns p ns.length).take j)
                  have h2 := oth_length ns p ns.length
                  have h3 := C.len
                  rw [List.length_map]
                  refine line_lt (Nat.le_trans h1 ?_)
                  rw [List.length_take]
                  omega
                · rw [upd_same, rests_take em, if_neg hz, List.map_append]
                  rfl
              · have hz : m % fa = 0 := by injection he
                refine ⟨sb4, R4, hl4, hD4, ?_⟩
                rw [rests_take em, if_pos hz, List.append_nil]
                exact hE4
            · obtain ⟨sb4, R4, hl4, hD4, hE4⟩ := h
              rw [List.length_map, List.take_length] at hE4
              refine ⟨Nat.zero_le _, fun l3 nl3 => ?_⟩
              have hE5 : D2 ≠ l3 := ne_of_none hE4 nl3
              refine ⟨.list ((rests fa (oth ns p ns.length)).map .int), .list [], .lst (SqL.of (by rw [upd_ne hE5]; exact hE4)) (dpInts _), .lst (SqL.of upd_same) .nil, PySem.W.shaped_ints _, rfl, _, rfl, ?_⟩
              rw [eqv_empty]
              have sb5 := sb_new (o := .lst []) sb4 nl3
              have R5 := row_new (o := .lst []) R4 nl3
              have hl5 := same_new (o := .lst []) nl3 _ _ hl4
              revert sb5 R5 hl5
              generalize upd H4 l3 (.lst []) = H5
              intro sb5 R5 hl5
              refine ifB (fun hno => ?_) (fun hyes => ?_)
              · -- the round backwards
                have hdiv := rests_none hno
                have hpl : p < ns.length := by rw [C.len]; exact hp
                refine ⟨_, rfl, _, rfl, l, _, p, .int (ns.getD p 0), rfl, rfl, SqL.of hl5, atI_nat (by rw [List.getElem?_map, getD_of hpl]; rfl), _, rfl, _, _, rfl, rfl, _, rfl, fa - 1, ns.sum, rfl, rfl, .inl ⟨by omega, by omega⟩, _, _, rfl, rfl, ?_⟩
                refine ⟨.ref l, rfl, l, rfl, ⟨_, SqL.of hl5⟩, fun D3 nD3 => ?_⟩
                have nD30 := fresh_lst sb5 R5 nD3
                have hD3r : D3 ≠ r := R5.ne_new nD3
                have hlD3 : l ≠ D3 := ne_of_none hl5 nD3
                refine lc_list (xs := ns.map V.int) (fun j H2 => SameBut r H H2 ∧ Row K H2 r ∧ H2 l = some (.lst (ns.map V.int)) ∧ H2 D3 = some (.lst ((ns.take j).map fun x => .int (x / fa))))
                  ⟨sb_new sb5 nD3, row_new R5 nD3, same_new nD3 _ _ hl5, upd_same⟩ (fun j H2 _ h => SqL.of h.2.2.1) (fun j x H2 hx h => ?_) (fun H2 h => ?_)
                · obtain ⟨sb6, R6, hl6, hD6⟩ := h
                  obtain ⟨m, em, rfl⟩ := map_at hx
                  refine ⟨rfl, _, rfl, _, rfl, m, fa, rfl, rfl, ⟨by omega, by omega⟩, _, hD6, ?_, sb6.put nD30, R6.lst hD6 hD3r, by rw [upd_ne hlD3]; exact hl6, ?_⟩
                  · have := C.len
                    rw [List.length_map, List.length_take]
                    exact line_lt (by omega)
                  · rw [upd_same, take_map em]
                · obtain ⟨sb6, R6, hl6, hD6⟩ := h
                  rw [List.length_map, List.take_length] at hD6
                  have eG : (ns.map fun x => V.int (x / fa)) = (ns.map fun x => x / fa).map V.int := by rw [List.map_map]; rfl
                  rw [eG] at hD6
                  refine ⟨_, rfl, _, rfl, _, fa, rfl, rfl, ⟨by omega, by omega⟩, _, rfl, _, rfl, D3, _, p, p, rfl, rfl, hD6, ?_, ?_⟩
                  · rw [List.length_map, List.length_map]
                    unfold ixN
                    rw [if_pos (by omega), if_pos (by omega)]
                    rfl
                  · refine ⟨_, _, _, _, _, _, _, _, _, D3, (ns.map fun x => x / fa).set p ((ns.getD p 0 + (fa - 1) * ns.sum) / fa), rfl, ⟨sb6.put nD30, R6.lst hD6 hD3r, by rw [upd_same, List.map_set], by simp [C.len], back_low (by omega) C.low, nD30⟩, ?_, ?_⟩
                    · rw [back_sum (by omega) hpl hdiv]; exact hs1
                    · rw [back_sum (by omega) hpl hdiv, Int.pow_succ]
                      have := (pow_le9 (f := 9) (by decide) (by decide) i).1
                      omega
              · -- the round with debts let
                refine ⟨.ref l, rfl, l, rfl, ⟨_, SqL.of hl5⟩, fun D3 nD3 => ?_⟩
                have nD30 := fresh_lst sb5 R5 nD3
                have hD3r : D3 ≠ r := R5.ne_new nD3
                have hlD3 : l ≠ D3 := ne_of_none hl5 nD3
                refine lc_list (xs := ns.map V.int) (fun j H2 => SameBut r H H2 ∧ Row K H2 r ∧ H2 l = some (.lst (ns.map V.int)) ∧ H2 D3 = some (.lst ((ns.take j).map fun x => .int (fa * x))))
                  ⟨sb_new sb5 nD3, row_new R5 nD3, same_new nD3 _ _ hl5, upd_same⟩ (fun j H2 _ h => SqL.of h.2.2.1) (fun j x H2 hx h => ?_) (fun H2 h => ?_)
                · obtain ⟨sb6, R6, hl6, hD6⟩ := h
                  obtain ⟨m, em, rfl⟩ := map_at hx
                  refine ⟨rfl, _, rfl, _, rfl, fa, m, rfl, rfl, .inl ⟨by omega, by omega⟩, _, hD6, ?_, sb6.put nD30, R6.lst hD6 hD3r, by rw [upd_ne hlD3]; exact hl6, ?_⟩
                  · have := C.len
                    rw [List.length_map, List.length_take]
                    exact line_lt (by omega)
                  · rw [upd_same, take_map em]
                · obtain ⟨sb6, R6, hl6, hD6⟩ := h
                  rw [List.length_map, List.take_length] at hD6
                  have eG : (ns.map fun x => V.int (fa * x)) = (ns.map fun x => fa * x).map V.int := by rw [List.map_map]; rfl
                  rw [eG] at hD6
                  refine ⟨_, _, _, _, _, _, _, _, _, D3, ns.map fun x => fa * x, rfl, ⟨sb6, R6, hD6, by rw [List.length_map]; exact C.len, scale_low (by omega) C.low, nD30⟩, ?_, ?_⟩
                  · rw [sum_scale]
                    have : 1 * 1 ≤ fa * ns.sum := Int.mul_le_mul (by omega) hs1 (by omega) (by omega)
                    omega
                  · rw [sum_scale, Int.pow_succ]
                    have h1 : fa * ns.sum ≤ 9 * ns.sum := Int.mul_le_mul_of_nonneg_right hf.2 (by omega)
                    omega
        · obtain ⟨y6, y8, y9, y10, y11, y12, y13, y14, y15, l, ns, rfl, C, hs1, hs2⟩ := h
          have hb : ns.sum ≤ 59049 := by
            have h5 : v5 = 0 ∨ v5 = 1 ∨ v5 = 2 ∨ v5 = 3 ∨ v5 = 4 := by omega
            rcases h5 with e | e | e | e | e <;> (subst e; omega)
          refine ⟨_, rfl, _, rfl, l, _, rfl, .inl ⟨SqL.of C.at_, fun c nc => ⟨by show 2 ≤ sizeLine; decide, fun t nt => ?_⟩⟩⟩
          exact back _ c ns (sb_new C.same nc) (row_new C.row nc) upd_same C.len (fun x hx => ⟨C.low x hx, by have := le_sum C.low hx; omega⟩) (by omega) t nt
      · -- coins as drawn
        refine ⟨_, rfl, (n : Int), rfl, by omega, by omega, fun D nD => ?_⟩
        rw [Int.toNat_natCast]
        have nD0 := fresh_lst sbB' RB nD
        have hDr : D ≠ r := RB.ne_new nD
        refine lc_range (lo := 0) (n := n) (fun j H1 => SameBut r H H1 ∧ Row K H1 r ∧ ∃ ns : List Int, H1 D = some (.lst (ns.map V.int)) ∧ ns.length = j ∧ ∀ x ∈ ns, 0 ≤ x ∧ x < (top : Int))
          ⟨sb_new sbB' nD, row_new RB nD, [], upd_same, rfl, fun x hx => nomatch hx⟩ (fun j H1 hj h => ?_) (fun H1 h => ?_)
        · obtain ⟨sb1, R1, ns, hD1, hlen, hlow⟩ := h
          refine ⟨rfl, _, rfl, _, rfl, r, top, rfl, ht1, ht2, R1, fun H2 v hv R2 sb2 fr2 => ?_⟩
          have hD2 := sb2 _ _ hDr hD1
          refine ⟨_, hD2, by rw [List.length_map]; exact line_lt (by omega), (sb1.trans sb2).put nD0, R2.lst hD2 hDr, ns ++ [(v : Int)], by rw [upd_same, List.map_append]; rfl, by simp [hlen], fun x hx => ?_⟩
          rcases List.mem_append.mp hx with hx | hx
          · exact hlow x hx
          · have e : x = (v : Int) := by simpa using hx
            omega
        · obtain ⟨sb1, R1, ns, hD1, hlen, hlow⟩ := h
          have hlow0 : ∀ x ∈ ns, 0 ≤ x := fun x hx => (hlow x hx).1
          refine ⟨_, rfl, _, rfl, D, ns, rfl, SqL.of hD1, _, _, rfl, rfl, _, rfl, ?_⟩
          refine ifD (fun hpos => ?_) (fun hpos => ?_)
          · refine ⟨_, rfl, D, _, rfl, .inl ⟨SqL.of hD1, fun c nc => ⟨by show 2 ≤ sizeLine; decide, fun t nt => ?_⟩⟩⟩
            exact back _ c ns (sb_new sb1 nc) (row_new R1 nc) upd_same hlen (fun x hx => ⟨hlow0 x hx, by have := (hlow x hx).2; omega⟩) hpos t nt
          · refine ⟨by show 1 ≤ sizeLine; decide, fun u nu => ⟨_, rfl, u, (n : Int), .int 1, rfl, rfl, SqT.of upd_same, by omega, by omega, fun h1 => ⟨by show 2 ≤ sizeLine; decide, fun t nt => ?_⟩, fun h2 c nc => ⟨by show 2 ≤ sizeLine; decide, fun t nt => ?_⟩⟩⟩
            · have hn' : n = 1 := by omega
              refine back _ u [1] (sb_new sb1 nu) (row_new R1 nu) upd_same (by rw [hn']; rfl) (fun x hx => ?_) (by decide) t nt
              have e : x = 1 := by simpa using hx
              omega
            · refine back _ c (List.replicate n 1) (sb_new (sb_new sb1 nu) nc) (row_new (row_new R1 nu) nc) ?_ (by simp) (fun x hx => ?_) (by rw [ones_sum]; omega) t nt
              · rw [upd_same, Int.toNat_natCast, flat_rep, rep_map]
              · have e := (List.mem_replicate.mp hx).2
                omega
end
end Dp

set_option Elab.async false
set_option linter.all false
set_option maxRecDepth 100000
set_option maxHeartbeats 8000000
/-! The law. -/
namespace Dp
open PySem PySem.Spec PyProof.Rows L2
abbrev NL : List Str := ["_law_script", "_law_row", "_law_table_here", "_law_factor", "_law_coins", "_law_bank", "_law_many", "_law_due", "_law_ends", "_law_word", "_law_along_here", "_law_good", "_law_turn", "_law_numbers", "_law_size", "_law_far", "_law_own", "_law_one"]
theorem Tab.but {H H' : Hp} {t : Addr} {f : Int} {c r : Addr} {ns : List Int} {K : PySem.W.Frag} (T : Tab H t f c ns) (R : Row K H r) (s : SameBut r H H') : Tab H' t f c ns := by
  obtain ⟨scr, ms, a, b, z, R⟩ := R
  exact ⟨s _ _ (ne_of T.at_ R.at_ (fun z => nomatch z)) T.at_, s _ _ (ne_of T.coins R.at_ (fun z => nomatch z)) T.coins, T.fac, T.len, T.low, T.pos⟩
theorem Tab.ok {H : Hp} {t : Addr} {f : Int} {c : Addr} {ns : List Int} (T : Tab H t f c ns) (b : Nat) : ok b ns = true := by
  rw [ok_iff]
  intro k hk
  refine .inr ?_
  rw [List.getD_eq_getElem?_getD, List.getElem?_eq_getElem hk]
  exact (T.low _ (List.getElem_mem hk)).1
/-- what stands while the law looks at all words: ws are those found to be let -/
structure LS (K : PySem.W.Frag) (H : Hp) (r t : Addr) (f : Int) (c : Addr) (ns : List Int) (aw d e : Addr) (xs : List V) (m b : Nat) (ws : List (List Int)) : Prop where
  tab : Tab H t f c ns
  row : Row K H r
  all : H aw = some (.lst xs)
  allW : Ws H xs (allw ns.length m)
  due : ∃ ds, H d = some (.lst ds) ∧ Ws H ds ws
  ends : H e = some (.lst ((ws.map fun w => (fin f ns w).getD b 0).map V.int))
theorem LS.same {K : PySem.W.Frag} {H H' : Hp} {r t : Addr} {f : Int} {c : Addr} {ns : List Int} {aw d e : Addr} {xs : List V} {m b : Nat} {ws : List (List Int)} (L : LS K H r t f c ns aw d e xs m b ws) (s : Same H H') : LS K H' r t f c ns aw d e xs m b ws := by
  obtain ⟨ds, h1, h2⟩ := L.due
  exact ⟨L.tab.same s, L.row.same s, s _ _ L.all, ws_keep L.allW (.of s), ⟨ds, s _ _ h1, ws_keep h2 (.of s)⟩, s _ _ L.ends⟩
theorem LS.add {K : PySem.W.Frag} {H : Hp} {r t : Addr} {f : Int} {c : Addr} {ns : List Int} {aw d e : Addr} {xs : List V} {m b : Nat} {ws : List (List Int)} (L : LS K H r t f c ns aw d e xs m b ws) {ds : List V} (hd : H d = some (.lst ds)) (hD : Ws H ds ws)
    (hde : d ≠ e) (hdr : d ≠ r) (her : e ≠ r) (hawd : aw ≠ d) (hawe : aw ≠ e) {wa : Addr} {wd : List Int} (hwa : H wa = some (.tup (wd.map V.int))) :
    LS K (upd (upd H d (.lst (ds ++ [.ref wa]))) e (.lst (((ws.map fun w => (fin f ns w).getD b 0).map V.int) ++ [.int ((fin f ns wd).getD b 0)]))) r t f c ns aw d e xs m b (ws ++ [wd]) := by
  have he1 : (upd H d (.lst (ds ++ [.ref wa]))) e = some (.lst ((ws.map fun w => (fin f ns w).getD b 0).map V.int)) := by rw [upd_ne (Ne.symm hde)]; exact L.ends
  have tk : TupKeep H (upd (upd H d (.lst (ds ++ [.ref wa]))) e (.lst (((ws.map fun w => (fin f ns w).getD b 0).map V.int) ++ [.int ((fin f ns wd).getD b 0)]))) := (TupKeep.lst hd).trans (TupKeep.lst he1)
  refine ⟨⟨tk _ _ L.tab.at_, tk _ _ L.tab.coins, L.tab.fac, L.tab.len, L.tab.low, L.tab.pos⟩, (L.row.lst hd hdr).lst he1 her, by rw [upd_ne hawe, upd_ne hawd]; exact L.all, ws_keep L.allW tk, ⟨ds ++ [.ref wa], by rw [upd_ne hde, upd_same], Paired.snoc (ws_keep hD tk) ⟨wa, rfl, tk _ _ hwa⟩⟩, ?_⟩
  rw [upd_same, List.map_append, List.map_append]
  rfl
theorem filt_take {p : Int → Bool} {xs : List Int} {i : Nat} {x : Int} (h : xs[i]? = some x) : (xs.take (i + 1)).filter p = (xs.take i).filter p ++ if p x = true then [x] else [] := by
  rw [List.take_add_one, h, List.filter_append]
  congr 1
  by_cases z : p x = true
  · rw [if_pos z]
    exact List.filter_cons_of_pos (p := p) z
  · rw [if_neg z]
    exact List.filter_cons_of_neg (p := p) z
theorem inV_ints (a : Int) (xs : List Int) : inV (.int a) (xs.map V.int) = decide (a ∈ xs) := by
  unfold inV
  rw [List.any_map, Bool.eq_iff_iff, List.any_eq_true, decide_eq_true_eq]
  constructor
  · rintro ⟨y, hy, e⟩
    have e' : y = a := by simpa [eqV] using e
    rw [← e']
    exact hy
  · intro h
    exact ⟨a, h, by simp [eqV]⟩
theorem flat_ints (xs : List Int) : (xs.map V.int).all flatV = true := by
  rw [List.all_map, List.all_eq_true]
  intro x _
  rfl
theorem atI_neg1 {α : Type} {xs : List α} {v : α} (h : xs[xs.length - 1]? = some v) : atI xs (-1) = some v := by
  have hl : 0 < xs.length := by
    cases xs with
    | nil => cases h
    | cons a r => simp
  unfold atI ixN
  rw [if_neg (by decide), if_pos (by omega)]
  have e : ((-1 : Int) + (xs.length : Int)).toNat = xs.length - 1 := by omega
  rw [e]
  exact h
theorem along_length (f : Int) (ns w : List Int) (i : Nat) : (along f ns w i).length = i + 1 := by unfold along; simp
theorem along_at {f : Int} {ns w : List Int} {i j : Nat} (h : j ≤ i) : (along f ns w i)[j]? = some (fin f ns (w.take j)) := by
  unfold along
  rw [List.getElem?_map, List.getElem?_range (by omega)]
  rfl
theorem ws_at {H : Hp} {xs : List V} {ws : List (List Int)} (h : Ws H xs ws) {j : Nat} {w : List Int} (e : ws[j]? = some w) : ∃ a, xs[j]? = some (.ref a) ∧ H a = some (.tup (w.map V.int)) := by
  have hl := h.length
  have hj := (List.getElem?_eq_some_iff.mp e).1
  obtain ⟨w', hw', a, ea, ha⟩ := paired_get h (List.getElem?_eq_getElem (show j < xs.length by omega))
  rw [e] at hw'
  cases hw'
  exact ⟨a, by rw [List.getElem?_eq_getElem (show j < xs.length by omega), ea], ha⟩
theorem al_ints {H : Hp} {x y : V} {w : List Int} (hx : IsW H x w) (hy : IsW H y w) (hl : w.length ≤ 2000) : AlSeq AlInt H x y := by
  obtain ⟨a, rfl, ha⟩ := hx
  obtain ⟨d, rfl, hd⟩ := hy
  refine ⟨a, d, _, _, rfl, rfl, .inr ⟨ha, hd⟩, rfl, by rw [List.length_map]; exact hl, fun i x y e1 e2 => ?_⟩
  obtain ⟨n, en, rfl⟩ := map_at e1
  rw [e1] at e2
  exact ⟨n, rfl, (Option.some.inj e2).symm⟩
theorem al_words {H : Hp} {q d : Addr} {xs ys : List V} {ws : List (List Int)} (hq : H q = some (.lst xs)) (hd : H d = some (.lst ys)) (hx : Ws H xs ws) (hy : Ws H ys ws) (hl : ws.length ≤ 2000) (hw : ∀ w ∈ ws, w.length ≤ 2000) :
    AlSeq (AlSeq AlInt) H (.ref q) (.ref d) := by
  refine ⟨q, d, xs, ys, rfl, rfl, .inl ⟨hq, hd⟩, hx.length.trans hy.length.symm, by rw [hx.length]; exact hl, fun i x y e1 e2 => ?_⟩
  obtain ⟨w, ew, h1⟩ := paired_get hx e1
  obtain ⟨w', ew', h2⟩ := paired_get hy e2
  rw [ew] at ew'
  cases ew'
  exact al_ints h1 h2 (hw w (List.mem_of_getElem? ew))
theorem low_sum {ns : List Int} {B : Int} (h : ∀ x ∈ ns, x ≤ B) : ns.sum ≤ (ns.length : Int) * B := by
  induction ns with
  | nil => simp
  | cons a r ih =>
    have h1 := h a List.mem_cons_self
    have h2 := ih fun x hx => h x (List.mem_cons_of_mem _ hx)
    rw [List.sum_cons, List.length_cons]
    have e : ((r.length + 1 : Nat) : Int) = (r.length : Int) + 1 := by omega
    rw [e, Int.add_mul]
    omega
section
variable {P : Program} {w : World} {K : PySem.W.Frag} {mg : Str → Option Value} {base : Heap}
def spLaw (K : PySem.W.Frag) : Sp := fun vs H Q _ => ∃ (a : Addr) (ns : List Int), vs = [.ref a] ∧ Scr K H a (ns.map V.int) ∧ ∀ H', Q (.bl true) H'
theorem ok_law {f : Addr} {fd : FuncData} (F : Fun K "law" "law" sLaw f fd) (G : Gb mg)
    {fTk fPi fTa fAw fAl fPa fAk fBC fBW fBL : Addr} {dTk dPi dTa dAw dAl dPa dAk dBC dBW dBL : FuncData}
    (DTk : Df K mg "_law_taken" sTaken fTk dTk ["_law_row", "_law_many"]) (GTk : FnOk P w K mg base CX0 1 fTk dTk ["_law_row", "_law_many"] (spTaken K))
    (DPi : Df K mg "_law_pick" sPick fPi dPi ["_law_row", "_law_things"]) (GPi : FnOk P w K mg base CX0 2 fPi dPi ["_law_row", "_law_things"] (spPick K))
    (DTa : Df K mg "_law_table" sTable fTa dTa ["_law_row", "_law_most", "_law_top"]) (GTa : FnOk P w K mg base CX0 3 fTa dTa ["_law_row", "_law_most", "_law_top"] (spTable K))
    (DAw : Df K mg "_law_all_words" sAllWords fAw dAw ["_law_players", "_law_many"]) (GAw : FnOk P w K mg base CX0 1 fAw dAw ["_law_players", "_law_many"] spAllWords)
    (DAl : Df K mg "_law_along" sAlong fAl dAl ["_law_factor", "_law_coins", "_law_word"]) (GAl : FnOk P w K mg base CX0 2 fAl dAl ["_law_factor", "_law_coins", "_law_word"] spAlong)
    (DPa : Df K mg "_law_payers" sPayers fPa dPa ["_law_factor", "_law_coins"]) (GPa : FnOk P w K mg base CX0 2 fPa dPa ["_law_factor", "_law_coins"] spPayers)
    (DAk : Df K mg "_law_alike" sAlike fAk dAk ["_law_found", "_law_due"]) (GA0 : FnOk P w K mg base CX0 1 fAk dAk ["_law_found", "_law_due"] (spAlike AlInt))
    (GA1 : FnOk P w K mg base CX0 2 fAk dAk ["_law_found", "_law_due"] (spAlike (AlSeq AlInt))) (GA2 : FnOk P w K mg base CX0 3 fAk dAk ["_law_found", "_law_due"] (spAlike (AlSeq (AlSeq AlInt))))
    (DBC : Df K mg "bank_count" sBankCount fBC dBC ["table", "bank", "many"]) (GBC : FnOk P w K mg base CX0 5 fBC dBC ["table", "bank", "many"] spBankCount)
    (DBW : Df K mg "bank_words" sBankWords fBW dBW ["table", "bank", "many"]) (GBW : FnOk P w K mg base CX0 5 fBW dBW ["table", "bank", "many"] spBankWords)
    (DBL : Df K mg "bank_least" sBankLeast fBL dBL ["table", "bank", "many"]) (GBL : FnOk P w K mg base CX0 5 fBL dBL ["table", "bank", "many"] spBankLeast) :
    FnOk P w K mg base CX0 6 f fd ["_law_script"] (spLaw K) := by
  refine F.ok scLaw (fun vs H Q E h => ?_) (fun cdv A outer s H vs Q E hr h => ?_)
  · obtain ⟨a, ns, rfl, _⟩ := h
    rfl
  · obtain ⟨a, scr, rfl, hscr, q⟩ := h
    refine ⟨_, pss_cons (ps_set (i := 1) scLaw.nd rfl (.inl rfl) (pe_lst (pa_cons (pv 0) (pa_cons (pe_int) (pa_cons (pe_int) (pa_cons (pe_int) pa_nil))))))
       (pss_cons (ps_set (i := 2) scLaw.nd rfl (.inl rfl) (pe_call GTa (hr.mono (by decide)) (by rfl) DTa.glob DTa.kp DTa.bind .nil pass0 (pa_cons (pv 1) (pa_cons (pe_int) (pa_cons (pe_call GPi (hr.mono (by decide)) (by rfl) DPi.glob DPi.kp DPi.bind .nil pass0 (pa_cons (pv 1) (pa_cons (pe_lst (pa_cons (pe_int) (pa_cons (pe_int) pa_nil))) pa_nil))) pa_nil)))))
       (pss_cons (ps_asg (pv 2) (pg_tup rfl (pgs_cons (pg_name (i := 3) scLaw.nd rfl (.inr rfl)) (pgs_cons (pg_name (i := 4) scLaw.nd rfl (.inr rfl)) pgs_nil))))
       (pss_cons (ps_asg (pe_tup (pa_cons (pe_call GTk (hr.mono (by decide)) (by rfl) DTk.glob DTk.kp DTk.bind .nil pass0 (pa_cons (pv 1) (pa_cons (pe_callB call_len_seq (by rfl) G.len PySem.boot_len (pa_cons (pv 4) pa_nil)) pa_nil))) (pa_cons (pe_call GTk (hr.mono (by decide)) (by rfl) DTk.glob DTk.kp DTk.bind .nil pass0 (pa_cons (pv 1) (pa_cons (pe_int) pa_nil))) (pa_cons (pe_lst pa_nil) (pa_cons (pe_lst pa_nil) pa_nil))))) (pg_tup rfl (pgs_cons (pg_name (i := 5) scLaw.nd rfl (.inl rfl)) (pgs_cons (pg_name (i := 6) scLaw.nd rfl (.inl rfl)) (pgs_cons (pg_name (i := 7) scLaw.nd rfl (.inl rfl)) (pgs_cons (pg_name (i := 8) scLaw.nd rfl (.inl rfl)) pgs_nil))))))
       (pss_cons (ps_for PassesOwn.never rfl (pi_list (pe_call GAw (hr.mono (by decide)) (by rfl) DAw.glob DAw.kp DAw.bind .nil pass0 (pa_cons (pe_callB call_len_seq (by rfl) G.len PySem.boot_len (pa_cons (pv 4) pa_nil)) (pa_cons (pv 6) pa_nil)))) (pg_name (i := 9) scLaw.nd rfl (.inl rfl)) (pss_cons (ps_par (i := 10) (j := 11) rfl scLaw.nd rfl rfl (by decide) rfl rfl (pa_cons (pe_call GAl (hr.mono (by decide)) (by rfl) DAl.glob DAl.kp DAl.bind .nil pass0 (pa_cons (pv 3) (pa_cons (pv 4) (pa_cons (pv 9) pa_nil)))) (pa_cons (pe_bl) pa_nil)) (by rfl))
       (pss_cons (ps_for PassesOwn.never rfl (pi_range1 (by rfl) G.range (pa_cons (pv 6) pa_nil)) (pg_name (i := 12) scLaw.nd rfl (.inl rfl)) (pss_one (ps_set (i := 11) scLaw.nd rfl (.inl rfl) (pe_and (pv 11) (pe_one (pe_or (pe_cmpR op_eq (pe_ix ix_tup (pv 9) (pv 12) (fun _ _ => rfl)) (pv 5) (nomark _)) (pe_one (pe_cmpR op_in_seq (pe_ix ix_tup (pv 9) (pv 12) (fun _ _ => rfl)) (pe_call GPa (hr.mono (by decide)) (by rfl) DPa.glob DPa.kp DPa.bind .nil pass0 (pa_cons (pv 3) (pa_cons (pe_ix ix_list (pv 10) (pv 12) (fun _ _ => rfl)) pa_nil))) (by rfl)))))))))
       (pss_one (ps_if (pt_val (pv 11)) (pss_cons (ps_expr (pe_bm PySem.F.plainAttrs_list PySem.F.slot_list_append PySem.F.type_list_append mt_append (pv 7) (pa_cons (pv 9) pa_nil)))
       (pss_one (ps_expr (pe_bm PySem.F.plainAttrs_list PySem.F.slot_list_append PySem.F.type_list_append mt_append (pv 8) (pa_cons (pe_ix ix_tup (pe_ix ix_list (pv 10) (pe_un un_neg pe_int) (fun _ _ => rfl)) (pv 5) (fun _ _ => rfl)) pa_nil))))) pss_nil)))))
       (pss_cons (ps_if (pt_not (pt_val (pe_call GA0 (hr.mono (by decide)) (by rfl) DAk.glob DAk.kp DAk.bind .nil pass0 (pa_cons (pe_call GBC (hr.mono (by decide)) (by rfl) DBC.glob DBC.kp DBC.bind .nil pass0 (pa_cons (pv 2) (pa_cons (pv 5) (pa_cons (pv 6) pa_nil)))) (pa_cons (pe_callB call_len_seq (by rfl) G.len PySem.boot_len (pa_cons (pv 7) pa_nil)) pa_nil))))) pss_never pss_nil)
       (pss_cons (ps_if (pt_not (pt_val (pe_call GA2 (hr.mono (by decide)) (by rfl) DAk.glob DAk.kp DAk.bind .nil pass0 (pa_cons (pe_call GBW (hr.mono (by decide)) (by rfl) DBW.glob DBW.kp DBW.bind .nil pass0 (pa_cons (pv 2) (pa_cons (pv 5) (pa_cons (pv 6) pa_nil)))) (pa_cons (pv 7) pa_nil))))) pss_never pss_nil)
       (pss_cons (ps_if (pt_not (pt_val (pe_call GA1 (hr.mono (by decide)) (by rfl) DAk.glob DAk.kp DAk.bind .nil pass0 (pa_cons (pe_call GBL (hr.mono (by decide)) (by rfl) DBL.glob DBL.kp DBL.bind .nil pass0 (pa_cons (pv 2) (pa_cons (pv 5) (pa_cons (pv 6) pa_nil)))) (pa_cons (pe_tup (pa_cons (pe_callB (cr_min rfl) (by rfl) G.min PyProof.Rows.boot_min (pa_cons (pv 8) pa_nil)) (pa_cons (pe_callB (cr_max rfl) (by rfl) G.max PyProof.Rows.boot_max (pa_cons (pv 8) pa_nil)) pa_nil))) pa_nil))))) pss_never pss_nil)
       (pss_cons (ps_if (pt_cmpR op_ne (pe_callB call_len_seq (by rfl) G.len PySem.boot_len (pa_cons (pv 4) pa_nil)) pe_int (nomark _)) (pss_one (ps_ret pe_bl)) pss_nil)
       (pss_cons (ps_par3 (i := 13) (j := 14) (l := 15) rfl scLaw.nd rfl rfl rfl (by decide) (by decide) (by decide) rfl rfl rfl (pa_cons (pe_lst (pa_cons (pe_int) pa_nil)) (pa_cons (pe_int) (pa_cons (pe_call GTk (hr.mono (by decide)) (by rfl) DTk.glob DTk.kp DTk.bind .nil pass0 (pa_cons (pv 1) (pa_cons (pe_int) pa_nil))) pa_nil))) (by rfl))
       (pss_cons (ps_for PassesOwn.never rfl (pi_range1 (by rfl) G.range (pa_cons (pv 15) pa_nil)) (pg_name (i := 12) scLaw.nd rfl (.inl rfl)) (pss_cons (ps_set (i := 13) scLaw.nd rfl (.inl rfl) (pe_op op_cat (pe_lc (own := [("_law_one", 17)]) (g := gName 17) (tt := tYes) rfl scLaw.nd (pi_list (pv 13)) (blkOk_by (N := NL) (sc := defScope sLaw) (by decide +kernel)) (fun _ _ _ _ _ => pg_name (i := 17) scLaw.nd rfl (Or.inl rfl)) (fun _ _ _ _ _ => pts_nil) (fun _ _ _ _ _ => pe_op op_mul (pv 3) (pv 17))) (pe_lc (own := [("_law_one", 17)]) (g := gName 17) (tt := tYes) rfl scLaw.nd (pi_list (pv 13)) (blkOk_by (N := NL) (sc := defScope sLaw) (by decide +kernel)) (fun _ _ _ _ _ => pg_name (i := 17) scLaw.nd rfl (Or.inl rfl)) (fun _ _ _ _ _ => pts_nil) (fun _ _ _ _ _ => pe_op op_sub (pe_op op_add (pe_op op_mul (pv 3) (pv 17)) (pv 3)) pe_int))))
       (pss_one (ps_set (i := 14) scLaw.nd rfl (.inl rfl) (pe_op op_mul (pv 14) (pv 3))))))
       (pss_cons (ps_set (i := 16) scLaw.nd rfl (.inr rfl) (pe_op op_mul (pe_ix ix_tup (pv 4) (pe_op op_sub pe_int (pv 5)) (fun _ _ => rfl)) (pv 14)))
       (pss_one (ps_ret (pe_cmpR op_eq (pe_call GBC (hr.mono (by decide)) (by rfl) DBC.glob DBC.kp DBC.bind .nil pass0 (pa_cons (pv 2) (pa_cons (pv 5) (pa_cons (pv 15) pa_nil)))) (pe_callB call_len_seq (by rfl) G.len PySem.boot_len (pa_cons (pe_lc (own := [("_law_one", 17)]) (g := gName 17) (tt := tTest (tOp (rI0 fun i j => .bl (decide (i ≤ j))) (tOp (rI CMul fun i j => .int (i * j)) (tVar 17) (tCB (rSumT K) (tCons (tVar 4) tNil))) (tVar 16))) rfl scLaw.nd (pi_list (pv 13)) (blkOk_by (N := NL) (sc := defScope sLaw) (by decide +kernel)) (fun _ _ _ _ _ => pg_name (i := 17) scLaw.nd rfl (Or.inl rfl)) (fun _ _ _ _ _ => pts_one (pt_cmpR op_le (pe_op op_mul (pv 17) (pe_callB (cr_sumT rfl) (by rfl) G.sum PyProof.Rows.boot_sum (pa_cons (pv 4) pa_nil))) (pv 16) (nomark _))) (fun _ _ _ _ _ => pv 17)) pa_nil)) (nomark _))))))))))))))), ?_⟩
    -- row
    refine ⟨_, rfl, by show 4 ≤ sizeLine; decide, fun r nr => ?_⟩
    have R0 : Row K (upd H r (.lst [.ref a, .int 0, .int 9843, .int 0])) r := ⟨a, scr, 0, 9843, 0, upd_same, hscr.keep fun o u e => by rw [upd_ne (ne_of_none e nr)]; exact e, by decide⟩
    -- table
    refine ⟨_, rfl, _, rfl, by show 2 ≤ sizeLine; decide, fun l0 nl0 => ?_⟩
    refine ⟨r, l0, [4, 30], rfl, upd_same, by decide, by decide, row_new R0 nl0, fun H1 x hx R1 sb1 fr1 => ?_⟩
    obtain ⟨top, rfl, ht1, ht2⟩ : ∃ top : Nat, x = (top : Int) ∧ 1 ≤ top ∧ top ≤ 1000 := by
      simp only [List.mem_cons, List.not_mem_nil, or_false] at hx
      rcases hx with e | e
      · exact ⟨4, e, by decide, by decide⟩
      · exact ⟨30, e, by decide, by decide⟩
    refine ⟨r, top, rfl, ht1, ht2, R1, fun H2 t fa c ns T2 R2 sb2 => ?_⟩
    -- factor, coins
    refine ⟨_, rfl, t, _, rfl, SqT.of T2.at_, rfl, _, _, rfl, _, [], rfl, rfl, ?_⟩
    -- bank, many, due, ends
    refine ⟨_, rfl, _, rfl, c, _, rfl, .inr (SqT.of T2.coins), r, ns.length, by rw [List.length_map]; rfl, T2.len.1, by have := T2.len.2; omega, R2, fun H3 b hb R3 sb3 fr3 => ?_⟩
    have T3 := T2.but R2 sb3
    refine ⟨_, rfl, r, 5, rfl, by decide, by decide, R3, fun H4 m hm R4 sb4 fr4 => ?_⟩
    have T4 := T3.but R3 sb4
    refine ⟨Nat.zero_le _, fun d nd => ⟨Nat.zero_le _, fun e ne => ⟨by show 4 ≤ sizeLine; decide, fun p np => ?_⟩⟩⟩
    have sA : Same H4 (upd H4 d (.lst [])) := same_new nd
    have sB := same_new (o := .lst []) ne
    have sC := same_new (o := .tup [.int (b : Int), .int (m : Int), .ref d, .ref e]) np
    have hde : d ≠ e := fun z => by rw [← z, upd_same] at ne; cases ne
    have hdr : d ≠ r := R4.ne_new nd
    have her : e ≠ r := (R4.same sA).ne_new ne
    refine ⟨p, _, rfl, SqT.of upd_same, rfl, _, _, rfl, _, _, rfl, _, _, rfl, _, [], rfl, rfl, ?_⟩
    have T5 := T4.same ((sA.trans sB).trans sC)
    have R5 := R4.same ((sA.trans sB).trans sC)
    have hd5 : (upd (upd (upd H4 d (.lst [])) e (.lst [])) p (.tup [.int (b : Int), .int (m : Int), .ref d, .ref e])) d = some (.lst []) := (sB.trans sC) _ _ upd_same
    have he5 : (upd (upd (upd H4 d (.lst [])) e (.lst [])) p (.tup [.int (b : Int), .int (m : Int), .ref d, .ref e])) e = some (.lst []) := sC _ _ upd_same
    revert T5 R5 hd5 he5
    generalize upd (upd (upd H4 d (.lst [])) e (.lst [])) p (.tup [.int (b : Int), .int (m : Int), .ref d, .ref e]) = H5
    intro T5 R5 hd5 he5
    have hn := T5.len
    have hf := T5.fac
    -- for word in _law_all_words(..)
    refine ⟨_, rfl, c, _, rfl, .inr (SqT.of T5.coins), _, rfl, ns.length, m, by rw [List.length_map]; rfl, hn.1, hn.2, by omega, fun H6 aw xs s6 naw haw hW => ?_⟩
    have hawd : aw ≠ d := fun z => by rw [z, hd5] at naw; cases naw
    have hawe : aw ≠ e := fun z => by rw [z, he5] at naw; cases naw
    have hpow : ns.length ^ m ≤ 256 := by
      have h5 : ns.length ^ m ≤ 4 ^ m := Nat.pow_le_pow_left hn.2 _
      have h6 : 4 ^ m ≤ 4 ^ 4 := Nat.pow_le_pow_right (by decide) (by omega)
      have h7 : (4 : Nat) ^ 4 = 256 := rfl
      omega
    refine ⟨aw, rfl, ⟨_, SqL.of haw⟩, ?_⟩
    have L0 : LS K H6 r t fa c ns aw d e xs m b (((allw ns.length m).take 0).filter fun w => goodTo fa b ns w m) :=
      ⟨T5.same s6, R5.same s6, haw, hW, ⟨[], s6 _ _ hd5, .nil⟩, s6 _ _ he5⟩
    refine for_it (walk_list (xs := xs)) (fun i σ H1 => ∃ y9 y10 y11 y12 y13 y14 y15 y16 y17, σ = [some (.ref a), some (.ref r), some (.ref t), some (.int fa), some (.ref c), some (.int (b : Int)), some (.int (m : Int)), some (.ref d), some (.ref e), y9, y10, y11, y12, y13, y14, y15, y16, y17] ∧
        LS K H1 r t fa c ns aw d e xs m b (((allw ns.length m).take i).filter fun w => goodTo fa b ns w m))
      ⟨_, _, _, _, _, _, _, _, _, rfl, L0⟩ (fun i σ H1 _ h => ?_) (fun i x σ H1 H2 hi h y => ?_) (fun σ H1 h => ?_)
    · obtain ⟨_, _, _, _, _, _, _, _, _, _, L⟩ := h
      exact SqL.of L.all
    · obtain ⟨y9, y10, y11, y12, y13, y14, y15, y16, y17, rfl, L⟩ := h
      obtain ⟨rfl, hx⟩ := y
      obtain ⟨wd, hwd, wa, rfl, hwa⟩ := paired_get L.allW hx
      have hwl := allw_length (List.mem_of_getElem? hwd)
      have hwm := hwl.1
      -- along, good
      refine ⟨_, rfl, _, rfl, _, rfl, fa, c, wa, ns, wd, rfl, L.tab.coins, hwa, hf.1, hf.2, hn.2, by omega, hwl.2, fun H3 al ys s3 nal hal hY => ?_⟩
      refine ⟨_, _, rfl, ?_⟩
      refine ⟨_, rfl, m, rfl, by omega, by omega, ?_⟩
      refine for_range (lo := 0) (n := m) (fun j σ H4 => ∃ y12, σ = [some (.ref a), some (.ref r), some (.ref t), some (.int fa), some (.ref c), some (.int (b : Int)), some (.int (m : Int)), some (.ref d), some (.ref e), some (.ref wa), some (.ref al), some (.bl (goodTo fa b ns wd j)), y12, y13, y14, y15, y16, y17] ∧ Same H3 H4)
        ⟨_, rfl, Same.refl _⟩ (fun j σ H4 hj h => ?_) (fun σ H4 h => ?_)
      · obtain ⟨y12, rfl, s4⟩ := h
        have hwa4 := (s3.trans s4) _ _ hwa
        have hjw : wd[j]? = some (wd.getD j 0) := getD_of (by omega)
        have eI : atI (wd.map V.int) (0 + (j : Int)) = some (.int (wd.getD j 0)) := by rw [Int.zero_add]; exact atI_nat (by rw [List.getElem?_map, hjw]; rfl)
        refine ⟨_, rfl, _, rfl, ?_⟩
        refine ifB (fun hg => ?_) (fun hg => ?_)
        · refine ⟨_, rfl, _, rfl, wa, _, _, _, rfl, rfl, SqT.of hwa4, eI, _, rfl, rfl, _, rfl, ?_⟩
          refine ifB (fun hb1 => ?_) (fun hb1 => ?_)
          · have e1 : wd.getD j 0 = (b : Int) := by injection of_decide_eq_true hb1
            have e2 : goodTo fa b ns wd (j + 1) = true := by
              rw [goodTo_succ, hg]
              unfold may
              rw [decide_eq_true e1]
              rfl
            exact ⟨_, by rw [e2]; rfl, s4⟩
          · have e1 : ¬ wd.getD j 0 = (b : Int) := fun z => of_decide_eq_false hb1 (congrArg V.int z)
            obtain ⟨fq, hfq, hfin⟩ := ws_at (ws_keep hY (.of s4)) (along_at (f := fa) (ns := ns) (w := wd) (i := wd.length) (j := j) (by omega))
            refine ⟨_, rfl, _, rfl, wa, _, _, _, rfl, rfl, SqT.of hwa4, eI, ?_⟩
            refine ⟨_, rfl, _, rfl, _, rfl, al, _, _, _, rfl, rfl, SqL.of (s4 _ _ hal), (by rw [Int.zero_add]; exact atI_nat hfq), fa, fq, fin fa ns (wd.take j), rfl, hfin, hf.1, hf.2, by rw [fin_length]; exact hn.2, fun H5 q5 s5 nq hq5 => ?_⟩
            refine ⟨q5, _, rfl, .inl (SqL.of hq5), rfl, flat_ints _, ?_⟩
            have e2 : goodTo fa b ns wd (j + 1) = inV (.int (wd.getD j 0)) ((able fa (fin fa ns (wd.take j))).map V.int) := by
              rw [goodTo_succ, hg, inV_ints]
              unfold may
              rw [decide_eq_false e1]
              rfl
            exact ⟨_, by rw [e2]; rfl, s4.trans s5⟩
        · have e2 : goodTo fa b ns wd (j + 1) = false := by
            rw [goodTo_succ, hg]
            rfl
          exact ⟨_, by rw [e2]; rfl, s4⟩
      · obtain ⟨y12, rfl, s4⟩ := h
        have L4 := L.same (s3.trans s4)
        have hwa4 := (s3.trans s4) _ _ hwa
        refine ⟨_, rfl, _, rfl, ?_⟩
        refine ifB (fun hg => ?_) (fun hg => ?_)
        · have eT : ((allw ns.length m).take (i + 1)).filter (fun w => goodTo fa b ns w m) = ((allw ns.length m).take i).filter (fun w => goodTo fa b ns w m) ++ [wd] := by
            rw [List.take_add_one, hwd, List.filter_append]
            congr 1
            exact List.filter_cons_of_pos (p := fun w => goodTo fa b ns w m) hg
          obtain ⟨ds, hd4, hD4⟩ := L4.due
          have hln : (((allw ns.length m).take i).filter (fun w => goodTo fa b ns w m)).length ≤ 256 := by
            refine Nat.le_trans (List.length_filter_le _ _) ?_
            rw [List.length_take, allw_count]
            omega
          obtain ⟨fq, hfq, hfin⟩ := ws_at (ws_keep hY (.of s4)) (along_at (f := fa) (ns := ns) (w := wd) (i := wd.length) (j := wd.length) (Nat.le_refl _))
          rw [List.take_length] at hfin
          have hyl : ys.length - 1 = wd.length := by rw [hY.length, along_length]; omega
          have tkd : TupKeep H4 (upd H4 d (.lst (ds ++ [.ref wa]))) := .lst hd4
          have hald : al ≠ d := fun z => by
            obtain ⟨ds0, hd0, _⟩ := L.due
            rw [z, hd0] at nal
            cases nal
          have he4 : (upd H4 d (.lst (ds ++ [.ref wa]))) e = some (.lst (((((allw ns.length m).take i).filter (fun w => goodTo fa b ns w m)).map fun w => (fin fa ns w).getD b 0).map V.int)) := by rw [upd_ne (Ne.symm hde)]; exact L4.ends
          refine ⟨.ref d, rfl, .inl ⟨rfl, _, SqL.of hd4⟩, _, rfl, d, _, _, rfl, rfl, hd4, line_lt (by rw [hD4.length]; omega), ?_⟩
          refine ⟨.ref e, rfl, .inl ⟨rfl, _, SqL.of he4⟩, _, rfl, 1, rfl, al, ys, -1, .ref fq, rfl, rfl, SqL.of (by rw [upd_ne hald]; exact s4 _ _ hal), atI_neg1 (by rw [hyl]; exact hfq), _, rfl, fq, _, (b : Int), .int ((fin fa ns wd).getD b 0), rfl, rfl, SqT.of (tkd _ _ hfin),
            atI_nat (by rw [List.getElem?_map, getD_of (by rw [fin_length]; exact hb)]; rfl), e, _, _, rfl, rfl, he4, line_lt (by rw [List.length_map, List.length_map]; omega), ?_⟩
          refine ⟨_, _, _, _, _, _, _, _, _, rfl, ?_⟩
          rw [eT]
          exact L4.add hd4 hD4 hde hdr her hawd hawe hwa4
        · have eT : ((allw ns.length m).take (i + 1)).filter (fun w => goodTo fa b ns w m) = ((allw ns.length m).take i).filter (fun w => goodTo fa b ns w m) := by
            rw [List.take_add_one, hwd, List.filter_append]
            have z : List.filter (fun w => goodTo fa b ns w m) (some wd).toList = [] := List.filter_cons_of_neg (p := fun w => goodTo fa b ns w m) (by rw [hg]; exact Bool.false_ne_true)
            rw [z, List.append_nil]
          refine ⟨_, _, _, _, _, _, _, _, _, rfl, ?_⟩
          rw [eT]
          exact L4
    · obtain ⟨y9, y10, y11, y12, y13, y14, y15, y16, y17, rfl, L⟩ := h
      rw [hW.length, List.take_length, ← words_eq (by omega) (T5.ok b)] at L
      have hWl := lets_count fa b ns m
      have hmm : m ≤ 12 := by omega
      have hpw : ns.length ^ m ≤ 2000 := by omega
      obtain ⟨ds, hd7, hD7⟩ := L.due
      have hwds : (words fa b ns m).length ≤ 2000 := by
        unfold words
        rw [List.length_map]
        omega
      have eB : ((words fa b ns m).map fun w => (fin fa ns w).getD b 0) = banks fa b ns m := by
        unfold banks
        rw [ends_fin, List.map_map]
        rfl
      have hbne : banks fa b ns m ≠ [] := by
        intro z
        refine lets_ne (f := fa) (ns := ns) (by omega) hb (T5.ok b) m ?_
        unfold banks ends at z
        exact List.map_eq_nil_iff.mp (List.map_eq_nil_iff.mp z)
      have hbpos : 0 < (banks fa b ns m).length := List.length_pos_iff.mpr hbne
      have he7 := L.ends
      rw [eB] at he7
      -- bank_count
      refine ⟨_, rfl, _, rfl, _, rfl, t, fa, c, ns, b, m, ⟨rfl, L.tab, hb, hmm, hpw⟩, fun H7 s7 => ?_⟩
      refine ⟨_, rfl, d, ds, rfl, .inl (SqL.of (s7 _ _ hd7)), _, _, rfl, ⟨_, rfl, ?_⟩, fun H8 s8 => ⟨_, rfl, iteF ?_⟩⟩
      · rw [hD7.length]
        unfold words
        rw [List.length_map]
      have s78 := s7.trans s8
      -- bank_words
      refine ⟨_, rfl, _, rfl, _, rfl, t, fa, c, ns, b, m, ⟨rfl, L.tab.same s78, hb, hmm, hpw⟩, fun H9 q9 xs9 s9 nq9 hq9 hW9 => ?_⟩
      refine ⟨_, rfl, _, _, rfl, al_words hq9 ((s78.trans s9) _ _ hd7) hW9 (ws_keep hD7 (.of (s78.trans s9))) hwds (fun w hw => ?_), fun H10 s10 => ⟨_, rfl, iteF ?_⟩⟩
      · unfold words at hw
        obtain ⟨wc, hwc, ew⟩ := List.mem_map.mp hw
        rw [← ew, (lets_length hwc).2]
        omega
      have s70 := (s78.trans s9).trans s10
      -- bank_least
      refine ⟨_, rfl, _, rfl, _, rfl, t, fa, c, ns, b, m, ⟨rfl, L.tab.same s70, hb, hmm, hpw⟩, hbne, fun H11 q11 lo hi s11 nq11 hq11 l1 l2 h1 h2 => ?_⟩
      refine ⟨_, rfl, e, banks fa b ns m, rfl, SqL.of ((s70.trans s11) _ _ he7), hbpos, fun lo' l1' l2' => ⟨_, rfl, e, banks fa b ns m, rfl, SqL.of ((s70.trans s11) _ _ he7), hbpos, fun hi' h1' h2' => ⟨by show 2 ≤ sizeLine; decide, fun p11 np11 => ?_⟩⟩⟩
      have elo : lo' = lo := Int.le_antisymm (l2' _ l1) (l2 _ l1')
      have ehi : hi' = hi := Int.le_antisymm (h2 _ h1') (h2' _ h1)
      subst elo ehi
      have s12 := (s70.trans s11).new (o := .tup [.int lo', .int hi']) np11
      refine ⟨_, _, rfl, al_ints (w := [lo', hi']) ⟨q11, rfl, same_new np11 _ _ hq11⟩ ⟨p11, rfl, upd_same⟩ (by show 2 ≤ 2000; decide), fun H13 s13 => ⟨_, rfl, iteF ?_⟩⟩
      have L13 := L.same (s12.trans s13)
      -- are there two players
      refine ⟨_, rfl, c, _, rfl, .inr (SqT.of L13.tab.coins), rfl, _, rfl, ?_⟩
      refine ifND (fun hne => q _) (fun h2p => ?_)
      have hns2 : ns.length = 2 := by
        have z : (((ns.map V.int).length : Nat) : Int) = 2 := by injection h2p
        rw [List.length_map] at z
        omega
      -- numbers, size, far
      refine ⟨by show 1 ≤ sizeLine; decide, fun nb nnb => ?_⟩
      have R14 := L13.row.same (same_new (o := .lst [.int 0]) nnb)
      have T14 := L13.tab.same (same_new (o := .lst [.int 0]) nnb)
      have hnbr : nb ≠ r := L13.row.ne_new nnb
      refine ⟨_, rfl, r, 11, rfl, by decide, by decide, R14, fun H15 far hfar R15 sb15 fr15 => ⟨_, _, _, rfl, ?_⟩⟩
      have T15 := T14.but R14 sb15
      have hnb15 := sb15 _ _ hnbr upd_same
      have h2far : ∀ i, i ≤ 10 → (2 : Nat) ^ i ≤ 1024 := fun i hi => by
        have h8 : (2 : Nat) ^ i ≤ 2 ^ 10 := Nat.pow_le_pow_right (by decide) hi
        have h9 : (2 : Nat) ^ 10 = 1024 := rfl
        omega
      refine ⟨_, rfl, far, rfl, by omega, by omega, ?_⟩
      refine for_range (lo := 0) (n := far) (fun i σ H1 => ∃ y9 y10 y11 y12 y16 y17 l, σ = [some (.ref a), some (.ref r), some (.ref t), some (.int fa), some (.ref c), some (.int (b : Int)), some (.int (m : Int)), some (.ref d), some (.ref e), y9, y10, y11, y12, some (.ref l), some (.int (fa ^ i)), some (.int (far : Int)), y16, y17] ∧
          Tab H1 t fa c ns ∧ H1 l = some (.lst ((nums fa i).map V.int)))
        ⟨y9, y10, y11, y12, y16, y17, nb, by rw [Int.pow_zero]; rfl, T15, hnb15⟩ (fun i σ H1 hi h => ?_) (fun σ H1 h => ?_)
      · obtain ⟨y9, y10, y11, y12, y16, y17, l, rfl, T, hl⟩ := h
        have hnl : (nums fa i).length ≤ 1024 := by rw [nums_length]; exact h2far i (by omega)
        refine ⟨.ref l, rfl, l, rfl, ⟨_, SqL.of hl⟩, fun D nD => ?_⟩
        refine lc_list (xs := (nums fa i).map V.int) (fun j H2 => Same H1 H2 ∧ H2 D = some (.lst (((nums fa i).take j).map fun x => .int (fa * x))))
          ⟨same_new nD, upd_same⟩ (fun j H2 _ h => SqL.of (h.1 _ _ hl)) (fun j x H2 hx h => ?_) (fun H2 h => ?_)
        · obtain ⟨s2, hD2⟩ := h
          obtain ⟨n, en, rfl⟩ := map_at hx
          refine ⟨rfl, _, rfl, _, rfl, fa, n, rfl, rfl, .inl ⟨by omega, by omega⟩, _, hD2, ?_, s2.put nD, ?_⟩
          · rw [List.length_map, List.length_take]
            exact line_lt (by omega)
          · rw [upd_same, take_map en]
        · obtain ⟨s2, hD2⟩ := h
          rw [List.length_map, List.take_length] at hD2
          have hl2 := s2 _ _ hl
          refine ⟨.ref l, rfl, l, rfl, ⟨_, SqL.of hl2⟩, fun D2 nD2 => ?_⟩
          have hDD : D ≠ D2 := ne_of_none hD2 nD2
          refine lc_list (xs := (nums fa i).map V.int) (fun j H3 => Same H2 H3 ∧ H3 D2 = some (.lst (((nums fa i).take j).map fun x => .int (fa * x + fa - 1))))
            ⟨same_new nD2, upd_same⟩ (fun j H3 _ h => SqL.of (h.1 _ _ hl2)) (fun j x H3 hx h => ?_) (fun H3 h => ?_)
          · obtain ⟨s3, hD3⟩ := h
            obtain ⟨n, en, rfl⟩ := map_at hx
            refine ⟨rfl, _, rfl, _, rfl, fa, n, rfl, rfl, .inl ⟨by omega, by omega⟩, _, rfl, _, _, rfl, rfl, _, _, rfl, rfl, _, hD3, ?_, s3.put nD2, ?_⟩
            · rw [List.length_map, List.length_take]
              exact line_lt (by omega)
            · rw [upd_same, take_map en]
          · obtain ⟨s3, hD3⟩ := h
            rw [List.length_map, List.take_length] at hD3
            refine ⟨D, D2, _, _, rfl, rfl, s3 _ _ hD2, hD3, line_small (by rw [List.length_map, List.length_map]; omega), fun p np => ?_⟩
            refine ⟨_, rfl, _, rfl, _, fa, rfl, rfl, .inr ⟨by omega, by omega⟩, ?_⟩
            have s4 := (s2.trans s3).new (o := .lst (((nums fa i).map fun x => V.int (fa * x)) ++ ((nums fa i).map fun x => V.int (fa * x + fa - 1)))) np
            refine ⟨y9, y10, y11, _, y16, y17, p, by rw [Int.pow_succ]; rfl, T.same s4, ?_⟩
            rw [upd_same]
            show _ = some (HO.lst ((((nums fa i).map fun x => fa * x) ++ ((nums fa i).map fun x => fa * x + fa - 1)).map V.int))
            rw [List.map_append, List.map_map, List.map_map]
            rfl
      · obtain ⟨y9, y10, y11, y12, y16, y17, l, rfl, T, hl⟩ := h
        have hnl : (nums fa far).length ≤ 1024 := by rw [nums_length]; exact h2far far (by omega)
        have hb2 : b < 2 := by omega
        have h1b : 1 - b < ns.length := by omega
        have hlow := T.low (ns.getD (1 - b) 0) (List.mem_of_getElem? (getD_of h1b))
        have hsum : ns.sum ≤ 4000000 := by
          have z := low_sum (ns := ns) (B := 1000000) fun x hx => (T.low x hx).2
          rw [hns2] at z
          omega
        have hpos := T.pos
        -- own
        refine ⟨_, rfl, _, rfl, _, _, rfl, rfl, c, _, _, .int (ns.getD (1 - b) 0), rfl, rfl, SqT.of T.coins, ?_, _, rfl, _, _, rfl, rfl, .inl ⟨by omega, by omega⟩, ?_⟩
        · rw [show (1 : Int) - (b : Int) = ((1 - b : Nat) : Int) by omega]
          exact atI_nat (by rw [List.getElem?_map, getD_of h1b]; rfl)
        -- bank_count over them all
        have hpf : ns.length ^ far ≤ 2000 := by
          rw [hns2]
          have := h2far far (by omega)
          omega
        refine ⟨_, rfl, _, rfl, _, rfl, t, fa, c, ns, b, far, ⟨rfl, T, hb, by omega, hpf⟩, fun H16 s16 => ?_⟩
        have T16 := T.same s16
        refine ⟨.ref l, rfl, l, rfl, ⟨_, SqL.of (s16 _ _ hl)⟩, fun D nD => ?_⟩
        refine lc_list (xs := (nums fa far).map V.int) (fun j H2 => Same H16 H2 ∧ H2 D = some (.lst ((((nums fa far).take j).filter fun x => decide (x * ns.sum ≤ ns.getD (1 - b) 0 * fa ^ far)).map V.int)))
          ⟨same_new nD, upd_same⟩ (fun j H2 _ h => SqL.of (h.1 _ _ (s16 _ _ hl))) (fun j x H2 hx h => ?_) (fun H2 h => ?_)
        · obtain ⟨s2, hD2⟩ := h
          obtain ⟨n, en, rfl⟩ := map_at hx
          refine ⟨rfl, _, rfl, _, rfl, c, ns, rfl, SqT.of (s2 _ _ T16.coins), _, _, rfl, rfl, .inr ⟨by omega, by omega⟩, _, rfl, _, _, rfl, rfl, _, rfl, ?_⟩
          refine ifD (fun hz => ?_) (fun hz => ?_)
          · refine ⟨_, rfl, _, hD2, ?_, s2.put nD, ?_⟩
            · rw [List.length_map]
              refine line_lt (Nat.le_trans (List.length_filter_le _ _) ?_)
              rw [List.length_take]
              omega
            · rw [upd_same, filt_take en, if_pos (decide_eq_true hz), List.map_append]
              rfl
          · refine ⟨s2, ?_⟩
            rw [filt_take en, if_neg (by simpa using hz), List.append_nil]
            exact hD2
        · obtain ⟨s2, hD2⟩ := h
          rw [List.length_map, List.take_length] at hD2
          refine ⟨D, _, rfl, .inl (SqL.of hD2), rfl, ?_⟩
          rw [List.length_map, two_count (by omega) hb2 hns2 (T.ok b) (by omega) far, decide_eq_true rfl]
          exact q _
end
end Dp

set_option Elab.async false
set_option linter.all false
set_option maxRecDepth 100000
set_option maxHeartbeats 8000000
/-! What the module's top has written; the head. -/
namespace Dp
open PySem PySem.Spec PyProof.Rows L2
theorem scr_new {H : Hp} (hO : Only H) (a : Addr) : ∀ ys, H a ≠ some (.lst ys) := fun ys z => by
  rcases hO a with e | ⟨o, xs, e⟩
  · rw [e] at z
    cases z
  · rw [e] at z
    cases z
theorem all_mk {l : PySem.W.OpenLaw} {w : World} {K : PySem.W.Frag} {h : Heap} {mg : Str → Option Value} {fa f1 f2 f3 f4 f5 f6 f7 f8 f9 f10 f11 f12 f13 f14 f15 f16 f17 f18 f19 f20 f21 f22 f23 : Addr} (X : K.In h) (G : h.Ns mainGlobals mg) (hfa : mg "law" = some (.ref fa))
    {od1 an1 od2 an2 od3 an3 od4 an4 od5 an5 od6 an6 od7 an7 od8 an8 od9 an9 od10 an10 od11 an11 od12 an12 od13 an13 od14 an14 od15 an15 od16 an16 od17 an17 od18 an18 od19 an19 od20 an20 od21 an21 od22 an22 od23 an23 : Option Addr} {sl1 sl2 sl3 sl4 sl5 sl6 sl7 sl8 sl9 sl10 sl11 sl12 sl13 sl14 sl15 sl16 sl17 sl18 sl19 sl20 sl21 sl22 sl23 : Array (Option Value)} {oc1 kV1 dc1 pm1 cd1 ct1 oc2 kV2 dc2 pm2 cd2 ct2 oc3 kV3 dc3 pm3 cd3 ct3 oc4 kV4 dc4 pm4 cd4 ct4 oc5 kV5 dc5 pm5 cd5 ct5 oc6 kV6 dc6 pm6 cd6 ct6 oc7 kV7 dc7 pm7 cd7 ct7 oc8 kV8 dc8 pm8 cd8 ct8 oc9 kV9 dc9 pm9 cd9 ct9 oc10 kV10 dc10 pm10 cd10 ct10 oc11 kV11 dc11 pm11 cd11 ct11 oc12 kV12 dc12 pm12 cd12 ct12 oc13 kV13 dc13 pm13 cd13 ct13 oc14 kV14 dc14 pm14 cd14 ct14 oc15 kV15 dc15 pm15 cd15 ct15 oc16 kV16 dc16 pm16 cd16 ct16 oc17 kV17 dc17 pm17 cd17 ct17 oc18 kV18 dc18 pm18 cd18 ct18 oc19 kV19 dc19 pm19 cd19 ct19 oc20 kV20 dc20 pm20 cd20 ct20 oc21 kV21 dc21 pm21 cd21 ct21 oc22 kV22 dc22 pm22 cd22 ct22 oc23 kV23 dc23 pm23 cd23 ct23 : Value} {tk1 tk2 tk3 tk4 tk5 tk6 : Tok}
    (a1 : PySem.W.nsIn K mainGlobals "is_in" = some (some (.ref f1))) (l1 : K.lookup f1 = some ⟨oc1, od1, .func (PySem.W.fnOf "is_in" "is_in" (defArgs sIsIn) (defBody sIsIn) (defScope sIsIn) .none kV1 dc1 pm1 an1 cd1 ct1), sl1⟩) (c1 : PySem.W.codeIn K cd1 "is_in" = true) (k1 : PySem.W.keepIn K (.ref f1) = true)
    (a2 : PySem.W.nsIn K mainGlobals "is_factor" = some (some (.ref f2))) (l2 : K.lookup f2 = some ⟨oc2, od2, .func (PySem.W.fnOf "is_factor" "is_factor" (defArgs sIsFactor) (defBody sIsFactor) (defScope sIsFactor) .none kV2 dc2 pm2 an2 cd2 ct2), sl2⟩) (c2 : PySem.W.codeIn K cd2 "is_factor" = true) (k2 : PySem.W.keepIn K (.ref f2) = true)
    (a3 : PySem.W.nsIn K mainGlobals "need_table" = some (some (.ref f3))) (l3 : K.lookup f3 = some ⟨oc3, od3, .func (PySem.W.fnOf "need_table" "need_table" (defArgs sNeedTable) (defBody sNeedTable) (defScope sNeedTable) .none kV3 dc3 pm3 an3 cd3 ct3), sl3⟩) (c3 : PySem.W.codeIn K cd3 "need_table" = true) (k3 : PySem.W.keepIn K (.ref f3) = true)
    (a4 : PySem.W.nsIn K mainGlobals "need_player" = some (some (.ref f4))) (l4 : K.lookup f4 = some ⟨oc4, od4, .func (PySem.W.fnOf "need_player" "need_player" (defArgs sNeedPlayer) (defBody sNeedPlayer) (defScope sNeedPlayer) .none kV4 dc4 pm4 an4 cd4 ct4), sl4⟩) (c4 : PySem.W.codeIn K cd4 "need_player" = true) (k4 : PySem.W.keepIn K (.ref f4) = true)
    (a5 : PySem.W.nsIn K mainGlobals "owed_in" = some (some (.ref f5))) (l5 : K.lookup f5 = some ⟨oc5, od5, .func (PySem.W.fnOf "owed_in" "owed_in" (defArgs sOwedIn) (defBody sOwedIn) (defScope sOwedIn) .none kV5 dc5 pm5 an5 cd5 ct5), sl5⟩) (c5 : PySem.W.codeIn K cd5 "owed_in" = true) (k5 : PySem.W.keepIn K (.ref f5) = true)
    (a6 : PySem.W.nsIn K mainGlobals "need_let" = some (some (.ref f6))) (l6 : K.lookup f6 = some ⟨oc6, od6, .func (PySem.W.fnOf "need_let" "need_let" (defArgs sNeedLet) (defBody sNeedLet) (defScope sNeedLet) .none kV6 dc6 pm6 an6 cd6 ct6), sl6⟩) (c6 : PySem.W.codeIn K cd6 "need_let" = true) (k6 : PySem.W.keepIn K (.ref f6) = true)
    (a7 : PySem.W.nsIn K mainGlobals "need_bank" = some (some (.ref f7))) (l7 : K.lookup f7 = some ⟨oc7, od7, .func (PySem.W.fnOf "need_bank" "need_bank" (defArgs sNeedBank) (defBody sNeedBank) (defScope sNeedBank) .none kV7 dc7 pm7 an7 cd7 ct7), sl7⟩) (c7 : PySem.W.codeIn K cd7 "need_bank" = true) (k7 : PySem.W.keepIn K (.ref f7) = true)
    (a8 : PySem.W.nsIn K mainGlobals "floors_of" = some (some (.ref f8))) (l8 : K.lookup f8 = some ⟨oc8, od8, .func (PySem.W.fnOf "floors_of" "floors_of" (defArgs sFloorsOf) (defBody sFloorsOf) (defScope sFloorsOf) .none kV8 dc8 pm8 an8 cd8 ct8), sl8⟩) (c8 : PySem.W.codeIn K cd8 "floors_of" = true) (k8 : PySem.W.keepIn K (.ref f8) = true)
    (a9 : PySem.W.nsIn K mainGlobals "is_let" = some (some (.ref f9))) (l9 : K.lookup f9 = some ⟨oc9, od9, .func (PySem.W.fnOf "is_let" "is_let" (defArgs sIsLet) (defBody sIsLet) (defScope sIsLet) .none kV9 dc9 pm9 an9 cd9 ct9), sl9⟩) (c9 : PySem.W.codeIn K cd9 "is_let" = true) (k9 : PySem.W.keepIn K (.ref f9) = true)
    (a10 : PySem.W.nsIn K mainGlobals "counts_in" = some (some (.ref f10))) (l10 : K.lookup f10 = some ⟨oc10, od10, .func (PySem.W.fnOf "counts_in" "counts_in" (defArgs sCountsIn) (defBody sCountsIn) (defScope sCountsIn) .none kV10 dc10 pm10 an10 cd10 ct10), sl10⟩) (c10 : PySem.W.codeIn K cd10 "counts_in" = true) (k10 : PySem.W.keepIn K (.ref f10) = true)
    (a11 : PySem.W.nsIn K mainGlobals "words_in" = some (some (.ref f11))) (l11 : K.lookup f11 = some ⟨oc11, od11, .func (PySem.W.fnOf "words_in" "words_in" (defArgs sWordsIn) (defBody sWordsIn) (defScope sWordsIn) .none kV11 dc11 pm11 an11 cd11 ct11), sl11⟩) (c11 : PySem.W.codeIn K cd11 "words_in" = true) (k11 : PySem.W.keepIn K (.ref f11) = true)
    (a12 : PySem.W.nsIn K mainGlobals "bank_count" = some (some (.ref f12))) (l12 : K.lookup f12 = some ⟨oc12, od12, .func (PySem.W.fnOf "bank_count" "bank_count" (defArgs sBankCount) (defBody sBankCount) (defScope sBankCount) .none kV12 dc12 pm12 an12 cd12 ct12), sl12⟩) (c12 : PySem.W.codeIn K cd12 "bank_count" = true) (k12 : PySem.W.keepIn K (.ref f12) = true)
    (a13 : PySem.W.nsIn K mainGlobals "bank_words" = some (some (.ref f13))) (l13 : K.lookup f13 = some ⟨oc13, od13, .func (PySem.W.fnOf "bank_words" "bank_words" (defArgs sBankWords) (defBody sBankWords) (defScope sBankWords) .none kV13 dc13 pm13 an13 cd13 ct13), sl13⟩) (c13 : PySem.W.codeIn K cd13 "bank_words" = true) (k13 : PySem.W.keepIn K (.ref f13) = true)
    (a14 : PySem.W.nsIn K mainGlobals "bank_least" = some (some (.ref f14))) (l14 : K.lookup f14 = some ⟨oc14, od14, .func (PySem.W.fnOf "bank_least" "bank_least" (defArgs sBankLeast) (defBody sBankLeast) (defScope sBankLeast) .none kV14 dc14 pm14 an14 cd14 ct14), sl14⟩) (c14 : PySem.W.codeIn K cd14 "bank_least" = true) (k14 : PySem.W.keepIn K (.ref f14) = true)
    (a15 : PySem.W.nsIn K mainGlobals "_law_taken" = some (some (.ref f15))) (l15 : K.lookup f15 = some ⟨oc15, od15, .func (PySem.W.fnOf "_law_taken" "_law_taken" (defArgs sTaken) (defBody sTaken) (defScope sTaken) .none kV15 dc15 pm15 an15 cd15 ct15), sl15⟩) (c15 : PySem.W.codeIn K cd15 "_law_taken" = true) (k15 : PySem.W.keepIn K (.ref f15) = true)
    (a16 : PySem.W.nsIn K mainGlobals "_law_pick" = some (some (.ref f16))) (l16 : K.lookup f16 = some ⟨oc16, od16, .func (PySem.W.fnOf "_law_pick" "_law_pick" (defArgs sPick) (defBody sPick) (defScope sPick) .none kV16 dc16 pm16 an16 cd16 ct16), sl16⟩) (c16 : PySem.W.codeIn K cd16 "_law_pick" = true) (k16 : PySem.W.keepIn K (.ref f16) = true)
    (a17 : PySem.W.nsIn K mainGlobals "_law_table" = some (some (.ref f17))) (l17 : K.lookup f17 = some ⟨oc17, od17, .func (PySem.W.fnOf "_law_table" "_law_table" (defArgs sTable) (defBody sTable) (defScope sTable) .none kV17 dc17 pm17 an17 cd17 ct17), sl17⟩) (c17 : PySem.W.codeIn K cd17 "_law_table" = true) (k17 : PySem.W.keepIn K (.ref f17) = true)
    (a18 : PySem.W.nsIn K mainGlobals "_law_all_words" = some (some (.ref f18))) (l18 : K.lookup f18 = some ⟨oc18, od18, .func (PySem.W.fnOf "_law_all_words" "_law_all_words" (defArgs sAllWords) (defBody sAllWords) (defScope sAllWords) .none kV18 dc18 pm18 an18 cd18 ct18), sl18⟩) (c18 : PySem.W.codeIn K cd18 "_law_all_words" = true) (k18 : PySem.W.keepIn K (.ref f18) = true)
    (a19 : PySem.W.nsIn K mainGlobals "_law_owed" = some (some (.ref f19))) (l19 : K.lookup f19 = some ⟨oc19, od19, .func (PySem.W.fnOf "_law_owed" "_law_owed" (defArgs sOwed) (defBody sOwed) (defScope sOwed) .none kV19 dc19 pm19 an19 cd19 ct19), sl19⟩) (c19 : PySem.W.codeIn K cd19 "_law_owed" = true) (k19 : PySem.W.keepIn K (.ref f19) = true)
    (a20 : PySem.W.nsIn K mainGlobals "_law_along" = some (some (.ref f20))) (l20 : K.lookup f20 = some ⟨oc20, od20, .func (PySem.W.fnOf "_law_along" "_law_along" (defArgs sAlong) (defBody sAlong) (defScope sAlong) .none kV20 dc20 pm20 an20 cd20 ct20), sl20⟩) (c20 : PySem.W.codeIn K cd20 "_law_along" = true) (k20 : PySem.W.keepIn K (.ref f20) = true)
    (a21 : PySem.W.nsIn K mainGlobals "_law_payers" = some (some (.ref f21))) (l21 : K.lookup f21 = some ⟨oc21, od21, .func (PySem.W.fnOf "_law_payers" "_law_payers" (defArgs sPayers) (defBody sPayers) (defScope sPayers) .none kV21 dc21 pm21 an21 cd21 ct21), sl21⟩) (c21 : PySem.W.codeIn K cd21 "_law_payers" = true) (k21 : PySem.W.keepIn K (.ref f21) = true)
    (a22 : PySem.W.nsIn K mainGlobals "_law_alike" = some (some (.ref f22))) (l22 : K.lookup f22 = some ⟨oc22, od22, .func (PySem.W.fnOf "_law_alike" "_law_alike" (defArgs sAlike) (defBody sAlike) (defScope sAlike) .none kV22 dc22 pm22 an22 cd22 ct22), sl22⟩) (c22 : PySem.W.codeIn K cd22 "_law_alike" = true) (k22 : PySem.W.keepIn K (.ref f22) = true)
    (a23 : PySem.W.nsIn K mainGlobals "law" = some (some (.ref f23))) (l23 : K.lookup f23 = some ⟨oc23, od23, .func (PySem.W.fnOf "law" "law" (defArgs sLaw) (defBody sLaw) (defScope sLaw) .none kV23 dc23 pm23 an23 cd23 ct23), sl23⟩) (c23 : PySem.W.codeIn K cd23 "law" = true) (k23 : PySem.W.keepIn K (.ref f23) = true)
    (z1 : PySem.W.nsIn K mainGlobals "isinstance" = some none) (z2 : PySem.W.nsIn K mainGlobals "int" = some none) (z3 : PySem.W.nsIn K mainGlobals "bool" = some none) (z4 : PySem.W.nsIn K mainGlobals "tuple" = some none) (z5 : PySem.W.nsIn K mainGlobals "list" = some none) (z6 : PySem.W.nsIn K mainGlobals "str" = some none) (z7 : PySem.W.nsIn K mainGlobals "len" = some none) (z8 : PySem.W.nsIn K mainGlobals "enumerate" = some none) (z9 : PySem.W.nsIn K mainGlobals "sum" = some none) (z10 : PySem.W.nsIn K mainGlobals "range" = some none) (z11 : PySem.W.nsIn K mainGlobals "zip" = some none) (z12 : PySem.W.nsIn K mainGlobals "min" = some none) (z13 : PySem.W.nsIn K mainGlobals "max" = some none)
    (q1 : PySem.W.nsIn K mainGlobals "MOST_PLAYERS" = some (some (.int 6 tk1))) (q2 : PySem.W.nsIn K mainGlobals "MOST_COINS" = some (some (.int 1000000 tk2))) (q3 : PySem.W.nsIn K mainGlobals "LEAST_FACTOR" = some (some (.int 2 tk3))) (q4 : PySem.W.nsIn K mainGlobals "MOST_FACTOR" = some (some (.int 9 tk4))) (q5 : PySem.W.nsIn K mainGlobals "MOST_LET" = some (some (.int 12 tk5))) (q6 : PySem.W.nsIn K mainGlobals "MOST_WORDS" = some (some (.int 2000 tk6))) :
    ∃ fd : FuncData, (∀ (s : Shared) (v : Value), BindsTo s fd ⟨[v], []⟩ [("_law_script", v)]) ∧ ∀ base : Heap, K.In base → base.Ns mainGlobals mg → FnOk l.prog w K mg base CX0 6 fa fd ["_law_script"] (spLaw K) := by
  have e := hfa.symm.trans (PySem.W.mg_of X G a23)
  cases e
  have G0 : Gb mg := ⟨PySem.W.mg_none_of X G z1, PySem.W.mg_none_of X G z2, PySem.W.mg_none_of X G z3, PySem.W.mg_none_of X G z4, PySem.W.mg_none_of X G z5, PySem.W.mg_none_of X G z6, PySem.W.mg_none_of X G z7, PySem.W.mg_none_of X G z8, PySem.W.mg_none_of X G z9, PySem.W.mg_none_of X G z10, PySem.W.mg_none_of X G z11, PySem.W.mg_none_of X G z12, PySem.W.mg_none_of X G z13⟩
  have C0 : Gc mg := ⟨⟨_, PySem.W.mg_of X G q1⟩, ⟨_, PySem.W.mg_of X G q2⟩, ⟨_, PySem.W.mg_of X G q3⟩, ⟨_, PySem.W.mg_of X G q4⟩, ⟨_, PySem.W.mg_of X G q5⟩, ⟨_, PySem.W.mg_of X G q6⟩⟩
  have FIsIn := fun_mk (st := sIsIn) l1 c1 k1
  have DIsIn : Df K mg "is_in" sIsIn f1 _ ["value", "least", "most"] := ⟨FIsIn, FIsIn.binds fun _ _ _ _ _ _ us hl => match us, hl with | [_, _, _], _ => rfl, PySem.W.mg_of X G a1⟩
  have FIsFactor := fun_mk (st := sIsFactor) l2 c2 k2
  have DIsFactor : Df K mg "is_factor" sIsFactor f2 _ ["value"] := ⟨FIsFactor, FIsFactor.binds fun _ _ _ _ _ _ us hl => match us, hl with | [_], _ => rfl, PySem.W.mg_of X G a2⟩
  have FNeedTable := fun_mk (st := sNeedTable) l3 c3 k3
  have DNeedTable : Df K mg "need_table" sNeedTable f3 _ ["table"] := ⟨FNeedTable, FNeedTable.binds fun _ _ _ _ _ _ us hl => match us, hl with | [_], _ => rfl, PySem.W.mg_of X G a3⟩
  have FNeedPlayer := fun_mk (st := sNeedPlayer) l4 c4 k4
  have DNeedPlayer : Df K mg "need_player" sNeedPlayer f4 _ ["table", "player"] := ⟨FNeedPlayer, FNeedPlayer.binds fun _ _ _ _ _ _ us hl => match us, hl with | [_, _], _ => rfl, PySem.W.mg_of X G a4⟩
  have FOwedIn := fun_mk (st := sOwedIn) l5 c5 k5
  have DOwedIn : Df K mg "owed_in" sOwedIn f5 _ ["factor", "coins", "player"] := ⟨FOwedIn, FOwedIn.binds fun _ _ _ _ _ _ us hl => match us, hl with | [_, _, _], _ => rfl, PySem.W.mg_of X G a5⟩
  have FNeedLet := fun_mk (st := sNeedLet) l6 c6 k6
  have DNeedLet : Df K mg "need_let" sNeedLet f6 _ ["many"] := ⟨FNeedLet, FNeedLet.binds fun _ _ _ _ _ _ us hl => match us, hl with | [_], _ => rfl, PySem.W.mg_of X G a6⟩
  have FNeedBank := fun_mk (st := sNeedBank) l7 c7 k7
  have DNeedBank : Df K mg "need_bank" sNeedBank f7 _ ["table", "bank", "many"] := ⟨FNeedBank, FNeedBank.binds fun _ _ _ _ _ _ us hl => match us, hl with | [_, _, _], _ => rfl, PySem.W.mg_of X G a7⟩
  have FFloorsOf := fun_mk (st := sFloorsOf) l8 c8 k8
  have DFloorsOf : Df K mg "floors_of" sFloorsOf f8 _ ["players", "bank", "limit"] := ⟨FFloorsOf, FFloorsOf.binds fun _ _ _ _ _ _ us hl => match us, hl with | [_, _, _], _ => rfl, PySem.W.mg_of X G a8⟩
  have FIsLet := fun_mk (st := sIsLet) l9 c9 k9
  have DIsLet : Df K mg "is_let" sIsLet f9 _ ["coins", "floors"] := ⟨FIsLet, FIsLet.binds fun _ _ _ _ _ _ us hl => match us, hl with | [_, _], _ => rfl, PySem.W.mg_of X G a9⟩
  have FCountsIn := fun_mk (st := sCountsIn) l10 c10 k10
  have DCountsIn : Df K mg "counts_in" sCountsIn f10 _ ["factor", "coins", "floors", "many"] := ⟨FCountsIn, FCountsIn.binds fun _ _ _ _ _ _ us hl => match us, hl with | [_, _, _, _], _ => rfl, PySem.W.mg_of X G a10⟩
  have FWordsIn := fun_mk (st := sWordsIn) l11 c11 k11
  have DWordsIn : Df K mg "words_in" sWordsIn f11 _ ["factor", "coins", "floors", "many"] := ⟨FWordsIn, FWordsIn.binds fun _ _ _ _ _ _ us hl => match us, hl with | [_, _, _, _], _ => rfl, PySem.W.mg_of X G a11⟩
  have FBankCount := fun_mk (st := sBankCount) l12 c12 k12
  have DBankCount : Df K mg "bank_count" sBankCount f12 _ ["table", "bank", "many"] := ⟨FBankCount, FBankCount.binds fun _ _ _ _ _ _ us hl => match us, hl with | [_, _, _], _ => rfl, PySem.W.mg_of X G a12⟩
  have FBankWords := fun_mk (st := sBankWords) l13 c13 k13
  have DBankWords : Df K mg "bank_words" sBankWords f13 _ ["table", "bank", "many"] := ⟨FBankWords, FBankWords.binds fun _ _ _ _ _ _ us hl => match us, hl with | [_, _, _], _ => rfl, PySem.W.mg_of X G a13⟩
  have FBankLeast := fun_mk (st := sBankLeast) l14 c14 k14
  have DBankLeast : Df K mg "bank_least" sBankLeast f14 _ ["table", "bank", "many"] := ⟨FBankLeast, FBankLeast.binds fun _ _ _ _ _ _ us hl => match us, hl with | [_, _, _], _ => rfl, PySem.W.mg_of X G a14⟩
  have FTaken := fun_mk (st := sTaken) l15 c15 k15
  have DTaken : Df K mg "_law_taken" sTaken f15 _ ["_law_row", "_law_many"] := ⟨FTaken, FTaken.binds fun _ _ _ _ _ _ us hl => match us, hl with | [_, _], _ => rfl, PySem.W.mg_of X G a15⟩
  have FPick := fun_mk (st := sPick) l16 c16 k16
  have DPick : Df K mg "_law_pick" sPick f16 _ ["_law_row", "_law_things"] := ⟨FPick, FPick.binds fun _ _ _ _ _ _ us hl => match us, hl with | [_, _], _ => rfl, PySem.W.mg_of X G a16⟩
  have FTable := fun_mk (st := sTable) l17 c17 k17
  have DTable : Df K mg "_law_table" sTable f17 _ ["_law_row", "_law_most", "_law_top"] := ⟨FTable, FTable.binds fun _ _ _ _ _ _ us hl => match us, hl with | [_, _, _], _ => rfl, PySem.W.mg_of X G a17⟩
  have FAllWords := fun_mk (st := sAllWords) l18 c18 k18
  have DAllWords : Df K mg "_law_all_words" sAllWords f18 _ ["_law_players", "_law_many"] := ⟨FAllWords, FAllWords.binds fun _ _ _ _ _ _ us hl => match us, hl with | [_, _], _ => rfl, PySem.W.mg_of X G a18⟩
  have FOwed := fun_mk (st := sOwed) l19 c19 k19
  have DOwed : Df K mg "_law_owed" sOwed f19 _ ["_law_factor", "_law_coins", "_law_payer"] := ⟨FOwed, FOwed.binds fun _ _ _ _ _ _ us hl => match us, hl with | [_, _, _], _ => rfl, PySem.W.mg_of X G a19⟩
  have FAlong := fun_mk (st := sAlong) l20 c20 k20
  have DAlong : Df K mg "_law_along" sAlong f20 _ ["_law_factor", "_law_coins", "_law_word"] := ⟨FAlong, FAlong.binds fun _ _ _ _ _ _ us hl => match us, hl with | [_, _, _], _ => rfl, PySem.W.mg_of X G a20⟩
  have FPayers := fun_mk (st := sPayers) l21 c21 k21
  have DPayers : Df K mg "_law_payers" sPayers f21 _ ["_law_factor", "_law_coins"] := ⟨FPayers, FPayers.binds fun _ _ _ _ _ _ us hl => match us, hl with | [_, _], _ => rfl, PySem.W.mg_of X G a21⟩
  have FAlike := fun_mk (st := sAlike) l22 c22 k22
  have DAlike : Df K mg "_law_alike" sAlike f22 _ ["_law_found", "_law_due"] := ⟨FAlike, FAlike.binds fun _ _ _ _ _ _ us hl => match us, hl with | [_, _], _ => rfl, PySem.W.mg_of X G a22⟩
  have FLaw := fun_mk (st := sLaw) l23 c23 k23
  refine ⟨PySem.W.fnOf "law" "law" (defArgs sLaw) (defBody sLaw) (defScope sLaw) .none kV23 dc23 pm23 an23 cd23 ct23, fun s v => .of_eq rfl, fun base _ _ => ?_⟩
  have GIsIn := ok_isIn (P := l.prog) (w := w) (base := base) (k := 0) FIsIn G0
  have GIsFactor := ok_isFactor FIsFactor C0 DIsIn GIsIn
  have GNeedTable := ok_needTable FNeedTable G0 C0 DIsIn GIsIn DIsFactor GIsFactor
  have GNeedPlayer := ok_needPlayer FNeedPlayer G0 DIsIn GIsIn
  have GNeedLet := ok_needLet FNeedLet C0 DIsIn GIsIn
  have GNeedBank := ok_needBank FNeedBank DNeedTable GNeedTable DNeedPlayer GNeedPlayer DNeedLet GNeedLet
  have GOwedIn := ok_owedIn (P := l.prog) (w := w) (base := base) (k := 0) FOwedIn G0
  have GFloorsOf := ok_floors (P := l.prog) (w := w) (base := base) (k := 0) FFloorsOf G0
  have GIsLet := ok_isLet (P := l.prog) (w := w) (base := base) (k := 0) FIsLet G0
  have GCountsIn := ok_counts FCountsIn G0 DOwedIn GOwedIn DIsLet GIsLet
  have GWordsIn := ok_words FWordsIn G0 C0 DCountsIn GCountsIn DOwedIn GOwedIn DIsLet GIsLet
  have GBankCount := ok_bankCount FBankCount G0 DNeedBank GNeedBank DCountsIn GCountsIn DFloorsOf GFloorsOf
  have GBankWords := ok_bankWords FBankWords G0 DNeedBank GNeedBank DWordsIn GWordsIn DFloorsOf GFloorsOf
  have GBankLeast := ok_bankLeast FBankLeast G0 DNeedBank GNeedBank DCountsIn GCountsIn DFloorsOf GFloorsOf
  have GTaken := ok_taken (P := l.prog) (w := w) (base := base) (k := 0) FTaken G0
  have GPick := ok_pick FPick G0 DTaken GTaken
  have GTable := ok_table FTable G0 DTaken GTaken DPick GPick
  have GAllWords := ok_allWords (P := l.prog) (w := w) (base := base) (k := 0) FAllWords G0
  have GOwed := ok_owed' (P := l.prog) (w := w) (base := base) (k := 0) FOwed G0
  have GAlong := ok_along FAlong DOwed GOwed
  have GPayers := ok_payers FPayers G0 DOwed GOwed
  have GAl0 := ok_alikeInt (P := l.prog) (w := w) (base := base) (k := 0) FAlike G0
  have GAl1 := ok_alikeSeq alInt_stays DAlike G0 GAl0
  have GAl2 := ok_alikeSeq (alSeq_stays alInt_stays) DAlike G0 GAl1
  exact ok_law FLaw G0 DTaken GTaken DPick GPick DTable GTable DAllWords GAllWords DAlong GAlong DPayers GPayers DAlike GAl0 GAl1 GAl2 DBankCount GBankCount DBankWords GBankWords DBankLeast GBankLeast
theorem walk {l : PySem.W.OpenLaw} {q : Program} {loose : List Str} {XP : (Str → Option Value) → Heap → Prop} {YP : World → Heap → Prop} {d : DefRec} {K : Params → PySem.W.Frag} (hn : l.most = some 63) (hdf : d.params.defaults = [])
    (hY : ∀ (w : World) (h : Heap), YP w h → (K w.params).In h)
    (F : ∀ (w : World) (mg : Str → Option Value) (fa : Addr) (h : Heap), (K w.params).In h → h.Ns mainGlobals mg → mg d.name = some (.ref fa) →
      ∃ fd : FuncData, (∀ (s : Shared) (u : Value), BindsTo s fd ⟨[u], []⟩ [("_law_script", u)]) ∧ ∀ base : Heap, (K w.params).In base → base.Ns mainGlobals mg → FnOk l.prog w (K w.params) mg base CX0 6 fa fd ["_law_script"] (spLaw (K w.params))) :
    PySem.W.WalkO q loose XP YP l.row.toRowW d [] (fun f vs => PySem.call f vs) :=
  L2.walk_of (n := 63) (k := 6) (x := "_law_script") (CX := fun _ => CX0) (sp := fun w => spLaw (K w.params)) hn (by decide) hdf ⟨rfl, by decide, by decide⟩ hY F
    (fun _ H a ns _ hO hS => ⟨a, ns, rfl, Scr.of hS (scr_new hO a), fun _ => rfl⟩) fun _ _ _ _ _ z => z
end Dp
open PySem PySem.W PyProof.Rows in
set_option maxRecDepth 100000 in
set_option maxHeartbeats 0 in
theorem PySem.Challenge.cw_doublepay_k43_whole_banks_holds : PySem.Challenge.rw_doublepay_k43_whole_banks.Holds := by
  w_on; o_law; k_head; (case hw => w_witness2)
  k_fill
  refine Dp.walk (l := PySem.Challenge.rw_doublepay_k43_whole_banks) rfl rfl (fun w h Y => PySem.W.kIn_of Y) ?F
  case F =>
    intro w mg fa h KX G hmg
    refine' Dp.all_mk KX G hmg ?a1 ?l1 ?c1 ?k1 ?a2 ?l2 ?c2 ?k2 ?a3 ?l3 ?c3 ?k3 ?a4 ?l4 ?c4 ?k4 ?a5 ?l5 ?c5 ?k5 ?a6 ?l6 ?c6 ?k6 ?a7 ?l7 ?c7 ?k7 ?a8 ?l8 ?c8 ?k8 ?a9 ?l9 ?c9 ?k9 ?a10 ?l10 ?c10 ?k10 ?a11 ?l11 ?c11 ?k11 ?a12 ?l12 ?c12 ?k12 ?a13 ?l13 ?c13 ?k13 ?a14 ?l14 ?c14 ?k14 ?a15 ?l15 ?c15 ?k15 ?a16 ?l16 ?c16 ?k16 ?a17 ?l17 ?c17 ?k17 ?a18 ?l18 ?c18 ?k18 ?a19 ?l19 ?c19 ?k19 ?a20 ?l20 ?c20 ?k20 ?a21 ?l21 ?c21 ?k21 ?a22 ?l22 ?c22 ?k22 ?a23 ?l23 ?c23 ?k23 ?z1 ?z2 ?z3 ?z4 ?z5 ?z6 ?z7 ?z8 ?z9 ?z10 ?z11 ?z12 ?z13 ?q1 ?q2 ?q3 ?q4 ?q5 ?q6
    (case a1 => k_is)
    (case l1 => k_is)
    (case c1 => k_is)
    (case k1 => k_is)
    (case a2 => k_is)
    (case l2 => k_is)
    (case c2 => k_is)
    (case k2 => k_is)
    (case a3 => k_is)
    (case l3 => k_is)
    (case c3 => k_is)
    (case k3 => k_is)
    (case a4 => k_is)
    (case l4 => k_is)
    (case c4 => k_is)
    (case k4 => k_is)
    (case a5 => k_is)
    (case l5 => k_is)
    (case c5 => k_is)
    (case k5 => k_is)
    (case a6 => k_is)
    (case l6 => k_is)
    (case c6 => k_is)
    (case k6 => k_is)
    (case a7 => k_is)
    (case l7 => k_is)
    (case c7 => k_is)
    (case k7 => k_is)
    (case a8 => k_is)
    (case l8 => k_is)
    (case c8 => k_is)
    (case k8 => k_is)
    (case a9 => k_is)
    (case l9 => k_is)
    (case c9 => k_is)
    (case k9 => k_is)
    (case a10 => k_is)
    (case l10 => k_is)
    (case c10 => k_is)
    (case k10 => k_is)
    (case a11 => k_is)
    (case l11 => k_is)
    (case c11 => k_is)
    (case k11 => k_is)
    (case a12 => k_is)
    (case l12 => k_is)
    (case c12 => k_is)
    (case k12 => k_is)
    (case a13 => k_is)
    (case l13 => k_is)
    (case c13 => k_is)
    (case k13 => k_is)
    (case a14 => k_is)
    (case l14 => k_is)
    (case c14 => k_is)
    (case k14 => k_is)
    (case a15 => k_is)
    (case l15 => k_is)
    (case c15 => k_is)
    (case k15 => k_is)
    (case a16 => k_is)
    (case l16 => k_is)
    (case c16 => k_is)
    (case k16 => k_is)
    (case a17 => k_is)
    (case l17 => k_is)
    (case c17 => k_is)
    (case k17 => k_is)
    (case a18 => k_is)
    (case l18 => k_is)
    (case c18 => k_is)
    (case k18 => k_is)
    (case a19 => k_is)
    (case l19 => k_is)
    (case c19 => k_is)
    (case k19 => k_is)
    (case a20 => k_is)
    (case l20 => k_is)
    (case c20 => k_is)
    (case k20 => k_is)
    (case a21 => k_is)
    (case l21 => k_is)
    (case c21 => k_is)
    (case k21 => k_is)
    (case a22 => k_is)
    (case l22 => k_is)
    (case c22 => k_is)
    (case k22 => k_is)
    (case a23 => k_is)
    (case l23 => k_is)
    (case c23 => k_is)
    (case k23 => k_is)
    (case z1 => k_is)
    (case z2 => k_is)
    (case z3 => k_is)
    (case z4 => k_is)
    (case z5 => k_is)
    (case z6 => k_is)
    (case z7 => k_is)
    (case z8 => k_is)
    (case z9 => k_is)
    (case z10 => k_is)
    (case z11 => k_is)
    (case z12 => k_is)
    (case z13 => k_is)
    (case q1 => k_is)
    (case q2 => k_is)
    (case q3 => k_is)
    (case q4 => k_is)
    (case q5 => k_is)
    (case q6 => k_is)
