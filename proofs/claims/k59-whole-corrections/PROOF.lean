import PyProof.Rows.All
import Wide.All
import OpenK.AllK
import Wide.FinOn
import HandS.ForMost
import KE.KDictKeyed
import KE.KDictWalk
import HandS.Deep
import HandS.Conv
import HandS.IsInst
import HandS.Flow
import HandS.Walk
import KE.DataMinMax
import KE.KDictCopyH
import HandS.DictComp
import KE.SortData
import HandS.Text
import KE.GoesEnum
import KE.GoesMore
import PySem.Challenge.RW_syncedwords_k59_whole_corrections
set_option Elab.async false
set_option linter.all false
set_option autoImplicit false
set_option maxRecDepth 100000
namespace K59
open PySem PySem.Spec PyProof.Rows

structure KeysV (w : World) (h : Heap) (es : Array DictEntry) (ks : List NestedKey) : Prop where
  size : es.size = ks.length
  row : ∀ (i : Nat) (e : DictEntry), es[i]? = some e → ∃ k, ks[i]? = some k ∧ e.hash = k.hash w ∧ NestedIs h k e.key ∧ k.depth ≤ 8
  nd : ks.Nodup

section
variable {prog : Program} {w : World} {A : Around} {E : Value → Shared → Prop} {s : Shared}
theorem wp_ite {α : Type} {M : Model} {c : Prop} [Decidable c] {a b : Sem α} {Q : α → Shared → Prop} (h1 : c → wpAny M A a Q E s) (h2 : ¬ c → wpAny M A b Q E s) : wpAny M A (if c then a else b) Q E s := by
  by_cases h : c
  · rw [if_pos h]; exact h1 h
  · rw [if_neg h]; exact h2 h
theorem wp_if0 {α : Type} {M : Model} {c : Prop} [Decidable c] {a b : Sem α} {Q : α → Shared → Prop} (h : ¬ c) (h2 : wpAny M A b Q E s) : wpAny M A (if c then a else b) Q E s := by
  rw [if_neg h]; exact h2
theorem KeysV.one {h : Heap} {es : Array DictEntry} {ks : List NestedKey} (KS : KeysV w h es ks) {i j : Nat} {k : NestedKey} (a : ks[i]? = some k) (b : ks[j]? = some k) : i = j :=
  (List.getElem?_inj (List.getElem?_eq_some_iff.mp a).1 KS.nd).mp (a.trans b.symm)
theorem KeysV.ent {h : Heap} {es : Array DictEntry} {ks : List NestedKey} (KS : KeysV w h es ks) {j : Nat} {k : NestedKey} (a : ks[j]? = some k) : ∃ e, es[j]? = some e ∧ e.hash = k.hash w ∧ NestedIs h k e.key := by
  have hj : j < es.size := by rw [KS.size]; exact (List.getElem?_eq_some_iff.mp a).1
  obtain ⟨k', h1, h2, h3, _⟩ := KS.row j es[j] (Array.getElem?_eq_getElem hj)
  rw [a] at h1
  cases h1
  exact ⟨_, Array.getElem?_eq_getElem hj, h2, h3⟩
/-- the places that are looked at -/
abbrev spots (es : Array DictEntry) (z : Int) : List Nat := placesWithHash es.size (fun i => es[i]?.map (·.hash)) z
theorem spots_lt {es : Array DictEntry} {z : Int} {i : Nat} (h : i ∈ spots es z) : i < es.size := by
  have := (List.mem_filter.mp h).1
  exact List.mem_range.mp this
theorem spots_nd (es : Array DictEntry) (z : Int) : (spots es z).Nodup := List.nodup_range.filter _
theorem spots_of {h : Heap} {es : Array DictEntry} {ks : List NestedKey} (KS : KeysV w h es ks) {j : Nat} {k : NestedKey} (a : ks[j]? = some k) : j ∈ spots es (k.hash w) := by
  obtain ⟨e, h1, h2, _⟩ := KS.ent a
  refine List.mem_filter.mpr ⟨List.mem_range.mpr (Array.getElem?_eq_some_iff.mp h1).1, ?_⟩
  simp [h1, h2]
/-- two keys asked for == -/
theorem same_V {k k' : NestedKey} {u v : Value} {Q : Bool → Shared → Prop} (hu : A.units + 8 < cLine) (a : NestedIs s.heap k' v) (b : NestedIs s.heap k u) (d : k.depth ≤ 8) (h : Q (decide (k' = k)) s) : wpAny (model prog w) A (eqBool v u) Q E s :=
  eqAt_key k' k A s v u a b (by omega) _ _ _ _ (by rw [← NestedKey.decide_eq]; exact h)
theorem walk_V {d : Addr} {o : Obj} {es : Array DictEntry} {ep : Nat} {ks : List NestedKey} {k : NestedKey} {u : Value} {Q : Option Nat → Shared → Prop} (hu : A.units + 8 < cLine)
    (hk : NestedIs s.heap k u) (hkd : k.depth ≤ 8) (ho : s.heap.get? d = some o) (hd : o.data = .dict es ep) (KS : KeysV w s.heap es ks)
    (hnone : k ∉ ks → Q none s) (hsome : ∀ j, ks[j]? = some k → Q (some j) s) : wpAny (model prog w) A (dictWalkPlain d u (k.hash w) es (spots es (k.hash w))) Q E s := by
  unfold dictWalkPlain
  refine wpAny_bind ?_
  refine wpAny_forIn_list _ (fun rest b s' => s' = s ∧ b = (none, ()) ∧ (∀ i ∈ rest, i < es.size) ∧ ∀ j, ks[j]? = some k → j ∈ rest) _ ?_ ?_ _ _ ⟨rfl, rfl, fun i hi => spots_lt hi, fun j hj => spots_of KS hj⟩
  · rintro x rest b s' ⟨rfl, rfl, hlt, hin⟩
    have hx := hlt x List.mem_cons_self
    obtain ⟨k', h1, h2, h3, h4⟩ := KS.row x es[x] (Array.getElem?_eq_getElem hx)
    have next : k' ≠ k → ∀ j, ks[j]? = some k → j ∈ rest := fun ne j hj => by
      rcases List.mem_cons.mp (hin j hj) with e | e
      · subst e; rw [h1] at hj; cases hj; exact absurd rfl ne
      · exact e
    have low : ∀ i ∈ rest, i < es.size := fun i hi => hlt i (List.mem_cons_of_mem _ hi)
    simp only [Array.getElem?_eq_getElem hx]
    by_cases hh : (es[x].hash == k.hash w) = true
    · rw [if_pos hh]
      refine wpAny_bind (wpAny_dictEpoch ho hd (wpAny_bind (same_V hu h3 hk hkd (wpAny_bind (wpAny_dictEpoch ho hd ?_)))))
      show wpAny _ _ (if (ep != ep) = true then _ else _) _ E _
      rw [if_neg (by simp)]
      by_cases e : k' = k
      · rw [decide_eq_true e, if_pos rfl]
        refine wpAny_bind (wpAny_rule (wpAny_pure ?_))
        exact wpAny_pure (hsome x (by rw [h1, e]))
      · rw [decide_eq_false e, if_neg (by simp)]
        exact wpAny_bind (wpAny_rule (wpAny_pure ⟨rfl, rfl, low, next e⟩))
    · rw [if_neg hh]
      refine wpAny_pure ⟨rfl, rfl, low, next fun e => hh ?_⟩
      rw [h2, e]; simp
  · rintro b s' ⟨rfl, rfl, _, hin⟩
    refine wpAny_pure (hnone fun hm => ?_)
    obtain ⟨j, hj⟩ := List.mem_iff_getElem?.mp hm
    exact absurd (hin j hj) (by simp)
theorem tells_V {u : Value} {k : NestedKey} {stored : List Value} {Q : Bool → Shared → Prop} (hk : NestedIs s.heap k u) (hkd : k.depth ≤ 8) (hst : ∀ v ∈ stored, ∃ k', NestedIs s.heap k' v ∧ k'.depth ≤ 8) (h : Q false s) :
    wpAny (model prog w) A (tableMayTell u stored) Q E s := by
  unfold tableMayTell
  split
  · exact wpAny_pure h
  · refine wpAny_bind (quiet_key k u 8 s hk hkd A E _ ?_)
    simp only [Bool.not_true, Bool.false_eq_true, if_false]
    refine wpAny_bind ?_
    refine wpAny_forIn_list _ (fun rest r s' => s' = s ∧ r = (none, ()) ∧ ∀ v ∈ rest, ∃ k', NestedIs s.heap k' v ∧ k'.depth ≤ 8) _ ?_ ?_ _ _ ⟨rfl, rfl, hst⟩
    · rintro x rest r s' ⟨rfl, rfl, hr⟩
      obtain ⟨k', b1, b2⟩ := hr x List.mem_cons_self
      refine wpAny_bind (quiet_key k' x 8 _ b1 b2 A E _ ?_)
      simp only [Bool.not_true, Bool.false_eq_true, if_false]
      exact wpAny_pure ⟨rfl, rfl, fun v hv => hr v (List.mem_cons_of_mem _ hv)⟩
    · rintro r s' ⟨rfl, rfl, _⟩
      exact wpAny_pure h
theorem text_V {d : Addr} {o : Obj} {es : Array DictEntry} {ep : Nat} {ks : List NestedKey} {x : Str} {t : Tok} {Q : Option Nat → Shared → Prop} (hu : A.units + 8 < cLine)
    (ho : s.heap.get? d = some o) (hd : o.data = .dict es ep) (KS : KeysV w s.heap es ks)
    (hnone : NestedKey.text x ∉ ks → Q none s) (hsome : ∀ j, ks[j]? = some (NestedKey.text x) → Q (some j) s) : wpAny (model prog w) A (foundByValue d (.str x t) es x) Q E s := by
  unfold foundByValue
  cases hf : es.findIdx? (·.key.isStr x) with
  | none =>
    refine wpAny_pure (hnone fun hm => ?_)
    obtain ⟨j, hj⟩ := List.mem_iff_getElem?.mp hm
    obtain ⟨e, h1, h2, h3⟩ := KS.ent hj
    have hall := Array.findIdx?_eq_none_iff.mp hf e (Array.mem_of_getElem? h1)
    generalize hv : e.key = v at h3
    rw [hv] at hall
    cases h3
    simp [Value.isStr] at hall
  | some i =>
    obtain ⟨hi, hp, _⟩ := Array.findIdx?_eq_some_iff_getElem.mp hf
    obtain ⟨k', h1, h2, h3, h4⟩ := KS.row i es[i] (Array.getElem?_eq_getElem hi)
    have ek : k' = .text x := by
      generalize hv : es[i].key = v at h3
      rw [hv] at hp
      cases h3 <;> simp [Value.isStr] at hp
      rw [hp]
    subst ek
    simp only [Array.getElem?_eq_getElem hi]
    refine wpAny_bind (wpAny_dictEpoch ho hd (wpAny_bind (same_V hu h3 (NestedIs.text x t) (by simp [NestedKey.depth]) (wpAny_bind (wpAny_dictEpoch ho hd ?_)))))
    show wpAny _ _ (if (ep != ep) = true then _ else _) _ E _
    rw [if_neg (by simp), decide_eq_true rfl, if_pos rfl]
    exact wpAny_bind (wpAny_rule (wpAny_pure (hsome i h1)))
theorem find_V {d : Addr} {o : Obj} {es : Array DictEntry} {ep : Nat} {ks : List NestedKey} {k : NestedKey} {u : Value} {Q : Option Nat → Shared → Prop} (hu : A.units + 8 < cLine)
    (hk : NestedIs s.heap k u) (hkd : k.depth ≤ 8) (ho : s.heap.get? d = some o) (hd : o.data = .dict es ep) (KS : KeysV w s.heap es ks)
    (hnone : k ∉ ks → Q none s) (hsome : ∀ j, ks[j]? = some k → Q (some j) s) : wpAny (model prog w) A (dictFind d u (k.hash w)) Q E s := by
  have stored : ∀ v ∈ (spots es (k.hash w)).filterMap (fun i => es[i]?.map (·.key)), ∃ k', NestedIs s.heap k' v ∧ k'.depth ≤ 8 := by
    intro v hv
    obtain ⟨i, hi, he⟩ := List.mem_filterMap.mp hv
    have hl := spots_lt hi
    rw [Array.getElem?_eq_getElem hl] at he
    obtain rfl : es[i].key = v := by simpa using he
    obtain ⟨k', _, _, h3, h4⟩ := KS.row i es[i] (Array.getElem?_eq_getElem hl)
    exact ⟨k', h3, h4⟩
  have plain := walk_V (prog := prog) (E := E) hu hk hkd ho hd KS hnone hsome
  have byText : ∀ (x : Str) (t : Tok), k = .text x → u = .str x t → wpAny (model prog w) A (foundByValue d u es x) Q E s := by
    intro x t e1 e2
    subst e1 e2
    exact text_V hu ho hd KS hnone hsome
  have fresh : ¬ (es.any fun e => e.key == u && e.hash != k.hash w) = true := by
    rw [← Array.any_toList, List.any_eq_true]
    rintro ⟨e, hin, hc⟩
    obtain ⟨i, hi⟩ := List.mem_iff_getElem?.mp hin
    obtain ⟨k', _, h2, h3, _⟩ := KS.row i e (by rw [← Array.getElem?_toList]; exact hi)
    simp only [Bool.and_eq_true, bne_iff_ne, ne_eq] at hc
    obtain ⟨c1, c2⟩ := hc
    have c3 : e.key = u := eq_of_beq c1
    rw [c3] at h3
    exact c2 (by rw [h2, NestedIs.inj _ _ _ h3 hk])
  -- what holds between two turns: r is what is left to look at
  obtain ⟨T, hT⟩ : ∃ T : Option Nat → List Nat → Prop, ∀ hit r, T hit r ↔ (r.Nodup ∧ (∀ i ∈ r, i < es.size) ∧ ((hit = none ∧ ∀ j : Nat, ks[j]? = some k → j ∈ r) ∨ ∃ j : Nat, hit = some j ∧ ks[j]? = some k ∧ j ∉ r)) := ⟨_, fun _ _ => Iff.rfl⟩
  have t0 : T none (spots es (k.hash w)) := (hT _ _).mpr ⟨spots_nd _ _, fun i hi => spots_lt hi, .inl ⟨rfl, fun j hj => spots_of KS hj⟩⟩
  have tlt : ∀ {hit : Option Nat} {x : Nat} {r : List Nat}, T hit (x :: r) → x < es.size := fun h => ((hT _ _).mp h).2.1 _ List.mem_cons_self
  have tmiss : ∀ {hit : Option Nat} {x : Nat} {r : List Nat}, T hit (x :: r) → ks[x]? ≠ some k → T hit r := fun {hit x r} h ne => by
    obtain ⟨h1, h2, h3⟩ := (hT _ _).mp h
    refine (hT _ _).mpr ⟨(List.nodup_cons.mp h1).2, fun i hi => h2 i (List.mem_cons_of_mem _ hi), ?_⟩
    rcases h3 with ⟨e, h3⟩ | ⟨j, e, h3, h4⟩
    · refine .inl ⟨e, fun j hj => ?_⟩
      rcases List.mem_cons.mp (h3 j hj) with z | z
      · subst z; exact absurd hj ne
      · exact z
    · exact .inr ⟨j, e, h3, fun z => h4 (List.mem_cons_of_mem _ z)⟩
  have thit : ∀ {hit : Option Nat} {x : Nat} {r : List Nat}, T hit (x :: r) → ks[x]? = some k → hit = none ∧ T (some x) r := fun {hit x r} h eq => by
    obtain ⟨h1, h2, h3⟩ := (hT _ _).mp h
    obtain ⟨n1, n2⟩ := List.nodup_cons.mp h1
    rcases h3 with ⟨e, h3⟩ | ⟨j, e, h3, h4⟩
    · exact ⟨e, (hT _ _).mpr ⟨n2, fun i hi => h2 i (List.mem_cons_of_mem _ hi), .inr ⟨x, rfl, eq, n1⟩⟩⟩
    · exact absurd List.mem_cons_self (KS.one h3 eq ▸ h4)
  have tend : ∀ {hit : Option Nat}, T hit [] → Q hit s := fun {hit} h => by
    obtain ⟨_, _, h3⟩ := (hT _ _).mp h
    rcases h3 with ⟨e, h3⟩ | ⟨j, e, h3, _⟩
    · subst e
      refine hnone fun hm => ?_
      obtain ⟨j, hj⟩ := List.mem_iff_getElem?.mp hm
      exact absurd (h3 j hj) (by simp)
    · subst e; exact hsome j h3
  have row : ∀ (x : Nat) (hx : x < es.size), ∃ k', ks[x]? = some k' ∧ es[x].hash = k'.hash w ∧ NestedIs s.heap k' es[x].key := fun x hx => by
    obtain ⟨k', r1, r2, r3, _⟩ := KS.row x es[x] (Array.getElem?_eq_getElem hx)
    exact ⟨k', r1, r2, r3⟩
  clear hT KS
  unfold dictFind
  try with_reducible refine wpAny_holding ?_
  refine wpAny_bind (wpAny_dictEntries ho hd ?_)
  have hk' := hk
  cases hk'
  all_goals dsimp only
  case' text x t =>
    by_cases ha : (es.all fun e => isExactStrKey e.key) = true
    · rw [if_pos ha]
      exact byText x t rfl rfl
    rw [if_neg ha]
    by_cases hp : ((Value.str x t :: (spots es ((NestedKey.text x).hash w)).filterMap (fun i => es[i]?.map (·.key))).all carriedByValue) = true
    · rw [if_pos hp]
      exact plain
    rw [if_neg hp]
  case' tup a o' vs n ks' h1 h2 h3 h4 =>
    rw [if_neg (show ¬ ((Value.ref a :: (spots es ((NestedKey.tup ks').hash w)).filterMap (fun i => es[i]?.map (·.key))).all carriedByValue) = true by simp [carriedByValue])]
    rw [if_neg fresh]
  case' none =>
    by_cases hp : ((Value.none :: (spots es (NestedKey.none.hash w)).filterMap (fun i => es[i]?.map (·.key))).all carriedByValue) = true
    · rw [if_pos hp]
      exact plain
    rw [if_neg hp]
  case' bool b i e =>
    by_cases hp : ((Value.bool b :: (spots es ((NestedKey.num i).hash w)).filterMap (fun i => es[i]?.map (·.key))).all carriedByValue) = true
    · rw [if_pos hp]
      exact plain
    rw [if_neg hp]
  case' int i t =>
    by_cases hp : ((Value.int i t :: (spots es ((NestedKey.num i).hash w)).filterMap (fun i => es[i]?.map (·.key))).all carriedByValue) = true
    · rw [if_pos hp]
      exact plain
    rw [if_neg hp]
  all_goals
    refine wp_ite (fun _ => wpAny_bind (wpAny_pure ?_)) (fun _ => wpAny_bind (tells_V hk hkd stored ?_))
  all_goals
    refine wp_if0 (by simp) ?_
    refine wpAny_bind ?_
    refine wpAny_forIn_list _ (fun rest b s' => s' = s ∧ b.1 = none ∧ T b.2 rest) _ ?_ ?_ _ _ ⟨rfl, rfl, t0⟩
    · rintro x rest ⟨b1, b2⟩ s' ⟨rfl, rfl, ht⟩
      have hx := tlt ht
      obtain ⟨k', h1, h2, h3⟩ := row x hx
      simp only [Array.getElem?_eq_getElem hx]
      refine wp_ite (fun hh => ?_) (fun hh => ?_)
      · refine wpAny_bind (wpAny_dictEpoch ho hd (wpAny_bind (same_V hu h3 hk hkd (wpAny_bind (wpAny_dictEpoch ho hd ?_)))))
        refine wp_if0 (by simp) ?_
        refine wp_ite (fun e => ?_) (fun e => ?_)
        · have e := of_decide_eq_true e
          subst e
          obtain ⟨n1, n2⟩ := thit ht h1
          subst n1
          refine wp_if0 (by simp) ?_
          refine wpAny_bind (wpAny_rule ?_)
          exact wp_ite (fun _ => wpAny_pure (wpAny_pure (hsome x h1))) (fun _ => wpAny_pure ⟨rfl, rfl, n2⟩)
        · have e := of_decide_eq_false (Bool.eq_false_iff.mpr e)
          refine wpAny_bind (wpAny_rule ?_)
          exact wp_if0 (by simp) (wpAny_pure ⟨rfl, rfl, tmiss ht (by rw [h1]; exact fun z => e (Option.some.inj z))⟩)
      · refine wpAny_pure ⟨rfl, rfl, tmiss ht fun z => hh ?_⟩
        rw [h1] at z
        cases z
        rw [h2]; simp
    · rintro ⟨b1, b2⟩ s' ⟨rfl, rfl, ht⟩
      exact wpAny_pure (tend ht)

def lookV (es : Array DictEntry) (ks : List NestedKey) (k : NestedKey) : Option Value := (ks.idxOf? k).bind fun j => es[j]?.map (·.val)
theorem idx_some {ks : List NestedKey} (nd : ks.Nodup) {j : Nat} {k : NestedKey} (h : ks[j]? = some k) : ks.idxOf? k = some j := by
  induction ks generalizing j with
  | nil => simp at h
  | cons a r ih =>
    obtain ⟨n1, n2⟩ := List.nodup_cons.mp nd
    rw [List.idxOf?_cons]
    cases j with
    | zero =>
      simp only [List.getElem?_cons_zero, Option.some.injEq] at h
      subst h
      simp
    | succ j =>
      simp only [List.getElem?_cons_succ] at h
      have ne : (a == k) = false := beq_eq_false_iff_ne.mpr fun e => n1 (e ▸ List.mem_of_getElem? h)
      rw [ne, ih n2 h]
      rfl
theorem idx_none {ks : List NestedKey} {k : NestedKey} (h : k ∉ ks) : ks.idxOf? k = none := by
  induction ks with
  | nil => rfl
  | cons a r ih =>
    simp only [List.mem_cons, not_or] at h
    rw [List.idxOf?_cons, beq_eq_false_iff_ne.mpr (fun e => h.1 e.symm), ih h.2]
    rfl
section
variable {d : Addr} {es : Array DictEntry} {ep : Nat} {ks : List NestedKey} {k : NestedKey} {u : Value}
theorem dget_V {Q : Option Value → Shared → Prop} (hu : A.units + 8 < cLine) (hk : NestedIs s.heap k u) (hkd : k.depth ≤ 8) (hm : s.heap.DictRaw d es ep) (KS : KeysV w s.heap es ks)
    (h : Q (lookV es ks k) { s with toks := s.toks + k.draws }) : wpAny (model prog w) A (dictGet d u) Q E s := by
  obtain ⟨o, ho, hc, hd⟩ := hm
  unfold dictGet
  try with_reducible refine wpAny_holding ?_
  refine wpAny_bind (pyHash_key k u A s _ hk (by omega) (wpAny_bind (find_V (s := { s with toks := s.toks + k.draws }) hu hk hkd ho hd KS ?_ ?_)))
  · intro hno
    unfold lookV at h
    rw [idx_none hno] at h
    exact wpAny_pure h
  · intro j hj
    unfold lookV at h
    rw [idx_some KS.nd hj] at h
    refine wpAny_bind (wpAny_dictEntries (s := { s with toks := s.toks + k.draws }) ho hd ?_)
    exact wpAny_pure h
theorem has_V (KS : KeysV w s.heap es ks) : (lookV es ks k).isSome = decide (k ∈ ks) := by
  unfold lookV
  by_cases hm : k ∈ ks
  · obtain ⟨j, hj⟩ := List.mem_iff_getElem?.mp hm
    obtain ⟨e, h1, _⟩ := KS.ent hj
    rw [idx_some KS.nd hj, decide_eq_true hm]
    simp [h1]
  · rw [idx_none hm, decide_eq_false hm]
    rfl
theorem holds_V {Q : Bool → Shared → Prop} (hu : A.units + 9 < cLine) (hk : NestedIs s.heap k u) (hkd : k.depth ≤ 8) (hs : (d == sysModules) = false) (hm : s.heap.DictRaw d es ep) (KS : KeysV w s.heap es ks)
    (h : Q (decide (k ∈ ks)) { s with toks := s.toks + k.draws }) : wpAny (model prog w) A (contains (.ref d) u) Q E s := by
  refine wpAny_contains_slot hm.typeIs F.slot_dict_contains ?_
  refine call_meetsIn F.slot_dict_contains hm.typeIs F.entry_dict_contains (F.args_dict_contains_2 _ _) (S := fun A' R s' => A' = A ∧ s' = s ∧ R (.ok (.ret (.bool (decide (k ∈ ks))))) { s with toks := s.toks + k.draws }) (fun A' R s' hS => ?_) ⟨rfl, rfl, wpAny_truthy_bool h⟩
  obtain ⟨rfl, rfl, hq⟩ := hS
  have hu' : A'.in1.units + 8 < cLine := by show A'.units + 1 + 8 < cLine; omega
  show wpAny _ _ (dictGet d u >>= _) _ _ s'
  refine wpAny_bind (dget_V hu' hk hkd hm KS ?_)
  rw [← has_V KS] at hq
  cases hf : lookV es ks k with
  | some p =>
    rw [hf] at hq
    exact wpAny_pure hq
  | none =>
    rw [hf] at hq
    exact wpAny_bind (wpAny_pendingKey_other hs (wpAny_pure hq))
theorem in_V {Q : Value → Shared → Prop} (hu : A.units + 9 < cLine) (hk : NestedIs s.heap k u) (hkd : k.depth ≤ 8) (hs : (d == sysModules) = false) (hm : s.heap.DictRaw d es ep) (KS : KeysV w s.heap es ks)
    (h : Q (.bool (decide (k ∈ ks))) { s with toks := s.toks + k.draws }) : wpAny (model prog w) A (compareOp .In u (.ref d)) Q E s :=
  show wpAny _ _ (do return .bool (← contains (.ref d) u)) Q E s from wpAny_bind (holds_V hu hk hkd hs hm KS (wpAny_pure h))
theorem notIn_V {Q : Value → Shared → Prop} (hu : A.units + 9 < cLine) (hk : NestedIs s.heap k u) (hkd : k.depth ≤ 8) (hs : (d == sysModules) = false) (hm : s.heap.DictRaw d es ep) (KS : KeysV w s.heap es ks)
    (h : Q (.bool (!decide (k ∈ ks))) { s with toks := s.toks + k.draws }) : wpAny (model prog w) A (compareOp .NotIn u (.ref d)) Q E s :=
  show wpAny _ _ (do return .bool (!(← contains (.ref d) u))) Q E s from wpAny_bind (holds_V hu hk hkd hs hm KS (wpAny_pure h))
theorem item_V {v : Value} {Q : Value → Shared → Prop} (hu : A.units + 9 < cLine) (hk : NestedIs s.heap k u) (hkd : k.depth ≤ 8) (hm : s.heap.DictRaw d es ep) (KS : KeysV w s.heap es ks) (hv : lookV es ks k = some v)
    (h : Q v { s with toks := s.toks + k.draws }) : wpAny (model prog w) A (getItem (.ref d) u) Q E s := by
  unfold getItem
  try with_reducible refine wpAny_holding ?_
  refine wpAny_bind (wpAny_sequenceKey hm.typeIs (by decide) ?_)
  have hu' : A.in1.units + 8 < cLine := by show A.units + 1 + 8 < cLine; omega
  refine wpAny_bind (wpAny_callSpecial?_slot (name := Str.ofString "__getitem__") hm.typeIs slot_dict_getitem
    (wpAny_call_entry slot_dict_getitem hm.typeIs entry_dict_getitem ?_ (args_dict_getitem _ _)))
  show wpAny _ _ (dictGet d u >>= _) _ _ s
  refine wpAny_bind (dget_V hu' hk hkd hm KS ?_)
  rw [hv]
  exact wpAny_pure ⟨v, rfl, wpAny_pure h⟩
/-- behind a store -/
structure PutV (w : World) (es : Array DictEntry) (ks : List NestedKey) (k : NestedKey) (u v : Value) (es' : Array DictEntry) (ks' : List NestedKey) : Prop where
  old : ∀ j : Nat, ks[j]? = some k → es' = es.modify j (fun e => { e with val := v }) ∧ ks' = ks
  new : k ∉ ks → es' = es.push ⟨k.hash w, u, v⟩ ∧ ks' = ks ++ [k]
theorem PutV.keys {h : Heap} {es' : Array DictEntry} {ks' : List NestedKey} {v : Value} (P : PutV w es ks k u v es' ks') (KS : KeysV w h es ks) (hk : NestedIs h k u) (hkd : k.depth ≤ 8) : KeysV w h es' ks' := by
  by_cases hm : k ∈ ks
  · obtain ⟨j, hj⟩ := List.mem_iff_getElem?.mp hm
    obtain ⟨rfl, rfl⟩ := P.old j hj
    refine ⟨by rw [Array.size_modify]; exact KS.size, fun i e he => ?_, KS.nd⟩
    rw [Array.getElem?_modify] at he
    split at he
    · rename_i hij
      subst hij
      cases he' : es[j]? with
      | none => rw [he'] at he; cases he
      | some e0 =>
        rw [he'] at he
        obtain ⟨k', a1, a2, a3, a4⟩ := KS.row j e0 he'
        cases he
        exact ⟨k', a1, a2, a3, a4⟩
    · exact KS.row i e he
  · obtain ⟨rfl, rfl⟩ := P.new hm
    refine ⟨by rw [Array.size_push, List.length_append, KS.size]; rfl, fun i e he => ?_, ?_⟩
    · rw [Array.getElem?_push] at he
      split at he
      · rename_i hi
        cases he
        exact ⟨k, by rw [hi, KS.size]; simp, rfl, hk, hkd⟩
      · obtain ⟨k', a1, a2, a3, a4⟩ := KS.row i e he
        exact ⟨k', by rw [List.getElem?_append_left (List.getElem?_eq_some_iff.mp a1).1]; exact a1, a2, a3, a4⟩
    · rw [List.nodup_append]
      refine ⟨KS.nd, by simp, fun x hx y hy => ?_⟩
      have : y = k := by simpa using hy
      rw [this]
      exact fun e => hm (e ▸ hx)
theorem dset_V {v : Value} {Q : Unit → Shared → Prop} (hu : A.units + 8 < cLine) (hk : NestedIs s.heap k u) (hkd : k.depth ≤ 8) (hm : s.heap.DictRaw d es ep) (KS : KeysV w s.heap es ks) (hz : es.size ≤ sizeLine)
    (hQ : ∀ h' es' ks' ep', PutV w es ks k u v es' ks' → h'.DictRaw d es' ep' → Heap.SameBut d s.heap h' → Q () { s with heap := h', toks := s.toks + k.draws }) : wpAny (model prog w) A (dictSet d u v) Q E s := by
  obtain ⟨o, ho, hc, hd⟩ := hm
  unfold dictSet
  try with_reducible refine wpAny_holding ?_
  refine wpAny_bind (pyHash_key k u A s _ hk (by omega) ?_)
  unfold dictSetHashed
  try with_reducible refine wpAny_holding ?_
  refine wpAny_bind (find_V (s := { s with toks := s.toks + k.draws }) hu hk hkd ho hd KS ?_ ?_)
  · intro hno
    refine wpAny_bind (wpAny_rule (wpAny_updateDictKeys (hz := hz) (s := { s with toks := s.toks + k.draws }) ho hd ?_))
    exact hQ _ _ (ks ++ [k]) _ ⟨fun j hj => absurd (List.mem_of_getElem? hj) hno, fun _ => ⟨rfl, rfl⟩⟩ ⟨_, Heap.get?_update_self _ ho (Obj.isFreed_of_dict (Obj.data_mapDictKeys hd _)), hc.mapDictKeys _, Obj.data_mapDictKeys hd _⟩ (Heap.SameBut.update ..)
  · intro j hj
    refine wpAny_bind (wpAny_rule (wpAny_bind (wpAny_updateDict (s := { s with toks := s.toks + k.draws }) ho hd (wpAny_point ?_))))
    refine hQ _ _ ks _ ⟨fun i hi => ?_, fun n => absurd (List.mem_of_getElem? hj) n⟩ ⟨_, Heap.get?_update_self _ ho (Obj.isFreed_of_dict (Obj.data_mapDict hd _)), hc.mapDict _, Obj.data_mapDict hd _⟩ (Heap.SameBut.update ..)
    rw [KS.one hi hj]
    exact ⟨rfl, rfl⟩
theorem setItem_V {v : Value} {Q : Unit → Shared → Prop} (hu : A.units + 9 < cLine) (hk : NestedIs s.heap k u) (hkd : k.depth ≤ 8) (hm : s.heap.DictRaw d es ep) (KS : KeysV w s.heap es ks) (hz : es.size ≤ sizeLine)
    (hQ : ∀ h' es' ks' ep', PutV w es ks k u v es' ks' → h'.DictRaw d es' ep' → Heap.SameBut d s.heap h' → Q () { s with heap := h', toks := s.toks + k.draws }) : wpAny (model prog w) A (setItem (.ref d) u v) Q E s := by
  unfold setItem
  try with_reducible refine wpAny_holding ?_
  refine wpAny_bind (wpAny_sequenceKey hm.typeIs (by decide) ?_)
  have hu' : A.in1.units + 8 < cLine := by show A.units + 1 + 8 < cLine; omega
  refine wpAny_bind (wpAny_callSpecial?_slot (name := Str.ofString "__setitem__") hm.typeIs slot_dict_setitem
    (wpAny_call_entry slot_dict_setitem hm.typeIs entry_dict_setitem ?_ (args_dict_setitem _ _ _)))
  show wpAny _ _ (Builtin.Dict.notOrdered "__setitem__" ⟨[.ref d, u, v], []⟩ >>= _) _ _ s
  refine wpAny_bind (wpAny_notOrdered_dict hm.typeIs ?_)
  show wpAny _ _ (dictSet d u v >>= _) _ _ s
  exact wpAny_bind (dset_V hu' hk hkd hm KS hz fun h' es' ks' ep' P hr sb => wpAny_pure ⟨.none, rfl, wpAny_pure (hQ h' es' ks' ep' P hr sb)⟩)
end
end
end K59
namespace K59
open PySem PySem.Spec PyProof.Rows L2

/-! ### data -/
inductive D where
  | none | bool (b : Bool) | int (i : Int) | str (s : Str) | list (xs : List D) | tup (xs : List D) | dict (kvs : List (NestedKey × D))
mutual
def kd : NestedKey → D
  | .none => .none
  | .num i => .int i
  | .text x => .str x
  | .tup ks => .tup (kds ks)
def kds : List NestedKey → List D
  | [] => []
  | k :: ks => kd k :: kds ks
end
/-- a dict as it stands -/
def dctO (a : Addr) (es : Array DictEntry) (ep : Nat) : HO := .ext fun h => h.DictRaw a es ep
theorem dctO_ok {P : Program} {w : World} {H : Hp} {h : Heap} {a : Addr} {es : Array DictEntry} {ep : Nat} (x : h.DictRaw a es ep) : ObjOk P w H h a (dctO a es ep) :=
  ⟨x, let ⟨o, ho, _⟩ := x; ⟨o, ho⟩, fun _ _ p k => p.at k⟩
theorem dctO_raw {P : Program} {w : World} {H : Hp} {h : Heap} {a b : Addr} {es : Array DictEntry} {ep : Nat} (x : ObjOk P w H h b (dctO a es ep)) : h.DictRaw a es ep := x.1

mutual
inductive Rep (K : PySem.W.Frag) (w : World) (F : Hp) : V → D → Prop
  | non : Rep K w F .non .none
  | bl (b : Bool) : Rep K w F (.bl b) (.bool b)
  | int (i : Int) : Rep K w F (.int i) (.int i)
  | str (x : Str) : Rep K w F (.str x) (.str x)
  | lst {a : Addr} {xs : List V} {ds : List D} : F a = some (.lst xs) → Reps K w F xs ds → Rep K w F (.ref a) (.list ds)
  | tup {a : Addr} {xs : List V} {ds : List D} : SqT K F a xs → Reps K w F xs ds → Rep K w F (.ref a) (.tup ds)
  | dct {a : Addr} {es : Array DictEntry} {ep : Nat} {kvs : List (NestedKey × D)} : F a = some (dctO a es ep) → (a == sysModules) = false → (kvs.map (·.1)).Nodup → (∀ k ∈ kvs.map (·.1), k.depth ≤ 8) →
      Rents K w F es.toList kvs → Rep K w F (.ref a) (.dict kvs)
inductive Reps (K : PySem.W.Frag) (w : World) (F : Hp) : List V → List D → Prop
  | nil : Reps K w F [] []
  | cons {v : V} {vs : List V} {d : D} {ds : List D} : Rep K w F v d → Reps K w F vs ds → Reps K w F (v :: vs) (d :: ds)
inductive Rents (K : PySem.W.Frag) (w : World) (F : Hp) : List DictEntry → List (NestedKey × D) → Prop
  | nil : Rents K w F [] []
  | cons {e : DictEntry} {es : List DictEntry} {k : NestedKey} {d : D} {x y : V} {kvs : List (NestedKey × D)} : e.hash = k.hash w → RelV x e.key → Rep K w F x (kd k) → RelV y e.val → Rep K w F y d → Rents K w F es kvs →
      Rents K w F (e :: es) ((k, d) :: kvs)
end
section
variable {K : PySem.W.Frag} {w : World} {F F' : Hp}
theorem sq_l {H : Hp} {a : Addr} {xs : List V} (e : Same F H) (h : F a = some (.lst xs)) : SqL K H a xs := SqL.of (e _ _ h)
theorem same_t {a : Addr} {xs : List V} (e : Same F F') (h : SqT K F a xs) : SqT K F' a xs := by
  rcases h with (h | ⟨o, h⟩) | h
  · exact .inl (.inl (e _ _ h))
  · exact .inl (.inr ⟨o, e _ _ h⟩)
  · exact .inr h
mutual
theorem Rep.mono (e : Same F F') : ∀ {v : V} {d : D}, Rep K w F v d → Rep K w F' v d
  | _, _, .non => .non
  | _, _, .bl b => .bl b
  | _, _, .int i => .int i
  | _, _, .str x => .str x
  | _, _, .lst h r => .lst (e _ _ h) (Reps.mono e r)
  | _, _, .tup h r => .tup (same_t e h) (Reps.mono e r)
  | _, _, .dct h a n d r => .dct (e _ _ h) a n d (Rents.mono e r)
theorem Reps.mono (e : Same F F') : ∀ {vs : List V} {ds : List D}, Reps K w F vs ds → Reps K w F' vs ds
  | _, _, .nil => .nil
  | _, _, .cons h r => .cons (Rep.mono e h) (Reps.mono e r)
theorem Rents.mono (e : Same F F') : ∀ {es : List DictEntry} {kvs : List (NestedKey × D)}, Rents K w F es kvs → Rents K w F' es kvs
  | _, _, .nil => .nil
  | _, _, .cons a b c d f r => .cons a b (Rep.mono e c) d (Rep.mono e f) (Rents.mono e r)
end
end
end K59
namespace K59
open PySem PySem.Spec PyProof.Rows L2

section
variable {K : PySem.W.Frag} {w : World} {F F' : Hp}
theorem Reps.length : ∀ {vs : List V} {ds : List D}, Reps K w F vs ds → vs.length = ds.length
  | _, _, .nil => rfl
  | _, _, .cons _ r => congrArg (· + 1) (Reps.length r)
theorem Reps.get : ∀ {vs : List V} {ds : List D} {i : Nat} {d : D}, Reps K w F vs ds → ds[i]? = some d → ∃ v, vs[i]? = some v ∧ Rep K w F v d
  | _, _, _, _, .nil, h => by simp at h
  | _, _, 0, _, .cons h _, e => by
    simp only [List.getElem?_cons_zero, Option.some.injEq] at e
    subst e
    exact ⟨_, rfl, h⟩
  | _, _, i + 1, _, .cons _ r, e => by
    obtain ⟨v, h1, h2⟩ := Reps.get (i := i) r (by simpa using e)
    exact ⟨v, by simpa using h1, h2⟩
theorem Reps.append : ∀ {vs vs' : List V} {ds ds' : List D}, Reps K w F vs ds → Reps K w F vs' ds' → Reps K w F (vs ++ vs') (ds ++ ds')
  | _, _, _, _, .nil, r => r
  | _, _, _, _, .cons h r, r' => .cons h (Reps.append r r')
theorem Reps.snoc {vs : List V} {ds : List D} {v : V} {d : D} (r : Reps K w F vs ds) (h : Rep K w F v d) : Reps K w F (vs ++ [v]) (ds ++ [d]) := r.append (.cons h .nil)
theorem Reps.dropLast : ∀ {vs : List V} {ds : List D}, Reps K w F vs ds → Reps K w F vs.dropLast ds.dropLast
  | _, _, .nil => .nil
  | _, _, .cons _ .nil => .nil
  | _, _, .cons h (.cons h' r) => .cons h (Reps.dropLast (.cons h' r))
theorem Reps.take : ∀ {vs : List V} {ds : List D} (n : Nat), Reps K w F vs ds → Reps K w F (vs.take n) (ds.take n)
  | _, _, 0, _ => .nil
  | _, _, _ + 1, .nil => .nil
  | _, _, n + 1, .cons h r => .cons h (Reps.take n r)
theorem Reps.drop : ∀ {vs : List V} {ds : List D} (n : Nat), Reps K w F vs ds → Reps K w F (vs.drop n) (ds.drop n)
  | _, _, 0, r => r
  | _, _, _ + 1, .nil => .nil
  | _, _, n + 1, .cons _ r => Reps.drop n r
theorem Reps.ints : ∀ {vs : List V} {ns : List Int}, Reps K w F vs (ns.map D.int) → vs = ns.map V.int
  | _, [], .nil => rfl
  | _, _ :: _, .cons h r => by cases h; rw [Reps.ints r]; rfl
theorem Reps.bools : ∀ {vs : List V} {ns : List Bool}, Reps K w F vs (ns.map D.bool) → vs = ns.map V.bl
  | _, [], .nil => rfl
  | _, _ :: _, .cons h r => by cases h; rw [Reps.bools r]; rfl
theorem Reps.strs : ∀ {vs : List V} {ns : List Str}, Reps K w F vs (ns.map D.str) → vs = ns.map V.str
  | _, [], .nil => rfl
  | _, _ :: _, .cons h r => by cases h; rw [Reps.strs r]; rfl
theorem Reps.ofInts : ∀ (ns : List Int), Reps K w F (ns.map V.int) (ns.map D.int)
  | [] => .nil
  | n :: r => .cons (.int n) (Reps.ofInts r)
theorem Rents.length : ∀ {es : List DictEntry} {kvs : List (NestedKey × D)}, Rents K w F es kvs → es.length = kvs.length
  | _, _, .nil => rfl
  | _, _, .cons _ _ _ _ _ r => congrArg (· + 1) (Rents.length r)
theorem Rents.get : ∀ {es : List DictEntry} {kvs : List (NestedKey × D)} {i : Nat} {k : NestedKey} {d : D}, Rents K w F es kvs → kvs[i]? = some (k, d) → ∃ e x y, es[i]? = some e ∧ e.hash = k.hash w ∧ RelV x e.key ∧ Rep K w F x (kd k) ∧ RelV y e.val ∧ Rep K w F y d
  | _, _, _, _, _, .nil, h => by simp at h
  | _, _, 0, _, _, .cons a b c f g _, e => by
    simp only [List.getElem?_cons_zero, Option.some.injEq, Prod.mk.injEq] at e
    obtain ⟨rfl, rfl⟩ := e
    exact ⟨_, _, _, rfl, a, b, c, f, g⟩
  | _, _, i + 1, _, _, .cons _ _ _ _ _ r, e => by
    obtain ⟨e', x, y, h⟩ := Rents.get (i := i) r (by simpa using e)
    exact ⟨e', x, y, by simpa using h⟩
theorem Rents.append : ∀ {es es' : List DictEntry} {kvs kvs' : List (NestedKey × D)}, Rents K w F es kvs → Rents K w F es' kvs' → Rents K w F (es ++ es') (kvs ++ kvs')
  | _, _, _, _, .nil, r => r
  | _, _, _, _, .cons a b c d e r, r' => .cons a b c d e (Rents.append r r')
end
/-! ### the store of a dict, as data -/
def dput (k : NestedKey) (d : D) : List (NestedKey × D) → List (NestedKey × D)
  | [] => [(k, d)]
  | (a, b) :: r => if a = k then (a, d) :: r else (a, b) :: dput k d r
def dlook (k : NestedKey) : List (NestedKey × D) → Option D
  | [] => none
  | (a, b) :: r => if a = k then some b else dlook k r
theorem dput_new {k : NestedKey} {d : D} : ∀ {kvs : List (NestedKey × D)}, k ∉ kvs.map (·.1) → dput k d kvs = kvs ++ [(k, d)]
  | [], _ => rfl
  | (a, b) :: r, h => by
    simp only [List.map_cons, List.mem_cons, not_or] at h
    unfold dput
    rw [if_neg (fun e => h.1 e.symm), dput_new h.2]
    rfl
theorem dput_keys {k : NestedKey} {d : D} : ∀ {kvs : List (NestedKey × D)}, (dput k d kvs).map (·.1) = if k ∈ kvs.map (·.1) then kvs.map (·.1) else kvs.map (·.1) ++ [k]
  | [] => rfl
  | (a, b) :: r => by
    unfold dput
    by_cases e : a = k
    · rw [if_pos e, if_pos (by simp [e])]
      rfl
    · rw [if_neg e, List.map_cons, dput_keys (kvs := r)]
      rw [List.map_cons]
      by_cases hm : k ∈ r.map (·.1)
      · rw [if_pos hm, if_pos (List.mem_cons_of_mem _ hm)]
      · rw [if_neg hm, if_neg (by simp only [List.map_cons, List.mem_cons, not_or]; exact ⟨fun z => e z.symm, hm⟩)]
        rfl
theorem dlook_at {k : NestedKey} : ∀ {kvs : List (NestedKey × D)} {i : Nat} {d : D}, (kvs.map (·.1)).Nodup → kvs[i]? = some (k, d) → dlook k kvs = some d
  | [], _, _, _, h => by simp at h
  | (a, b) :: r, 0, d, _, h => by
    simp only [List.getElem?_cons_zero, Option.some.injEq, Prod.mk.injEq] at h
    obtain ⟨rfl, rfl⟩ := h
    unfold dlook
    rw [if_pos rfl]
  | (a, b) :: r, i + 1, d, nd, h => by
    obtain ⟨n1, n2⟩ := List.nodup_cons.mp nd
    have h' : r[i]? = some (k, d) := by simpa using h
    have hm : k ∈ r.map (·.1) := List.mem_map.mpr ⟨_, List.mem_of_getElem? h', rfl⟩
    unfold dlook
    rw [if_neg (fun e => n1 (by rw [e]; exact hm))]
    exact dlook_at n2 h'
theorem dlook_mem {k : NestedKey} : ∀ {kvs : List (NestedKey × D)} {d : D}, dlook k kvs = some d → ∃ i : Nat, kvs[i]? = some (k, d)
  | [], _, h => by cases h
  | (a, b) :: r, d, h => by
    unfold dlook at h
    by_cases e : a = k
    · rw [if_pos e] at h
      cases h
      exact ⟨0, by rw [e]; rfl⟩
    · rw [if_neg e] at h
      obtain ⟨i, hi⟩ := dlook_mem h
      exact ⟨i + 1, by simpa using hi⟩

section
variable {K : PySem.W.Frag} {w : World} {F F' : Hp}
theorem Rents.modify : ∀ {es : List DictEntry} {kvs : List (NestedKey × D)} {i : Nat} {k : NestedKey} {d d0 : D} {y : V} {v : Value}, Rents K w F es kvs → (kvs.map (·.1)).Nodup → kvs[i]? = some (k, d0) → RelV y v → Rep K w F y d →
    Rents K w F (es.modify i fun e => { e with val := v }) (dput k d kvs)
  | _, _, _, _, _, _, _, _, .nil, _, h, _, _ => by simp at h
  | _, _, 0, _, _, _, _, _, .cons a b c _ _ r, _, e, rv, hr => by
    simp only [List.getElem?_cons_zero, Option.some.injEq, Prod.mk.injEq] at e
    obtain ⟨rfl, rfl⟩ := e
    unfold dput
    rw [if_pos rfl]
    exact .cons a b c rv hr r
  | _, _, i + 1, k, _, _, _, _, .cons (k := k') a b c f g r, nd, e, rv, hr => by
    obtain ⟨n1, n2⟩ := List.nodup_cons.mp nd
    have h' := (List.getElem?_cons_succ ..).symm.trans e
    have ne : ¬ k' = k := fun z => n1 (by rw [show _ = k from z]; exact List.mem_map.mpr ⟨_, List.mem_of_getElem? h', rfl⟩)
    unfold dput
    rw [if_neg ne]
    exact .cons a b c f g (Rents.modify r n2 h' rv hr)
end
section
variable {X : Cx} {pins : List (Addr × Obj)} {σ : L2.St} {F H : Hp} {s : Shared}
mutual
theorem Rep.key (I : Inv X pins σ H s) (e : Same F H) : ∀ (k : NestedKey) {x : V} {u : Value}, Rep X.K X.w F x (kd k) → RelV x u → NestedIs s.heap k u
  | .none, _, _, h, r => by cases h; cases r; exact .none
  | .num i, _, _, h, r => by cases h; obtain ⟨t, rfl⟩ := r; exact .int i t
  | .text x, _, _, h, r => by cases h; obtain ⟨t, rfl⟩ := r; exact .text x t
  | .tup ks, _, _, h, r => by
    rw [kd] at h
    cases h with
    | tup hq hr =>
      obtain rfl := (r : _ = _)
      obtain ⟨its, rv, ⟨o, ho, hc, n, hd⟩, _⟩ := I.tuple (same_t e hq)
      exact .tup ho hc hd (Reps.keys I e ks hr (by simpa using rv))
theorem Reps.keys (I : Inv X pins σ H s) (e : Same F H) : ∀ (ks : List NestedKey) {xs : List V} {us : List Value}, Reps X.K X.w F xs (kds ks) → Vals xs us → NestedAll s.heap ks us
  | [], _, _, h, r => by
    rw [kds] at h
    cases h; cases r; exact .nil
  | k :: ks, _, _, h, r => by
    rw [kds] at h
    cases h with
    | cons h1 h2 =>
      cases r with
      | cons r1 r2 => exact .cons (Rep.key I e k h1 r1) (Reps.keys I e ks h2 r2)
end
theorem Rents.keysV (I : Inv X pins σ H s) (e : Same F H) {es : Array DictEntry} {kvs : List (NestedKey × D)} (r : Rents X.K X.w F es.toList kvs) (nd : (kvs.map (·.1)).Nodup) (dp : ∀ k ∈ kvs.map (·.1), k.depth ≤ 8) : KeysV X.w s.heap es (kvs.map (·.1)) := by
  refine ⟨by rw [← Array.length_toList, r.length, List.length_map], fun i en he => ?_, nd⟩
  have hi : i < kvs.length := by rw [← r.length]; simpa using (Array.getElem?_eq_some_iff.mp he).1
  obtain ⟨⟨k, d⟩, h1⟩ : ∃ p, kvs[i]? = some p := ⟨kvs[i], List.getElem?_eq_getElem hi⟩
  obtain ⟨e', x, y, h2, h3, h4, h5, _, _⟩ := r.get h1
  rw [Array.getElem?_toList, he] at h2
  cases h2
  refine ⟨k, by rw [List.getElem?_map, h1]; rfl, h3, Rep.key I e k h5 h4, dp k ?_⟩
  exact List.mem_map.mpr ⟨_, List.mem_of_getElem? h1, rfl⟩
theorem Rents.look {es : Array DictEntry} {kvs : List (NestedKey × D)} {K : PySem.W.Frag} {w : World} (r : Rents K w F es.toList kvs) (nd : (kvs.map (·.1)).Nodup) {k : NestedKey} {d : D} (h : dlook k kvs = some d) :
    ∃ v y, lookV es (kvs.map (·.1)) k = some v ∧ RelV y v ∧ Rep K w F y d := by
  obtain ⟨i, hi⟩ := dlook_mem h
  obtain ⟨e, x, y, h1, _, _, _, h5, h6⟩ := r.get hi
  refine ⟨e.val, y, ?_, h5, h6⟩
  unfold lookV
  rw [idx_some nd (j := i) (by rw [List.getElem?_map, hi]; rfl)]
  rw [Array.getElem?_toList] at h1
  simp [h1]
theorem Rents.put {es es' : Array DictEntry} {kvs : List (NestedKey × D)} {K : PySem.W.Frag} {w : World} (r : Rents K w F es.toList kvs) (nd : (kvs.map (·.1)).Nodup) {k : NestedKey} {d : D} {x y : V} {u v : Value} {ks' : List NestedKey}
    (P : PutV w es (kvs.map (·.1)) k u v es' ks') (rx : RelV x u) (hx : Rep K w F x (kd k)) (ry : RelV y v) (hy : Rep K w F y d) : Rents K w F es'.toList (dput k d kvs) ∧ ks' = (dput k d kvs).map (·.1) := by
  by_cases hm : k ∈ kvs.map (·.1)
  · obtain ⟨i, hi⟩ := List.mem_iff_getElem?.mp hm
    obtain ⟨rfl, rfl⟩ := P.old i hi
    rw [dput_keys, if_pos hm]
    refine ⟨?_, rfl⟩
    rw [List.getElem?_map] at hi
    obtain ⟨⟨k', d0⟩, h1, h2⟩ := Option.map_eq_some_iff.mp hi
    cases h2
    rw [Array.toList_modify]
    exact r.modify nd h1 ry hy
  · obtain ⟨rfl, rfl⟩ := P.new hm
    rw [dput_keys, if_neg hm, dput_new hm, Array.toList_push]
    exact ⟨r.append (.cons rfl rx hx ry hy .nil), rfl⟩
end

/-! ### the state, as data -/
/-- what is being filled -/
inductive MO where
  | ls (ds : List D)
  | dc (kvs : List (NestedKey × D))
  | strm
abbrev Mem := List (Addr × MO)
def MOk (K : PySem.W.Frag) (w : World) (F H : Hp) (a : Addr) : MO → Prop
  | .ls ds => ∃ xs, H a = some (.lst xs) ∧ Reps K w F xs ds
  | .dc kvs => ∃ es ep, H a = some (dctO a es ep) ∧ (a == sysModules) = false ∧ (kvs.map (·.1)).Nodup ∧ (∀ k ∈ kvs.map (·.1), k.depth ≤ 8) ∧ Rents K w F es.toList kvs
  | .strm => ∃ (ns : List Int) (c k : Int) (xs : List V), ns.length ≤ 63 ∧ 0 ≤ c ∧ 0 ≤ k ∧ H a = some (.lst xs) ∧ Reps K w F xs [.list (ns.map D.int), .int c, .int k]
structure Ok (K : PySem.W.Frag) (w : World) (G F : Hp) (M : Mem) (H : Hp) : Prop where
  f : Same F H
  g : Same G H
  fg : ∀ p o, G p = some o → F p = none
  m : ∀ a o, (a, o) ∈ M → F a = none ∧ G a = none ∧ MOk K w F H a o
  nd : (M.map Prod.fst).Nodup
section
variable {K : PySem.W.Frag} {w : World} {G F F' H H' : Hp} {M : Mem} {a p : Addr} {o : MO}
theorem MOk.mono (e : Same F F') (h : MOk K w F H a o) (hh : H' a = H a) : MOk K w F' H' a o := by
  cases o with
  | ls ds => obtain ⟨xs, h1, h2⟩ := h; exact ⟨xs, hh.trans h1, h2.mono e⟩
  | dc kvs => obtain ⟨es, ep, h1, h2, h3, h4, h5⟩ := h; exact ⟨es, ep, hh.trans h1, h2, h3, h4, h5.mono e⟩
  | strm => obtain ⟨ns, c, k, xs, h1, h2, h3, h4, h5⟩ := h; exact ⟨ns, c, k, xs, h1, h2, h3, hh.trans h4, h5.mono e⟩
theorem MOk.there (h : MOk K w F H a o) : ∃ x, H a = some x := by
  cases o with
  | ls ds => obtain ⟨xs, h1, h2⟩ := h; exact ⟨_, h1⟩
  | dc kvs => obtain ⟨es, ep, h1, _⟩ := h; exact ⟨_, h1⟩
  | strm => obtain ⟨ns, c, k, xs, h1, h2, h3, h4, h5⟩ := h; exact ⟨_, h4⟩
theorem MOk.mut (h : MOk K w F H a o) : Mut (H a) := by
  cases o with
  | ls ds => obtain ⟨xs, h1, h2⟩ := h; rw [h1]; exact True.intro
  | dc kvs => obtain ⟨es, ep, h1, _⟩ := h; rw [h1]; exact True.intro
  | strm => obtain ⟨ns, c, k, xs, h1, h2, h3, h4, h5⟩ := h; rw [h4]; exact True.intro
theorem sm_upd {F H : Hp} {p : Addr} {o : HO} (e : Same F H) : Same (L2.upd F p o) (L2.upd H p o) := fun b u h => by
  by_cases hb : b = p
  · subst hb; rw [upd_same] at h ⊢; exact h
  · rw [upd_ne hb] at h ⊢; exact e b u h
theorem sm_new {F : Hp} {p : Addr} {o : HO} (h : F p = none) : Same F (L2.upd F p o) := fun b u e => by
  rw [upd_ne (ne_of_none e h)]; exact e
theorem sm_newR {F H : Hp} {p : Addr} {o : HO} (e : Same F H) (h : H p = none) : Same F (L2.upd H p o) := fun b u k => by
  rw [upd_ne (ne_of_none (e b u k) h)]; exact e b u k
/-- a new finished object -/
theorem Ok.new {x : HO} (k : Ok K w G F M H) (hp : H p = none) : Ok K w G (L2.upd F p x) M (L2.upd H p x) ∧ Same F (L2.upd F p x) := by
  have fp : F p = none := k.f.free hp
  have gp : G p = none := k.g.free hp
  refine ⟨⟨sm_upd k.f, sm_newR k.g hp, fun q o e => ?_, fun a o hm => ?_, k.nd⟩, sm_new fp⟩
  · rw [upd_ne (ne_of_none e gp)]; exact k.fg q o e
  · obtain ⟨h1, h2, h3⟩ := k.m a o hm
    obtain ⟨x', hx⟩ := h3.there
    have ne : a ≠ p := ne_of_none hx hp
    exact ⟨by rw [upd_ne ne]; exact h1, h2, h3.mono (sm_new fp) (upd_ne ne)⟩
/-- a new object that will be filled -/
theorem Ok.newM {x : HO} {o : MO} (k : Ok K w G F M H) (hp : H p = none) (h : MOk K w F (L2.upd H p x) p o) : Ok K w G F ((p, o) :: M) (L2.upd H p x) := by
  refine ⟨sm_newR k.f hp, sm_newR k.g hp, k.fg, fun a o' hm => ?_, ?_⟩
  · rcases List.mem_cons.mp hm with e | hm
    · cases e; exact ⟨k.f.free hp, k.g.free hp, h⟩
    · obtain ⟨h1, h2, h3⟩ := k.m a o' hm
      obtain ⟨x', hx⟩ := h3.there
      exact ⟨h1, h2, h3.mono (Same.refl _) (upd_ne (ne_of_none hx hp))⟩
  · rw [List.map_cons, List.nodup_cons]
    refine ⟨fun hm => ?_, k.nd⟩
    obtain ⟨⟨a, o'⟩, h1, h2⟩ := List.mem_map.mp hm
    obtain ⟨x', hx⟩ := (k.m a o' h1).2.2.there
    have : a = p := h2
    rw [this, hp] at hx
    cases hx
/-- of two objects in the memory -/
theorem Ok.one (k : Ok K w G F M H) {i j : Nat} {a : Addr} {o o' : MO} (h : M[i]? = some (a, o)) (h' : M[j]? = some (a, o')) : i = j := by
  have e1 : (M.map Prod.fst)[i]? = some a := by rw [List.getElem?_map, h]; rfl
  have e2 : (M.map Prod.fst)[j]? = some a := by rw [List.getElem?_map, h']; rfl
  exact (List.getElem?_inj (List.getElem?_eq_some_iff.mp e1).1 k.nd).mp (e1.trans e2.symm)
/-- an object in the memory is written -/
theorem Ok.put {x : HO} {i : Nat} {o o' : MO} (k : Ok K w G F M H) (hm : M[i]? = some (a, o)) (h : MOk K w F (L2.upd H a x) a o') : Ok K w G F (M.set i (a, o')) (L2.upd H a x) := by
  obtain ⟨fa, ga, _⟩ := k.m a o (List.mem_of_getElem? hm)
  have hi := (List.getElem?_eq_some_iff.mp hm).1
  refine ⟨fun b u e => ?_, fun b u e => ?_, k.fg, fun b o2 hb => ?_, ?_⟩
  · rw [upd_ne (ne_of_none e fa)]; exact k.f b u e
  · rw [upd_ne (ne_of_none e ga)]; exact k.g b u e
  · obtain ⟨j, hj⟩ := List.mem_iff_getElem?.mp hb
    by_cases e : i = j
    · subst e
      rw [List.getElem?_set_self hi] at hj
      cases hj
      exact ⟨fa, ga, h⟩
    · rw [List.getElem?_set_ne e] at hj
      obtain ⟨h1, h2, h3⟩ := k.m b o2 (List.mem_of_getElem? hj)
      have ne : b ≠ a := fun z => e (k.one hm (z ▸ hj))
      exact ⟨h1, h2, h3.mono (Same.refl _) (upd_ne ne)⟩
  · have e : (M.set i (a, o')).map Prod.fst = M.map Prod.fst := by
      rw [List.map_set]
      apply List.ext_getElem?
      intro j
      by_cases e : i = j
      · subst e
        rw [List.getElem?_set_self (by simpa using hi), List.getElem?_map, hm]
        rfl
      · rw [List.getElem?_set_ne e]
    rw [e]
    exact k.nd
theorem Ok.drop {i : Nat} (k : Ok K w G F M H) : Ok K w G F (M.eraseIdx i) H :=
  ⟨k.f, k.g, k.fg, fun a o hm => k.m a o (List.mem_of_mem_eraseIdx hm), k.nd.sublist ((List.eraseIdx_sublist _ _).map _)⟩
/-- an object is finished -/
theorem Ok.freeze {x : HO} {i : Nat} {o : MO} (k : Ok K w G F M H) (hm : M[i]? = some (a, o)) (hx : H a = some x) : Ok K w G (L2.upd F a x) (M.eraseIdx i) H ∧ Same F (L2.upd F a x) := by
  obtain ⟨fa, ga, _⟩ := k.m a o (List.mem_of_getElem? hm)
  refine ⟨⟨fun b u e => ?_, k.g, fun b u e => ?_, fun b o2 hb => ?_, k.drop.nd⟩, sm_new fa⟩
  · by_cases hb : b = a
    · subst hb; rw [upd_same] at e; cases e; exact hx
    · rw [upd_ne hb] at e; exact k.f b u e
  · rw [upd_ne (ne_of_none e ga)]; exact k.fg b u e
  · obtain ⟨h1, h2, h3⟩ := k.m b o2 (List.mem_of_mem_eraseIdx hb)
    have ne : b ≠ a := fun z => by
      obtain ⟨j, hj⟩ := List.mem_iff_getElem?.mp hb
      rw [List.getElem?_eraseIdx] at hj
      split at hj
      · rename_i hlt
        have := k.one hm (z ▸ hj); omega
      · rename_i hge
        have := k.one hm (z ▸ hj); omega
    exact ⟨by rw [upd_ne ne]; exact h1, h2, h3.mono (sm_new fa) rfl⟩
end
end K59
namespace K59
open PySem PySem.Spec PyProof.Rows L2

/-! ### what the names hold -/
inductive Sl where
  | any
  | dat (d : D)
  | ptr (a : Addr)
abbrev Gam := List Sl
def SlOk (K : PySem.W.Frag) (w : World) (F : Hp) (x : Option (Option V)) : Sl → Prop
  | .any => True
  | .dat d => ∃ v, x = some (some v) ∧ Rep K w F v d
  | .ptr a => x = some (some (.ref a))
structure Slots (K : PySem.W.Frag) (w : World) (F : Hp) (σ : L2.St) (Γ : Gam) : Prop where
  len : σ.length = Γ.length
  row : ∀ (i : Nat) sl, Γ[i]? = some sl → SlOk K w F σ[i]? sl
section
variable {K : PySem.W.Frag} {w : World} {F F' : Hp} {σ : L2.St} {Γ : Gam}
theorem SlOk.mono {x : Option (Option V)} {sl : Sl} (e : Same F F') (h : SlOk K w F x sl) : SlOk K w F' x sl := by
  cases sl with
  | any => exact h
  | dat d => obtain ⟨v, h1, h2⟩ := h; exact ⟨v, h1, h2.mono e⟩
  | ptr a => exact h
theorem Slots.mono (e : Same F F') (h : Slots K w F σ Γ) : Slots K w F' σ Γ := ⟨h.len, fun i sl k => (h.row i sl k).mono e⟩
theorem Slots.set {i : Nat} {v : V} {sl : Sl} (h : Slots K w F σ Γ) (hs : SlOk K w F (some (some v)) sl) : Slots K w F (σ.set i (some v)) (Γ.set i sl) := by
  refine ⟨by rw [List.length_set, List.length_set, h.len], fun j s k => ?_⟩
  by_cases e : i = j
  · subst e
    have hi : i < (Γ.set i sl).length := (List.getElem?_eq_some_iff.mp k).1
    rw [List.length_set] at hi
    rw [List.getElem?_set_self hi] at k
    cases k
    rw [List.getElem?_set_self (by rw [h.len]; exact hi)]
    exact hs
  · rw [List.getElem?_set_ne e] at k ⊢
    exact h.row j s k
/-- forget what a name holds -/
theorem Slots.weak {Γ' : Gam} (h : Slots K w F σ Γ) (hl : Γ'.length = Γ.length) (hw : ∀ (i : Nat) sl, Γ'[i]? = some sl → sl = .any ∨ Γ[i]? = some sl) : Slots K w F σ Γ' :=
  ⟨h.len.trans hl.symm, fun i sl k => (hw i sl k).elim (fun e => by rw [e]; exact True.intro) fun e => h.row i sl e⟩
end
/-! ### the judgements -/
def eMax (X : Cx) (e : Expr) : TE := fun σ H Q => ∀ (pins : List (Addr × Obj)) (s : Shared), Inv X pins σ H s → wpAny (model X.prog X.w) X.A (eval e X.env) (EP X pins σ Q) X.xe s
def tMax (X : Cx) (e : Expr) : TT := fun σ H Q => ∀ (pins : List (Addr × Obj)) (s : Shared), Inv X pins σ H s → wpAny (model X.prog X.w) X.A (isTrue e X.env (eval e X.env)) (TP X pins σ Q) X.xe s
def aMax (X : Cx) (es : List Expr) : TA := fun σ H Q => ∀ (pos : Pos) (pins : List (Addr × Obj)) (s : Shared), Inv X pins σ H s → wpAny (model X.prog X.w) X.A (spliced (backTo pos (starEach es X.env))) (AP X pins σ Q) X.xe s
def sMax (X : Cx) (st : Stmt) : TS := fun D σ H => ∀ (pins : List (Addr × Obj)) (s : Shared), Inv X pins σ H s → wpAny (model X.prog X.w) X.A (exec st X.env) (SP X pins D) X.xe s
def bMax (X : Cx) (sts : List Stmt) : TS := fun D σ H => ∀ (pins : List (Addr × Obj)) (s : Shared), Inv X pins σ H s → wpAny (model X.prog X.w) X.A (execs sts X.env) (SP X pins D) X.xe s
def gMax (X : Cx) (tg : Expr) : TG := fun v σ H Q => ∀ (pins : List (Addr × Obj)) (s : Shared) (u : Value), Inv X pins σ H s → RelV v u → wpAny (model X.prog X.w) X.A (assign tg X.env u) (fun _ s' => ∃ σ' H', Inv X pins σ' H' s' ∧ Q σ' H') X.xe s
def iMax (X : Cx) (tg iter : Expr) : TI := fun σ H R => ∀ (pins : List (Addr × Obj)) (s : Shared), Inv X pins σ H s → wpAny (model X.prog X.w) X.A (eval iter X.env) (fun v s1 => wpAny (model X.prog X.w) X.A (pyIter v) (PIE X pins σ tg R) X.xe s1) X.xe s
section
variable {X : Cx} {e : Expr} {es : List Expr} {st : Stmt} {sts : List Stmt} {tg iter : Expr} {σ : L2.St} {H : Hp}
theorem pe_max : PE X e (eMax X e) := ⟨fun pins s σ H Q I h => h pins s I⟩
theorem pt_max : PT X e (tMax X e) := ⟨fun pins s σ H Q I h => h pins s I⟩
theorem pa_max : PA X es (aMax X es) := ⟨fun pos pins s σ H Q I h => h pos pins s I⟩
theorem ps_max : PS X st (sMax X st) := ⟨fun pins s σ H D I h => h pins s I⟩
theorem pb_max : PSs X sts (bMax X sts) := ⟨fun pins s σ H D I h => h pins s I⟩
theorem pg_max : PG X tg (gMax X tg) := ⟨fun pins s σ H v u Q I r h => h pins s u I r⟩
theorem pi_max : PI X tg iter (iMax X tg iter) := ⟨fun pins s σ H R I h => h pins s I⟩
theorem eMax_of {t : TE} {Q : VK} (h : PE X e t) (q : t σ H Q) : eMax X e σ H Q := fun pins s I => h.run pins s σ H Q I q
theorem tMax_of {t : TT} {Q : Bool → Hp → Prop} (h : PT X e t) (q : t σ H Q) : tMax X e σ H Q := fun pins s I => h.run pins s σ H Q I q
theorem aMax_of {t : TA} {Q : List V → Hp → Prop} (h : PA X es t) (q : t σ H Q) : aMax X es σ H Q := fun pos pins s I => h.run pos pins s σ H Q I q
theorem sMax_of {t : TS} {D : Ends} (h : PS X st t) (q : t D σ H) : sMax X st D σ H := fun pins s I => h.run pins s σ H D I q
theorem bMax_of {t : TS} {D : Ends} (h : PSs X sts t) (q : t D σ H) : bMax X sts D σ H := fun pins s I => h.run pins s σ H D I q
theorem gMax_of {t : TG} {v : V} {Q : L2.St → Hp → Prop} (h : PG X tg t) (q : t v σ H Q) : gMax X tg v σ H Q := fun pins s u I r => h.run pins s σ H v u Q I r q
theorem iMax_of {t : TI} {R : It → Hp → Prop} (h : PI X tg iter t) (q : t σ H R) : iMax X tg iter σ H R := fun pins s I => h.run pins s σ H R I q
end
abbrev Is (d : D) : D → Prop := fun z => z = d
/-- an expression's data -/
def DE (X : Cx) (Γ : Gam) (M : Mem) (e : Expr) (R : D → Prop) : Prop := ∀ (G F H : Hp) (σ : L2.St) (Q : VK), Ok X.K X.w G F M H → Slots X.K X.w F σ Γ →
  (∀ v d F' H', R d → Same F F' → Ok X.K X.w G F' M H' → Rep X.K X.w F' v d → Q v H') → eMax X e σ H Q
/-- a test's answers -/
def DT (X : Cx) (Γ : Gam) (M : Mem) (e : Expr) (R : Bool → Prop) : Prop := ∀ (G F H : Hp) (σ : L2.St) (Q : Bool → Hp → Prop), Ok X.K X.w G F M H → Slots X.K X.w F σ Γ →
  (∀ b F' H', R b → Same F F' → Ok X.K X.w G F' M H' → Q b H') → tMax X e σ H Q
/-- an expression that hands back what is new and may be filled -/
def DM (X : Cx) (Γ : Gam) (M : Mem) (e : Expr) (R : MO → Prop) : Prop := ∀ (G F H : Hp) (σ : L2.St) (Q : VK), Ok X.K X.w G F M H → Slots X.K X.w F σ Γ →
  (∀ a o F' H', R o → Same F F' → Ok X.K X.w G F' ((a, o) :: M) H' → Q (.ref a) H') → eMax X e σ H Q
/-- a name of what is being filled -/
def DP (X : Cx) (Γ : Gam) (e : Expr) (a : Addr) : Prop := ∀ (K : PySem.W.Frag) (w : World) (F H : Hp) (σ : L2.St) (Q : VK), Slots K w F σ Γ → Q (.ref a) H → eMax X e σ H Q
inductive ArgsOk (K : PySem.W.Frag) (w : World) (F : Hp) : List V → List Sl → Prop
  | nil : ArgsOk K w F [] []
  | dat {v : V} {vs : List V} {d : D} {as : List Sl} : Rep K w F v d → ArgsOk K w F vs as → ArgsOk K w F (v :: vs) (.dat d :: as)
  | ptr {a : Addr} {vs : List V} {as : List Sl} : ArgsOk K w F vs as → ArgsOk K w F (.ref a :: vs) (.ptr a :: as)
theorem ArgsOk.mono {K : PySem.W.Frag} {w : World} {F F' : Hp} (e : Same F F') {vs : List V} {as : List Sl} (h : ArgsOk K w F vs as) : ArgsOk K w F' vs as := by
  induction h with
  | nil => exact .nil
  | dat r _ ih => exact .dat (r.mono e) ih
  | ptr _ ih => exact .ptr ih
theorem ArgsOk.length {K : PySem.W.Frag} {w : World} {F : Hp} {vs : List V} {as : List Sl} (h : ArgsOk K w F vs as) : vs.length = as.length := by
  induction h with
  | nil => rfl
  | dat r _ ih => exact congrArg (· + 1) ih
  | ptr _ ih => exact congrArg (· + 1) ih
def DA (X : Cx) (Γ : Gam) (M : Mem) (es : List Expr) (R : List Sl → Prop) : Prop := ∀ (G F H : Hp) (σ : L2.St) (Q : List V → Hp → Prop), Ok X.K X.w G F M H → Slots X.K X.w F σ Γ →
  (∀ vs as F' H', R as → Same F F' → Ok X.K X.w G F' M H' → ArgsOk X.K X.w F' vs as → Q vs H') → aMax X es σ H Q
/-- the ways out of a statement -/
structure Post where
  nx : Gam → Mem → Prop
  rt : D → Mem → Prop
  bk : Gam → Mem → Prop := fun _ _ => False
  ct : Gam → Mem → Prop := fun _ _ => False
structure Ways (X : Cx) (G F : Hp) (P : Post) (D : Ends) : Prop where
  nx : ∀ Γ' M' F' H' σ', P.nx Γ' M' → Same F F' → Ok X.K X.w G F' M' H' → Slots X.K X.w F' σ' Γ' → D.nx σ' H'
  rt : ∀ d M' F' H' v, P.rt d M' → Same F F' → Ok X.K X.w G F' M' H' → Rep X.K X.w F' v d → D.rt v H'
  bk : ∀ Γ' M' F' H' σ', P.bk Γ' M' → Same F F' → Ok X.K X.w G F' M' H' → Slots X.K X.w F' σ' Γ' → D.bk σ' H'
  ct : ∀ Γ' M' F' H' σ', P.ct Γ' M' → Same F F' → Ok X.K X.w G F' M' H' → Slots X.K X.w F' σ' Γ' → D.ct σ' H'
def DS (X : Cx) (Γ : Gam) (M : Mem) (st : Stmt) (P : Post) : Prop := ∀ (G F H : Hp) (σ : L2.St) (D : Ends), Ok X.K X.w G F M H → Slots X.K X.w F σ Γ → Ways X G F P D → sMax X st D σ H
def DB (X : Cx) (Γ : Gam) (M : Mem) (sts : List Stmt) (P : Post) : Prop := ∀ (G F H : Hp) (σ : L2.St) (D : Ends), Ok X.K X.w G F M H → Slots X.K X.w F σ Γ → Ways X G F P D → bMax X sts D σ H
def DG (X : Cx) (Γ : Gam) (tg : Expr) (d : D) (Γ' : Gam) : Prop := ∀ (G F H : Hp) (M : Mem) (σ : L2.St) (v : V) (Q : L2.St → Hp → Prop), Ok X.K X.w G F M H → Slots X.K X.w F σ Γ → Rep X.K X.w F v d → (∀ σ', Slots X.K X.w F σ' Γ' → Q σ' H) → gMax X tg v σ H Q
def Goes (K : PySem.W.Frag) (w : World) (J : It) (F : Hp) (ds : List D) : Prop := ∀ (k : Nat) (G F2 : Hp) (M2 : Mem) (H : Hp), Same F F2 → Ok K w G F2 M2 H →
  (∀ d, ds[k]? = some d → J.go k H ∧ ∀ x H', J.yld k H x H' → ∃ F3, Same F2 F3 ∧ Ok K w G F3 M2 H' ∧ Rep K w F3 x d) ∧ (k = ds.length → J.stop k H)
def DI (X : Cx) (Γ : Gam) (M : Mem) (tg iter : Expr) (R : List D → Prop) : Prop := ∀ (G F H : Hp) (σ : L2.St) (Q : It → Hp → Prop), Ok X.K X.w G F M H → Slots X.K X.w F σ Γ →
  (∀ J ds F' H', R ds → Same F F' → Ok X.K X.w G F' M H' → Goes X.K X.w J F' ds → Q J H') → iMax X tg iter σ H Q

section
variable {X : Cx} {Γ : Gam} {M : Mem} {e a b : Expr} {R R' : D → Prop} {pos : Pos}
theorem DE.imp (h : DE X Γ M e R) (k : ∀ d, R d → R' d) : DE X Γ M e R' := fun G F H σ Q ok sl q => h G F H σ Q ok sl fun v d F' H' r => q v d F' H' (k d r)
theorem DE.is {d d' : D} (h : DE X Γ M e (Is d)) (k : d = d') : DE X Γ M e (Is d') := h.imp fun z r => (show z = d from r).trans k
theorem DT.imp {R R' : Bool → Prop} (h : DT X Γ M e R) (k : ∀ b, R b → R' b) : DT X Γ M e R' := fun G F H σ Q ok sl q => h G F H σ Q ok sl fun b F' H' r => q b F' H' (k b r)
theorem DB.imp {sts : List Stmt} {P P' : Post} (h : DB X Γ M sts P) (n : ∀ Γ M, P.nx Γ M → P'.nx Γ M) (r : ∀ d M, P.rt d M → P'.rt d M) (b : ∀ Γ M, P.bk Γ M → P'.bk Γ M) (c : ∀ Γ M, P.ct Γ M → P'.ct Γ M) : DB X Γ M sts P' :=
  fun G F H σ D ok sl W => h G F H σ D ok sl ⟨fun _ _ _ _ _ p => W.nx _ _ _ _ _ (n _ _ p), fun _ _ _ _ _ p => W.rt _ _ _ _ _ (r _ _ p), fun _ _ _ _ _ p => W.bk _ _ _ _ _ (b _ _ p), fun _ _ _ _ _ p => W.ct _ _ _ _ _ (c _ _ p)⟩
/-- from a rule and its reading -/
theorem de_of {t : TE} (h : PE X e t) (k : ∀ (G F H : Hp) (σ : L2.St) (Q : VK), Ok X.K X.w G F M H → Slots X.K X.w F σ Γ → (∀ v d F' H', R d → Same F F' → Ok X.K X.w G F' M H' → Rep X.K X.w F' v d → Q v H') → t σ H Q) : DE X Γ M e R :=
  fun G F H σ Q ok sl q => eMax_of h (k G F H σ Q ok sl q)
/-- names and constants -/
theorem dv (i : Nat) {x : Str} {d : D} (h : Γ[i]? = some (.dat d) := by rfl) (hN : X.N[i]? = some x := by rfl) (hv : Vis X.env.scope x := by first | exact Or.inl rfl | exact Or.inr (Or.inl rfl) | exact Or.inr (Or.inr rfl)) (hd : (x == ("__debug__" : Str)) = false := by decide)
    (hcd : (x == ("__classdict__" : Str)) = false := by decide) : DE X Γ M (.Name x pos) (Is d) := de_of (pe_var hN hv hd hcd) fun G F H σ Q ok sl q => by
  obtain ⟨v, h1, h2⟩ := sl.row i _ h
  exact ⟨v, h1, q v d F H rfl (Same.refl _) ok h2⟩
theorem dp (i : Nat) {x : Str} {a : Addr} (h : Γ[i]? = some (.ptr a) := by rfl) (hN : X.N[i]? = some x := by rfl) (hv : Vis X.env.scope x := by first | exact Or.inl rfl | exact Or.inr (Or.inl rfl) | exact Or.inr (Or.inr rfl)) (hd : (x == ("__debug__" : Str)) = false := by decide)
    (hcd : (x == ("__classdict__" : Str)) = false := by decide) : DP X Γ (.Name x pos) a := fun K w F H σ Q sl q => eMax_of (pe_var hN hv hd hcd) ⟨_, sl.row i _ h, q⟩
theorem de_int {i : Int} {j : Nat} : DE X Γ M (.Constant (.int i) j pos) (Is (.int i)) := de_of pe_int fun G F H σ Q ok sl q => q _ _ F H rfl (Same.refl _) ok (.int i)
theorem de_str {x : Str} {j : Nat} : DE X Γ M (.Constant (.str x) j pos) (Is (.str x)) := de_of pe_str fun G F H σ Q ok sl q => q _ _ F H rfl (Same.refl _) ok (.str x)
theorem de_bl {x : Bool} {j : Nat} : DE X Γ M (.Constant (.bool x) j pos) (Is (.bool x)) := de_of pe_bl fun G F H σ Q ok sl q => q _ _ F H rfl (Same.refl _) ok (.bl x)
theorem de_non {j : Nat} : DE X Γ M (.Constant .none j pos) (Is .none) := de_of pe_non fun G F H σ Q ok sl q => q _ _ F H rfl (Same.refl _) ok .non
theorem de_gint {x : Str} {i : Int} {t : Tok} (hm : X.mg x = some (.int i t)) (hg : Gl X x := by rfl) (hd : (x == ("__debug__" : Str)) = false := by decide) : DE X Γ M (.Name x pos) (Is (.int i)) :=
  de_of (pe_glob hg hm (v := .int i) ⟨t, rfl⟩ hd) fun G F H σ Q ok sl q => q _ _ F H rfl (Same.refl _) ok (.int i)
theorem de_gstr {x z : Str} {t : Tok} (hm : X.mg x = some (.str z t)) (hg : Gl X x := by rfl) (hd : (x == ("__debug__" : Str)) = false := by decide) : DE X Γ M (.Name x pos) (Is (.str z)) :=
  de_of (pe_glob hg hm (v := .str z) ⟨t, rfl⟩ hd) fun G F H σ Q ok sl q => q _ _ F H rfl (Same.refl _) ok (.str z)
/-! ### operations on values -/
def OpD (K : PySem.W.Frag) (w : World) (r : R2) (d1 d2 : D) (R : D → Prop) : Prop := ∀ (G F H : Hp) (M : Mem) (x y : V) (Q : VK), Ok K w G F M H → Rep K w F x d1 → Rep K w F y d2 →
  (∀ v d F' H', R d → Same F F' → Ok K w G F' M H' → Rep K w F' v d → Q v H') → r x y H Q
theorem tOp_D {r : R2} {Ra Rb : D → Prop} (ha : DE X Γ M a Ra) (hb : DE X Γ M b Rb) (ho : ∀ d1 d2, Ra d1 → Rb d2 → OpD X.K X.w r d1 d2 R) (G F H : Hp) (σ : L2.St) (Q : VK) (ok : Ok X.K X.w G F M H) (sl : Slots X.K X.w F σ Γ)
    (q : ∀ v d F' H', R d → Same F F' → Ok X.K X.w G F' M H' → Rep X.K X.w F' v d → Q v H') : tOp r (eMax X a) (eMax X b) σ H Q :=
  ha G F H σ _ ok sl fun x d1 F1 H1 r1 s1 k1 p1 => hb G F1 H1 σ _ k1 (sl.mono s1) fun y d2 F2 H2 r2 s2 k2 p2 => ho d1 d2 r1 r2 G F2 H2 M x y Q k2 (p1.mono s2) p2 fun v d F' H' rr ss kk pp => q v d F' H' rr ((s1.trans s2).trans ss) kk pp
theorem de_opR {op : Operator} {r : R2} {Ra Rb : D → Prop} (hr : OpR X (binaryOp op) r) (ha : DE X Γ M a Ra) (hb : DE X Γ M b Rb) (ho : ∀ d1 d2, Ra d1 → Rb d2 → OpD X.K X.w r d1 d2 R) : DE X Γ M (.BinOp a op b pos) R :=
  de_of (pe_op hr pe_max pe_max) (tOp_D ha hb ho)
theorem de_op {op : Operator} {r : R2} {d1 d2 : D} (hr : OpR X (binaryOp op) r) (ho : OpD X.K X.w r d1 d2 R) (ha : DE X Γ M a (Is d1)) (hb : DE X Γ M b (Is d2)) : DE X Γ M (.BinOp a op b pos) R :=
  de_opR hr ha hb fun _ _ h1 h2 => by rw [h1, h2]; exact ho
theorem de_cmp {op : CmpOp} {r : R2} {d1 d2 : D} (hr : OpR X (compareOp op) r) (ho : OpD X.K X.w r d1 d2 R) (ha : DE X Γ M a (Is d1)) (hb : DE X Γ M b (Is d2)) (hm : behindInMarks op b = false := by first | exact nomark _ | rfl) : DE X Γ M (.Compare a [op] [b] pos) R :=
  de_of (pe_cmpR hr pe_max pe_max hm) (tOp_D ha hb fun _ _ h1 h2 => by rw [h1, h2]; exact ho)
def IsB (p : Bool) : D → Prop := fun z => z = .bool p
theorem dt_cmpR {op : CmpOp} {r : R2} {Ra Rb : D → Prop} {RB : Bool → Prop} (hr : OpR X (compareOp op) r) (ha : DE X Γ M a Ra) (hb : DE X Γ M b Rb) (ho : ∀ d1 d2, Ra d1 → Rb d2 → OpD X.K X.w r d1 d2 (fun z => ∃ k, z = .bool k ∧ RB k)) (hm : behindInMarks op b = false := by first | exact nomark _ | rfl) : DT X Γ M (.Compare a [op] [b] pos) RB := by
  intro G F H σ Q ok sl q
  refine tMax_of (pt_cmpR hr pe_max pe_max hm) ?_
  refine tOp_D ha hb ho G F H σ _ ok sl fun v d F' H' rr ss kk pp => ?_
  obtain ⟨k, rfl, hk⟩ := rr
  cases pp
  exact ⟨k, rfl, q k F' H' hk ss kk⟩
abbrev IsT (p : Bool) : Bool → Prop := fun z => z = p
theorem dt_cmp {op : CmpOp} {r : R2} {d1 d2 : D} {p : Bool} (hr : OpR X (compareOp op) r) (ho : OpD X.K X.w r d1 d2 (Is (.bool p))) (ha : DE X Γ M a (Is d1)) (hb : DE X Γ M b (Is d2)) (hm : behindInMarks op b = false := by first | exact nomark _ | rfl) : DT X Γ M (.Compare a [op] [b] pos) (IsT p) :=
  dt_cmpR hr ha hb (fun _ _ h1 h2 => by
    rw [h1, h2]
    exact fun G F H M x y Q ok r1 r2 q => ho G F H M x y Q ok r1 r2 fun v d F' H' rd => q v d F' H' ⟨p, rd, rfl⟩) hm
end
section
variable {K : PySem.W.Frag} {w : World} {R : D → Prop}
theorem od_I0 {g : Int → Int → V} {i j : Int} {d : D} (h : ∀ F : Hp, Rep K w F (g i j) d) : OpD K w (rI0 g) (.int i) (.int j) (Is d) := fun G F H M x y Q ok r1 r2 q => by
  cases r1; cases r2
  exact ⟨i, j, rfl, rfl, q _ _ F H rfl (Same.refl _) ok (h F)⟩
theorem od_I {C : Int → Int → Prop} {g : Int → Int → V} {i j : Int} {d : D} (hc : C i j) (h : ∀ F : Hp, Rep K w F (g i j) d) : OpD K w (rI C g) (.int i) (.int j) (Is d) := fun G F H M x y Q ok r1 r2 q => by
  cases r1; cases r2
  exact ⟨i, j, rfl, rfl, hc, q _ _ F H rfl (Same.refl _) ok (h F)⟩
end
end K59
namespace K59
open PySem PySem.Spec PyProof.Rows L2

section
variable {X : Cx} {Γ : Gam} {M : Mem} {e a b c : Expr} {es : List Expr} {R R' : D → Prop} {pos : Pos}
/-! ### ints -/
theorem de_add {i j : Int} (ha : DE X Γ M a (Is (.int i))) (hb : DE X Γ M b (Is (.int j))) : DE X Γ M (.BinOp a .Add b pos) (Is (.int (i + j))) := de_op op_add (od_I0 fun _ => .int _) ha hb
theorem de_sub {i j : Int} (ha : DE X Γ M a (Is (.int i))) (hb : DE X Γ M b (Is (.int j))) : DE X Γ M (.BinOp a .Sub b pos) (Is (.int (i - j))) := de_op op_sub (od_I0 fun _ => .int _) ha hb
theorem de_mul {i j : Int} (hc : CMul i j) (ha : DE X Γ M a (Is (.int i))) (hb : DE X Γ M b (Is (.int j))) : DE X Γ M (.BinOp a .Mult b pos) (Is (.int (i * j))) := de_op op_mul (od_I hc fun _ => .int _) ha hb
theorem de_mod {i j : Int} (hc : 0 < j) (ha : DE X Γ M a (Is (.int i))) (hb : DE X Γ M b (Is (.int j))) : DE X Γ M (.BinOp a .Mod b pos) (Is (.int (i % j))) := de_op op_mod (od_I hc fun _ => .int _) ha hb
theorem de_fdiv {i j : Int} (hc : CDiv i j) (ha : DE X Γ M a (Is (.int i))) (hb : DE X Γ M b (Is (.int j))) : DE X Γ M (.BinOp a .FloorDiv b pos) (Is (.int (i / j))) := de_op op_fdiv (od_I hc fun _ => .int _) ha hb
theorem de_pow {i j : Int} (hc : CPow i j) (ha : DE X Γ M a (Is (.int i))) (hb : DE X Γ M b (Is (.int j))) : DE X Γ M (.BinOp a .Pow b pos) (Is (.int (i ^ j.toNat))) := de_op op_pow (od_I hc fun _ => .int _) ha hb
theorem de_addR {Ra Rb : D → Prop} (ha : DE X Γ M a Ra) (hb : DE X Γ M b Rb) (h : ∀ x y, Ra x → Rb y → ∃ i j, x = .int i ∧ y = .int j ∧ R (.int (i + j))) : DE X Γ M (.BinOp a .Add b pos) R :=
  de_opR op_add ha hb fun d1 d2 h1 h2 => by
    obtain ⟨i, j, rfl, rfl, hr⟩ := h d1 d2 h1 h2
    exact fun G F H M x y Q ok r1 r2 q => od_I0 (g := fun i j => .int (i + j)) (d := .int (i + j)) (fun _ => .int _) G F H M x y Q ok r1 r2 fun v d F' H' rd => q v d F' H' (rd ▸ hr)
/-! ### comparisons -/
theorem dt_lt {i j : Int} (ha : DE X Γ M a (Is (.int i))) (hb : DE X Γ M b (Is (.int j))) : DT X Γ M (.Compare a [.Lt] [b] pos) (IsT (decide (i < j))) := dt_cmp op_lt (od_I0 fun _ => .bl _) ha hb
theorem dt_gt {i j : Int} (ha : DE X Γ M a (Is (.int i))) (hb : DE X Γ M b (Is (.int j))) : DT X Γ M (.Compare a [.Gt] [b] pos) (IsT (decide (j < i))) := dt_cmp op_gt (od_I0 fun _ => .bl _) ha hb
theorem dt_le {i j : Int} (ha : DE X Γ M a (Is (.int i))) (hb : DE X Γ M b (Is (.int j))) : DT X Γ M (.Compare a [.LtE] [b] pos) (IsT (decide (i ≤ j))) := dt_cmp op_le (od_I0 fun _ => .bl _) ha hb
theorem de_le {i j : Int} (ha : DE X Γ M a (Is (.int i))) (hb : DE X Γ M b (Is (.int j))) : DE X Γ M (.Compare a [.LtE] [b] pos) (Is (.bool (decide (i ≤ j)))) := de_cmp op_le (od_I0 fun _ => .bl _) ha hb
theorem dec_Vi {i j : Int} : decide (V.int i = V.int j) = decide (i = j) := by by_cases h : i = j <;> simp [h]
theorem dec_Vs {i j : Str} : decide (V.str i = V.str j) = decide (i = j) := by by_cases h : i = j <;> simp [h]
section
variable {K : PySem.W.Frag} {w : World}
theorem od_eqI {i j : Int} : OpD K w rEq (.int i) (.int j) (Is (.bool (decide (i = j)))) := fun G F H M x y Q ok r1 r2 q => by
  cases r1; cases r2
  exact ⟨rfl, by rw [dec_Vi]; exact q _ _ F H rfl (Same.refl _) ok (.bl _)⟩
theorem od_eqS {i j : Str} : OpD K w rEq (.str i) (.str j) (Is (.bool (decide (i = j)))) := fun G F H M x y Q ok r1 r2 q => by
  cases r1; cases r2
  exact ⟨rfl, by rw [dec_Vs]; exact q _ _ F H rfl (Same.refl _) ok (.bl _)⟩
theorem od_neS {i j : Str} : OpD K w rNe (.str i) (.str j) (Is (.bool (!decide (i = j)))) := fun G F H M x y Q ok r1 r2 q => by
  cases r1; cases r2
  exact ⟨rfl, by rw [dec_Vs]; exact q _ _ F H rfl (Same.refl _) ok (.bl _)⟩
end
theorem dt_eqI {i j : Int} (ha : DE X Γ M a (Is (.int i))) (hb : DE X Γ M b (Is (.int j))) : DT X Γ M (.Compare a [.Eq] [b] pos) (IsT (decide (i = j))) := dt_cmp op_eq od_eqI ha hb
theorem dt_eqS {i j : Str} (ha : DE X Γ M a (Is (.str i))) (hb : DE X Γ M b (Is (.str j))) : DT X Γ M (.Compare a [.Eq] [b] pos) (IsT (decide (i = j))) := dt_cmp op_eq od_eqS ha hb
theorem de_eqI {i j : Int} (ha : DE X Γ M a (Is (.int i))) (hb : DE X Γ M b (Is (.int j))) : DE X Γ M (.Compare a [.Eq] [b] pos) (Is (.bool (decide (i = j)))) := de_cmp op_eq od_eqI ha hb
theorem de_eqS {i j : Str} (ha : DE X Γ M a (Is (.str i))) (hb : DE X Γ M b (Is (.str j))) : DE X Γ M (.Compare a [.Eq] [b] pos) (Is (.bool (decide (i = j)))) := de_cmp op_eq od_eqS ha hb
theorem de_neS {i j : Str} (ha : DE X Γ M a (Is (.str i))) (hb : DE X Γ M b (Is (.str j))) : DE X Γ M (.Compare a [.NotEq] [b] pos) (Is (.bool (!decide (i = j)))) := de_cmp op_ne od_neS ha hb
/-! ### None -/
def D.isNone : D → Bool
  | .none => true
  | _ => false
theorem rep_none {K : PySem.W.Frag} {w : World} {F : Hp} {v : V} {d : D} (r : Rep K w F v d) : decide (v = .non) = d.isNone := by
  cases r <;> simp [D.isNone]
theorem od_isN {K : PySem.W.Frag} {w : World} {d : D} : OpD K w (fun x y H Q => y = .non ∧ Q (.bl (decide (x = .non))) H) d .none (Is (.bool d.isNone)) := fun G F H M x y Q ok r1 r2 q => by
  cases r2
  refine ⟨rfl, ?_⟩
  rw [rep_none r1]
  exact q _ _ F H rfl (Same.refl _) ok (.bl _)
theorem od_notN {K : PySem.W.Frag} {w : World} {d : D} : OpD K w (fun x y H Q => y = .non ∧ Q (.bl (!decide (x = .non))) H) d .none (Is (.bool (!d.isNone))) := fun G F H M x y Q ok r1 r2 q => by
  cases r2
  refine ⟨rfl, ?_⟩
  rw [rep_none r1]
  exact q _ _ F H rfl (Same.refl _) ok (.bl _)
theorem dt_isN {d : D} (ha : DE X Γ M a (Is d)) (hb : DE X Γ M b (Is .none)) : DT X Γ M (.Compare a [.Is] [b] pos) (IsT d.isNone) := dt_cmp op_isN od_isN ha hb
theorem dt_notN {d : D} (ha : DE X Γ M a (Is d)) (hb : DE X Γ M b (Is .none)) : DT X Γ M (.Compare a [.IsNot] [b] pos) (IsT (!d.isNone)) := dt_cmp op_notN od_notN ha hb
theorem de_isN {d : D} (ha : DE X Γ M a (Is d)) (hb : DE X Γ M b (Is .none)) : DE X Γ M (.Compare a [.Is] [b] pos) (Is (.bool d.isNone)) := de_cmp op_isN od_isN ha hb
/-! ### tests, truth values -/
theorem dt_val {p : Bool} (h : DE X Γ M e (Is (.bool p))) (he : ∀ whole, isTrue e X.env whole = (do let v ← whole; standAt e.pos; holding [v] (truthy v)) := by intro _; rfl) : DT X Γ M e (IsT p) := fun G F H σ Q ok sl q =>
  tMax_of (pt_val pe_max he) (h G F H σ _ ok sl fun v d F' H' r s k rp => by
    cases (show d = .bool p from r)
    cases rp
    exact ⟨p, rfl, q p F' H' rfl s k⟩)
theorem dt_not {p : Bool} (h : DT X Γ M a (IsT p)) : DT X Γ M (.UnaryOp .Not a pos) (IsT (!p)) := fun G F H σ Q ok sl q =>
  tMax_of (pt_not pt_max) (h G F H σ _ ok sl fun b F' H' r s k => q (!b) F' H' (by rw [show b = p from r]) s k)
theorem dt_and {p q : Bool} (ha : DT X Γ M a (IsT p)) (hb : p = true → DT X Γ M b (IsT q)) : DT X Γ M (.BoolOp .And [a, b] pos) (IsT (p && q)) := fun G F H σ Q ok sl k =>
  tMax_of (PW.pt (pw_and pt_max (pw_and1 pt_max))) (ha G F H σ _ ok sl fun b1 F1 H1 r1 s1 k1 => by
    cases (show b1 = p from r1)
    cases p with
    | true =>
      show tMax X b σ H1 Q
      exact hb rfl G F1 H1 σ Q k1 (sl.mono s1) fun b2 F2 H2 r2 s2 k2 => k b2 F2 H2 r2 (s1.trans s2) k2
    | false =>
      show Q false H1
      exact k false F1 H1 rfl s1 k1)
theorem dt_or {p q : Bool} (ha : DT X Γ M a (IsT p)) (hb : p = false → DT X Γ M b (IsT q)) : DT X Γ M (.BoolOp .Or [a, b] pos) (IsT (p || q)) := fun G F H σ Q ok sl k =>
  tMax_of (PW.pt (pw_or pt_max (pw_or1 pt_max))) (ha G F H σ _ ok sl fun b1 F1 H1 r1 s1 k1 => by
    cases (show b1 = p from r1)
    cases p with
    | false =>
      show tMax X b σ H1 Q
      exact hb rfl G F1 H1 σ Q k1 (sl.mono s1) fun b2 F2 H2 r2 s2 k2 => k b2 F2 H2 r2 (s1.trans s2) k2
    | true =>
      show Q true H1
      exact k true F1 H1 rfl s1 k1)
theorem de_one {op : PySem.BoolOp} (h : DE X Γ M a R) : DE X Γ M (.BoolOp op [a] pos) R := de_of (pe_one pe_max) h
theorem de_and {es : List Expr} {p q : Bool} (ha : DE X Γ M a (Is (.bool p))) (hb : p = true → DE X Γ M (.BoolOp .And (b :: es) pos) (Is (.bool q))) : DE X Γ M (.BoolOp .And (a :: b :: es) pos) (Is (.bool (p && q))) :=
  de_of (pe_and pe_max pe_max) fun G F H σ Q ok sl k => ha G F H σ _ ok sl fun v1 d1 F1 H1 r1 s1 k1 p1 => by
    cases (show d1 = .bool p from r1)
    cases p1
    refine ⟨p, rfl, ?_⟩
    cases p with
    | true =>
      show eMax X _ σ H1 Q
      exact hb rfl G F1 H1 σ Q k1 (sl.mono s1) fun v2 d2 F2 H2 r2 s2 k2 p2 => k v2 d2 F2 H2 r2 (s1.trans s2) k2 p2
    | false =>
      show Q (.bl false) H1
      exact k _ _ F1 H1 rfl s1 k1 (.bl false)
theorem de_not {p : Bool} (h : DE X Γ M a (Is (.bool p))) : DE X Γ M (.UnaryOp .Not a pos) (Is (.bool (!p))) := de_of (pe_not pe_max) fun G F H σ Q ok sl k => h G F H σ _ ok sl fun v1 d1 F1 H1 r1 s1 k1 p1 => by
  cases (show d1 = .bool p from r1)
  cases p1
  exact ⟨p, rfl, k _ _ F1 H1 rfl s1 k1 (.bl _)⟩
theorem de_if {p : Bool} (hc : DT X Γ M c (IsT p)) (ha : p = true → DE X Γ M a R) (hb : p = false → DE X Γ M b R) : DE X Γ M (.IfExp c a b pos) R := de_of (pe_ifExp pt_max pe_max pe_max) fun G F H σ Q ok sl k => hc G F H σ _ ok sl fun b1 F1 H1 r1 s1 k1 => by
  cases (show b1 = p from r1)
  cases p with
  | true =>
    show eMax X _ σ H1 Q
    exact ha rfl G F1 H1 σ Q k1 (sl.mono s1) fun v2 d2 F2 H2 r2 s2 k2 p2 => k v2 d2 F2 H2 r2 (s1.trans s2) k2 p2
  | false =>
    show eMax X _ σ H1 Q
    exact hb rfl G F1 H1 σ Q k1 (sl.mono s1) fun v2 d2 F2 H2 r2 s2 k2 p2 => k v2 d2 F2 H2 r2 (s1.trans s2) k2 p2
/-! ### argument lists, displays -/
abbrev IsA (as : List Sl) : List Sl → Prop := fun z => z = as
theorem da_nil : DA X Γ M [] (IsA []) := fun G F H σ Q ok sl q => aMax_of pa_nil (q [] [] F H rfl (Same.refl _) ok .nil)
theorem da_consR {Ra : D → Prop} {Rr R : List Sl → Prop} (ha : DE X Γ M e Ra) (hr : DA X Γ M es Rr) (h : ∀ d as, Ra d → Rr as → R (.dat d :: as)) (hs : starEach (e :: es) X.env = (false, eval e X.env) :: starEach es X.env := by rfl) : DA X Γ M (e :: es) R := fun G F H σ Q ok sl q =>
  aMax_of (pa_cons pe_max pa_max hs) (ha G F H σ _ ok sl fun v d F1 H1 r1 s1 k1 p1 => hr G F1 H1 σ _ k1 (sl.mono s1) fun vs as F2 H2 r2 s2 k2 p2 => q _ _ F2 H2 (h d as r1 r2) (s1.trans s2) k2 (.dat (p1.mono s2) p2))
theorem da_cons {d : D} {as : List Sl} (ha : DE X Γ M e (Is d)) (hr : DA X Γ M es (IsA as)) (hs : starEach (e :: es) X.env = (false, eval e X.env) :: starEach es X.env := by rfl) : DA X Γ M (e :: es) (IsA (.dat d :: as)) :=
  da_consR ha hr (fun _ _ h1 h2 => by rw [h1, h2]) hs
theorem da_ptr {p : Addr} {as : List Sl} (ha : DP X Γ e p) (hr : DA X Γ M es (IsA as)) (hs : starEach (e :: es) X.env = (false, eval e X.env) :: starEach es X.env := by rfl) : DA X Γ M (e :: es) (IsA (.ptr p :: as)) := fun G F H σ Q ok sl q =>
  aMax_of (pa_cons pe_max pa_max hs) (ha X.K X.w F H σ _ sl (hr G F H σ _ ok sl fun vs as F2 H2 r2 s2 k2 p2 => q _ _ F2 H2 (by rw [r2]) s2 k2 (.ptr p2)))
def datsOf : List Sl → Option (List D)
  | [] => some []
  | .dat d :: r => (datsOf r).map (d :: ·)
  | _ :: _ => none
theorem ArgsOk.reps {K : PySem.W.Frag} {w : World} {F : Hp} : ∀ {vs : List V} {as : List Sl} {ds : List D}, ArgsOk K w F vs as → datsOf as = some ds → Reps K w F vs ds
  | _, _, _, .nil, h => by cases h; exact .nil
  | _, _, _, .dat (d := d) (as := as) r t, h => by
    unfold datsOf at h
    obtain ⟨ds, h1, h2⟩ := Option.map_eq_some_iff.mp h
    subst h2
    exact .cons r (t.reps h1)
  | _, _, _, .ptr _, h => by cases h
theorem Ok.tup {K : PySem.W.Frag} {w : World} {G F H : Hp} {vs : List V} {ds : List D} {p : Addr} (ok : Ok K w G F M H) (r : Reps K w F vs ds) (hp : H p = none) :
    Ok K w G (upd F p (.tup vs)) M (upd H p (.tup vs)) ∧ Same F (upd F p (.tup vs)) ∧ Rep K w (upd F p (.tup vs)) (.ref p) (.tup ds) := by
  obtain ⟨h1, h2⟩ := ok.new (x := .tup vs) hp
  exact ⟨h1, h2, .tup (SqT.of upd_same) (r.mono h2)⟩
theorem Ok.lst {K : PySem.W.Frag} {w : World} {G F H : Hp} {vs : List V} {ds : List D} {p : Addr} (ok : Ok K w G F M H) (r : Reps K w F vs ds) (hp : H p = none) :
    Ok K w G (upd F p (.lst vs)) M (upd H p (.lst vs)) ∧ Same F (upd F p (.lst vs)) ∧ Rep K w (upd F p (.lst vs)) (.ref p) (.list ds) := by
  obtain ⟨h1, h2⟩ := ok.new (x := .lst vs) hp
  exact ⟨h1, h2, .lst upd_same (r.mono h2)⟩
theorem sz_le {n : Nat} (h : n ≤ 100000) : n ≤ sizeLine := Nat.le_trans h (by decide)
theorem de_tup {as : List Sl} {ds : List D} {x1 : Nat} (ha : DA X Γ M es (IsA as)) (hd : datsOf as = some ds := by rfl) (hz : ds.length ≤ 100000 := by decide) : DE X Γ M (.Tuple es x1 pos) (Is (.tup ds)) := de_of (pe_tup pa_max) fun G F H σ Q ok sl q =>
  ha G F H σ _ ok sl fun vs as' F1 H1 r1 s1 k1 p1 => by
    cases (show as' = as from r1)
    have rp := p1.reps hd
    refine ⟨sz_le (by rw [rp.length]; exact hz), fun p hp => ?_⟩
    obtain ⟨h1, h2, h3⟩ := k1.tup rp hp
    exact q _ _ _ _ rfl (s1.trans h2) h1 h3
theorem de_list {as : List Sl} {ds : List D} (ha : DA X Γ M es (IsA as)) (hd : datsOf as = some ds := by rfl) (hz : ds.length ≤ 100000 := by decide) : DE X Γ M (.List es pos) (Is (.list ds)) := de_of (pe_lst pa_max) fun G F H σ Q ok sl q =>
  ha G F H σ _ ok sl fun vs as' F1 H1 r1 s1 k1 p1 => by
    cases (show as' = as from r1)
    have rp := p1.reps hd
    refine ⟨sz_le (by rw [rp.length]; exact hz), fun p hp => ?_⟩
    obtain ⟨h1, h2, h3⟩ := k1.lst rp hp
    exact q _ _ _ _ rfl (s1.trans h2) h1 h3
abbrev IsM (o : MO) : MO → Prop := fun z => z = o
theorem dm_list {as : List Sl} {ds : List D} (ha : DA X Γ M es (IsA as)) (hd : datsOf as = some ds := by rfl) (hz : ds.length ≤ 100000 := by decide) : DM X Γ M (.List es pos) (IsM (.ls ds)) := fun G F H σ Q ok sl q =>
  eMax_of (pe_lst pa_max) (ha G F H σ _ ok sl fun vs as' F1 H1 r1 s1 k1 p1 => by
    cases (show as' = as from r1)
    have rp := p1.reps hd
    refine ⟨sz_le (by rw [rp.length]; exact hz), fun p hp => ?_⟩
    exact q p _ F1 _ rfl s1 (k1.newM hp ⟨vs, upd_same, rp⟩))
/-- what was made is finished at once -/
theorem de_ofM {ds : List D} (h : DM X Γ M e (IsM (.ls ds))) : DE X Γ M e (Is (.list ds)) := fun G F H σ Q ok sl q => h G F H σ Q ok sl fun p o F1 H1 r1 s1 k1 => by
  cases (show o = .ls ds from r1)
  obtain ⟨_, _, xs, hx, rp⟩ := k1.m p _ List.mem_cons_self
  obtain ⟨h1, h2⟩ := k1.freeze (i := 0) rfl hx
  exact q _ _ _ _ rfl (s1.trans h2) h1 (.lst upd_same (rp.mono h2))
theorem de_ofMR {R : List D → Prop} {RD : D → Prop} (h : DM X Γ M e (fun o => ∃ ds, o = .ls ds ∧ R ds)) (hR : ∀ ds, R ds → RD (.list ds)) : DE X Γ M e RD := fun G F H σ Q ok sl q => h G F H σ Q ok sl fun p o F1 H1 r1 s1 k1 => by
  obtain ⟨ds, rfl, hr⟩ := r1
  obtain ⟨_, _, xs, hx, rp⟩ := k1.m p _ List.mem_cons_self
  obtain ⟨h1, h2⟩ := k1.freeze (i := 0) rfl hx
  exact q _ _ _ _ (hR ds hr) (s1.trans h2) h1 (.lst upd_same (rp.mono h2))
theorem de_ofMd {kvs : List (NestedKey × D)} (h : DM X Γ M e (IsM (.dc kvs))) : DE X Γ M e (Is (.dict kvs)) := fun G F H σ Q ok sl q => h G F H σ Q ok sl fun p o F1 H1 r1 s1 k1 => by
  cases (show o = .dc kvs from r1)
  obtain ⟨_, _, es, ep, hx, a1, a2, a3, rp⟩ := k1.m p _ List.mem_cons_self
  obtain ⟨h1, h2⟩ := k1.freeze (i := 0) rfl hx
  exact q _ _ _ _ rfl (s1.trans h2) h1 (.dct upd_same a1 a2 a3 (rp.mono h2))
end
end K59
namespace K59
open PySem PySem.Spec PyProof.Rows L2

/-- a dict that stands: finished, or in the memory -/
structure Dct (K : PySem.W.Frag) (w : World) (F H : Hp) (a : Addr) (es : Array DictEntry) (ep : Nat) (kvs : List (NestedKey × D)) : Prop where
  st : H a = some (dctO a es ep)
  ns : (a == sysModules) = false
  nd : (kvs.map (·.1)).Nodup
  dp : ∀ k ∈ kvs.map (·.1), k.depth ≤ 8
  rs : Rents K w F es.toList kvs
section
variable {X : Cx} {pins : List (Addr × Obj)} {σ : L2.St} {F G H : Hp} {s : Shared} {a : Addr} {es : Array DictEntry} {ep : Nat} {kvs : List (NestedKey × D)} {M : Mem}
theorem Dct.raw {K : PySem.W.Frag} {w : World} (d : Dct K w F H a es ep kvs) (I : Inv X pins σ H s) : s.heap.DictRaw a es ep := dctO_raw (I.hok a _ d.st)
theorem Dct.keysV (d : Dct X.K X.w F H a es ep kvs) (I : Inv X pins σ H s) (e : Same F H) : KeysV X.w s.heap es (kvs.map (·.1)) := d.rs.keysV I e d.nd d.dp
theorem Dct.size {K : PySem.W.Frag} {w : World} (d : Dct K w F H a es ep kvs) : es.size = kvs.length := by rw [← Array.length_toList]; exact d.rs.length
theorem Dct.ofRep {K : PySem.W.Frag} {w : World} {v : V} (h : Rep K w F v (.dict kvs)) (e : Same F H) : ∃ a es ep, v = .ref a ∧ Dct K w F H a es ep kvs := by
  cases h with
  | dct h1 h2 h3 h4 h5 => exact ⟨_, _, _, rfl, e _ _ h1, h2, h3, h4, h5⟩
theorem Dct.ofMem {K : PySem.W.Frag} {w : World} (ok : Ok K w G F M H) (h : (a, MO.dc kvs) ∈ M) : ∃ es ep, Dct K w F H a es ep kvs := by
  obtain ⟨_, _, es, ep, h1, h2, h3, h4, h5⟩ := ok.m a _ h
  exact ⟨es, ep, h1, h2, h3, h4, h5⟩
/-! ### the operations -/
def rIxV (K : PySem.W.Frag) (w : World) : R2 := fun x y H Q => ∃ F a es ep kvs k d, x = .ref a ∧ Same F H ∧ Dct K w F H a es ep kvs ∧ Rep K w F y (kd k) ∧ k.depth ≤ 8 ∧ dlook k kvs = some d ∧ ∀ v, Rep K w F v d → Q v H
theorem ix_V (hu : X.A.units + 9 < cLine) : IxR X (rIxV X.K X.w) := by
  intro value slice pins s σ H x y v u Q I rx ry h hs
  obtain ⟨F, a, es, ep, kvs, k, d, rfl, e, D, rk, kdp, hl, q⟩ := h
  obtain rfl := (rx : v = _)
  obtain ⟨v0, y0, h1, h2, h3⟩ := D.rs.look D.nd hl
  have hm := D.raw I
  refine tail_any hm.typeIs PySem.F.slot_dict_getitem.lookup ?_ hs
  exact item_V hu (Rep.key I e k rk ry) kdp hm (D.keysV I e) h1 ⟨y0, H, I.tok _, h2, q y0 h3⟩
def rInV (K : PySem.W.Frag) (w : World) (neg : Bool) : R2 := fun y x H Q => ∃ F a es ep kvs k, x = .ref a ∧ Same F H ∧ Dct K w F H a es ep kvs ∧ Rep K w F y (kd k) ∧ k.depth ≤ 8 ∧ Q (.bl (if neg then !decide (k ∈ kvs.map (·.1)) else decide (k ∈ kvs.map (·.1)))) H
theorem op_inV (hu : X.A.units + 9 < cLine) : OpR X (compareOp .In) (rInV X.K X.w false) := by
  intro pins s σ H y x u v Q I ry rx h
  obtain ⟨F, a, es, ep, kvs, k, rfl, e, D, rk, kdp, q⟩ := h
  obtain rfl := (rx : v = _)
  exact in_V hu (Rep.key I e k rk ry) kdp D.ns (D.raw I) (D.keysV I e) ⟨.bl _, H, I.tok _, rfl, q⟩
theorem op_notInV (hu : X.A.units + 9 < cLine) : OpR X (compareOp .NotIn) (rInV X.K X.w true) := by
  intro pins s σ H y x u v Q I ry rx h
  obtain ⟨F, a, es, ep, kvs, k, rfl, e, D, rk, kdp, q⟩ := h
  obtain rfl := (rx : v = _)
  exact notIn_V hu (Rep.key I e k rk ry) kdp D.ns (D.raw I) (D.keysV I e) ⟨.bl _, H, I.tok _, rfl, q⟩
/-- behind a store -/
theorem Dct.put {K : PySem.W.Frag} {w : World} {k : NestedKey} {d : D} {es' : Array DictEntry} {ks' : List NestedKey} {ep' : Nat} {x y : V} {u v : Value} {H' : Hp} (D : Dct K w F H a es ep kvs) (P : PutV w es (kvs.map (·.1)) k u v es' ks') (rx : RelV x u) (hx : Rep K w F x (kd k)) (kdp : k.depth ≤ 8) (ry : RelV y v) (hy : Rep K w F y d)
    (nd : ks'.Nodup) (st : H' a = some (dctO a es' ep')) : Dct K w F H' a es' ep' (dput k d kvs) := by
  obtain ⟨r, ek⟩ := D.rs.put D.nd P rx hx ry hy
  refine ⟨st, D.ns, by rw [← ek]; exact nd, fun k' hk => ?_, r⟩
  rw [dput_keys] at hk
  split at hk
  · exact D.dp k' hk
  · rcases List.mem_append.mp hk with h | h
    · exact D.dp k' h
    · rw [show k' = k by simpa using h]; exact kdp
def rSetV (K : PySem.W.Frag) (w : World) : V → V → V → Hp → (Hp → Prop) → Prop := fun o i v H Q => ∃ F a es ep kvs k d, o = .ref a ∧ Same F H ∧ F a = none ∧ Dct K w F H a es ep kvs ∧ Rep K w F i (kd k) ∧ k.depth ≤ 8 ∧ Rep K w F v d ∧ kvs.length ≤ 100000 ∧
  ∀ es' ep', Dct K w F (upd H a (dctO a es' ep')) a es' ep' (dput k d kvs) → Q (upd H a (dctO a es' ep'))
theorem store_V {A : Around} {E : Value → Shared → Prop} {x y : V} {u v : Value} {k : NestedKey} {d : D} {Q : Unit → Shared → Prop} {t' : Nat} {h' : Heap} {es' : Array DictEntry} {ks' : List NestedKey} {ep' : Nat} (I : Inv X pins σ H s) (e : Same F H) (D : Dct X.K X.w F H a es ep kvs)
    (rk : Rep X.K X.w F x (kd k)) (ru : RelV x u) (kdp : k.depth ≤ 8) (rd : Rep X.K X.w F y d) (rv : RelV y v) (P : PutV X.w es (kvs.map (·.1)) k u v es' ks') (hr : h'.DictRaw a es' ep') (sb : Heap.SameBut a s.heap h') :
    Inv X pins σ (upd H a (dctO a es' ep')) { s with heap := h', toks := t' } ∧ Dct X.K X.w F (upd H a (dctO a es' ep')) a es' ep' (dput k d kvs) := by
  have KS := D.keysV I e
  have KS' := P.keys KS (Rep.key I e k rk ru) kdp
  refine ⟨?_, D.put P ru rk kdp rv rd KS'.nd upd_same⟩
  exact d_write I (by rw [D.st]; exact True.intro) sb (let ⟨o, ho, _⟩ := hr; ⟨o, ho⟩) (dctO_ok hr)
theorem set_V (hu : X.A.units + 9 < cLine) : PSet X (rSetV X.K X.w) := by
  intro pins s σ H o i v ov iv u Q I ro ri rv h
  obtain ⟨F, a, es, ep, kvs, k, d, rfl, e, fa, D, rk, kdp, rd, hz, q⟩ := h
  obtain rfl := (ro : ov = _)
  refine setItem_V hu (Rep.key I e k rk ri) kdp (D.raw I) (D.keysV I e) (by rw [D.size]; exact sz_le hz) fun h' es' ks' ep' P hr sb => ?_
  obtain ⟨I', D'⟩ := store_V (A := X.A) (E := X.xe) (Q := fun _ _ => True) (t' := s.toks + k.draws) I e D rk ri kdp rd rv P hr sb
  exact ⟨_, I', q es' ep' D'⟩
/-- len(d) -/
theorem call_lenV : CallR X (.builtin "len") (fun xs H Q => ∃ F a es ep kvs, xs = [.ref a] ∧ Dct X.K X.w F H a es ep kvs ∧ kvs.length ≤ 100000 ∧ Q (.int kvs.length) H) := by
  intro pins s σ H xs us Q I r h
  obtain ⟨F, a, es, ep, kvs, rfl, D, hz, q⟩ := h
  obtain ⟨u, rfl, rx⟩ := vals1 r
  obtain rfl := (rx : u = _)
  have hm := D.raw I
  refine PyProof.Rows.call_len_slot (n := kvs.length) hm.typeIs PySem.F.slot_dict_len (fun Q' hq => call_len_raw D.ns hm (by rw [D.size]; exact hq)) (by omega) (by omega) ?_
  exact ⟨.int _, H, I.tok _, ⟨_, rfl⟩, q⟩
/-- list(d) -/
theorem key_V {K : PySem.W.Frag} {w : World} : ∀ {es : List DictEntry} {kvs : List (NestedKey × D)}, Rents K w F es kvs → ∃ xs : List V, Vals xs (es.map (·.key)) ∧ Reps K w F xs (kvs.map fun p => kd p.1)
  | _, _, .nil => ⟨[], .nil, .nil⟩
  | _, _, .cons a b c d e r => let ⟨xs, h1, h2⟩ := key_V r; ⟨_ :: xs, .cons b h1, .cons c h2⟩
theorem call_listV (hc : X.calm = true) : CallR X (.type "list") (fun xs H Q => ∃ F a es ep kvs, xs = [.ref a] ∧ Dct X.K X.w F H a es ep kvs ∧ kvs.length ≤ 100000 ∧ ∀ q xs, H q = none → Reps X.K X.w F xs (kvs.map fun p => kd p.1) → Q (.ref q) (upd H q (.lst xs))) := by
  intro pins s σ H xs us Q I r h
  obtain ⟨F, a, es, ep, kvs, rfl, D, hz, q⟩ := h
  obtain ⟨u, rfl, rx⟩ := vals1 r
  obtain rfl := (rx : u = _)
  obtain ⟨ob, ho, hx, hd⟩ := D.raw I
  obtain ⟨xs, v1, v2⟩ := key_V D.rs
  refine PySem.W.kdl_call (kdl_raw D.ns hx hd) (I.ok.hd hc) ho (by rw [D.size]; exact sz_le hz) fun h' tk acc' c' hkeep hS hacc => ?_
  have hl : acc'.toList = es.toList.map (·.key) := by
    apply List.ext_getElem?
    intro j
    by_cases hj : j < es.size
    · obtain ⟨y, hy⟩ : ∃ y, acc'[j]? = some y := ⟨acc'[j]'(by rw [hacc.1]; exact hj), Array.getElem?_eq_getElem _⟩
      obtain ⟨en, h1, h2⟩ := hacc.2 j y hy
      rw [Array.getElem?_toList, hy, List.getElem?_map, Array.getElem?_toList, h1, h2]
      rfl
    · rw [List.getElem?_eq_none (by rw [Array.length_toList, hacc.1]; omega), List.getElem?_eq_none (by rw [List.length_map, Array.length_toList]; omega)]
  refine ⟨.ref s.heap.objs.size, upd H s.heap.objs.size (.lst xs), I.laid hkeep (Nat.le_refl _) ⟨?_, acc'.toList, c', by rw [hl]; exact v1, ?_⟩, rfl, q _ xs (I.hok.fresh (Nat.le_refl _)) v2⟩
  · rw [v2.length, List.length_map]; exact sz_le hz
  · rw [Array.toArray_toList]; exact hS
/-! ### for k in d -/
def ItV (d : Addr) (es : Array DictEntry) (ep : Nat) : It :=
  ⟨fun i H => H d = some (dctO d es ep) ∧ i < es.size, fun i H x H' => H' = H ∧ ∃ e, es[i]? = some e ∧ RelV x e.key, fun i H => H d = some (dctO d es ep) ∧ es.size ≤ i⟩
theorem turn_V {P : Program} {w : World} {K : PySem.W.Frag} {tg : Expr} (it d : Addr) (es : Array DictEntry) (ep : Nat) (xs : ∀ (i : Nat) (e : DictEntry), es[i]? = some e → ∃ x, RelV x e.key) : Turn P w K tg (ItV d es ep) [it] it (fun i h => h.IsKeyIter it d i es.size ep) where
  mem := by simp
  obj := fun i h st b hb => by
    have e : b = it := by simpa using hb
    subst e
    obtain ⟨oi, e, c, dd⟩ := st
    exact ⟨oi, e, fun v z => by rw [dd] at z; cases z⟩
  keep := fun i h h' st k => let ⟨oi, e, r⟩ := st; ⟨oi, k it (by simp) oi e, r⟩
  item := by
    intro X hP hw hK hc i pins s σ H E I hf st hg
    subst hP hw hK
    obtain ⟨hd, hi⟩ := hg
    obtain ⟨f0, f1, f2, f3, f4, f5⟩ := hf it (by simp)
    have hm : s.heap.DictRaw d es ep := dctO_raw (I.hok d _ hd)
    obtain ⟨x, rx⟩ := xs i es[i] (Array.getElem?_eq_getElem hi)
    refine wpAny_pyNext_keys_item_raw st hm hi fun h' st' sb => ?_
    have I1 : Inv X pins σ H { s with heap := h' } := I.turned (t' := s.toks) (fun b ob hb e => (sb.2 b hb).trans e) f0 f1 f3 f4 f5
    obtain ⟨oi, e, c, dd⟩ := id st'
    exact ⟨_, rfl, go_of (s := { s with heap := h' }) e c dd (by decide) ⟨x, H, I1, rx, ⟨rfl, _, Array.getElem?_eq_getElem hi, rx⟩, st', fun b hb => (hf b hb).1⟩⟩
  done := by
    intro X hP hw hK hc i pins s σ H E I hf st hg
    subst hP hw hK
    obtain ⟨hd, hi⟩ := hg
    obtain ⟨f0, f1, f2, f3, f4, f5⟩ := hf it (by simp)
    have hm : s.heap.DictRaw d es ep := dctO_raw (I.hok d _ hd)
    exact wpAny_pyNext_keys_end_raw (I.ok.hd hc) st hm hi fun h' eb => ⟨rfl, I.turned (t' := s.toks) (fun b ob hb e => eb b ob hb e) f0 f1 f3 f4 f5⟩
  self := fun A i s Q E st h => wpAny_pyIter_keyiter st h
def iV (K : PySem.W.Frag) (w : World) (td : TE) : TI := fun σ H R => td σ H fun x H1 => ∃ F a es ep kvs, x = .ref a ∧ Dct K w F H1 a es ep kvs ∧ R (ItV a es ep) H1
theorem pi_V {tg e : Expr} {td : TE} (he : PE X e td) : PI X tg e (iV X.K X.w td) := by
  refine ⟨fun pins s σ H R I h => ?_⟩
  refine thn (he.run pins s σ H _ I h) fun u s1 ⟨x, H1, I1, rx, F, a, es, ep, kvs, ex, D, q⟩ => ?_
  subst ex
  obtain rfl := (rx : u = _)
  have hm := D.raw I1
  refine wpAny_pyIter_dict_raw D.ns hm (pi_one (tk := s1.toks) I1 _ (turn_V _ a es ep fun i en he => ?_) ⟨_, Heap.get?_push_size _ rfl, rfl, rfl⟩ q)
  have hi : i < kvs.length := by rw [← D.size]; exact (Array.getElem?_eq_some_iff.mp he).1
  obtain ⟨⟨k, d⟩, hk⟩ : ∃ p, kvs[i]? = some p := ⟨_, List.getElem?_eq_getElem hi⟩
  obtain ⟨e', x, y, h1, _, h3, _⟩ := D.rs.get hk
  rw [Array.getElem?_toList, he] at h1
  cases h1
  exact ⟨x, h3⟩
/-! ### {k: v for .. in ..} -/
theorem new_V {h : Heap} {P : Program} {w : World} {H : Hp} : ObjOk P w H (h.push { cls := .type "dict", data := .dict #[] }) h.objs.size (dctO h.objs.size #[] 0) := dctO_ok ⟨_, Heap.get?_push_size _ rfl, ⟨rfl, rfl, rfl⟩, rfl⟩
def tDcV (K : PySem.W.Frag) (w : World) (wi : TI) (g : TG) (tt : TT) (tk tv : TE) (vs : List Nat) : TE := fun σ H Q => wi σ H fun J H1 => ∀ D, H1 D = none → (D == sysModules) = false → ∃ W : Nat → Nat → Hp → Prop, (∃ m, W 0 m (upd H1 D (dctO D #[] 0))) ∧ ∀ i m H, W i m H →
  (J.stop i H ∧ Q (.ref D) H) ∨ (J.go i H ∧ ∃ Nx : Hp → Prop, (∀ H', Nx H' → ∃ m', m' < m ∧ W (i + 1) m' H') ∧ ∀ x H', J.yld i H x H' → g x (wipe σ vs) H' fun σ2 H2 => wipe σ2 vs = wipe σ vs ∧ tt σ2 H2 fun b H3 =>
    if b = true then tk σ2 H3 fun y H4 => tv σ2 H4 fun z H5 => rSetV K w (.ref D) y z H5 Nx else Nx H3)
theorem dc_coreV {pins : List (Addr × Obj)} {s : Shared} {σ : L2.St} {H : Hp} {Q : VK} {kx vx tg iter : Expr} {ifs : List Expr} {scope : Scope} {own : List (Str × Nat)} {pos pos' : Pos} {wi : TI} {g : TG} {tt : TT} {tk tv : TE} {use : Option (Value → Sem Unit)} {Qf : Value → Shared → Prop} (I : Inv X pins σ H s) (hu : X.A.units + 9 < cLine) (hc : X.calm = true) (hN : X.N.Nodup) (hi : PI X tg iter wi) (ok : BlkOk X.N X.env.scope scope own)
    (hg : ∀ (s : Shared) (H : Hp) (C : Addr) (cl : List (Str × Addr)) (fp : List Addr), PG (X.blk s H scope (compEnvC scope cl C X.env) fp) tg g) (ht : ∀ (s : Shared) (H : Hp) (C : Addr) (cl : List (Str × Addr)) (fp : List Addr), PTs (X.blk s H scope (compEnvC scope cl C X.env) fp) ifs tt)
    (hk : ∀ (s : Shared) (H : Hp) (C : Addr) (cl : List (Str × Addr)) (fp : List Addr), PE (X.blk s H scope (compEnvC scope cl C X.env) fp) kx tk) (he : ∀ (s : Shared) (H : Hp) (C : Addr) (cl : List (Str × Addr)) (fp : List Addr), PE (X.blk s H scope (compEnvC scope cl C X.env) fp) vx tv)
    (hs : ∀ x, foldedSetIterable iter X.env x = pure x) (h : tDcV X.K X.w wi g tt tk tv (own.map (·.2)) σ H Q)
    (hRR : ∀ D C s' m H', Inv X pins σ H' s' → Q (.ref D) H' → s'.heap.Ns C m → FpOk X pins H' C → compPost (model X.prog X.w) X.A X.xe use Qf (.ref D) C (.ok .next) s') :
    wpAny (model X.prog X.w) X.A (comprehension (.DictComp kx vx [⟨tg, iter, ifs, 0⟩] scope pos) scope X.env pos' newDict false (eval iter X.env) use) Qf X.xe s := by
  have hfree : ∀ y ∈ scope.names, y.2 = .free → ∃ c, X.env.cells.lookup y.1 = some c := fun y hy e => (ok.free y hy e).elim (fun z => I.ok.has _ (.inl z)) fun z => I.ok.has _ (.inr z)
  refine wpAny_comprehension_free (use := use) rfl hs (closure_ok hfree) ok.kind (fun y hy e => by rw [ok.uniq y hy, e])
    (thn (hi.run pins s σ H _ I h) fun xv s1 hx => thn hx fun itv s2 ⟨it, fp, tn, J, H2, e, I2, T, st2, f2, q⟩ => ?_)
  subst e
  refine wpAny_newObj_type (newEnv_comp ?_)
  generalize hD : s2.heap.objs.size = D
  obtain ⟨W, ⟨m0, w0⟩, turn⟩ := q D (I2.hok.fresh (Nat.le_of_eq hD)) (by rw [← hD]; exact beq_eq_false_iff_ne.mpr (Nat.ne_of_gt I2.big))
  -- the new dict, then the block's own frame
  generalize h3 : s2.heap.push { cls := .type "dict", data := .dict #[] } = hp3
  have k3 : ∀ b o, s2.heap.get? b = some o → hp3.get? b = some o := fun b o z => by rw [← h3]; exact Heap.get?_push_of_some _ z
  generalize hH3 : upd H2 D (dctO D #[] 0) = H3 at w0
  have I3 : Inv X pins σ H3 { s2 with heap := hp3 } := by
    rw [← hH3]
    refine I2.laid (t' := s2.toks) k3 (Nat.le_of_eq hD) ?_
    rw [← hD, ← h3]
    exact new_V
  have f3 : ∀ b ∈ fp, FpOk X pins H3 b ∧ b < hp3.objs.size := fun b hb => by
    obtain ⟨o, z, _⟩ := T.obj _ _ st2 b hb
    have lt := Heap.lt_size z
    refine ⟨⟨?_, (f2 b hb).2⟩, Heap.lt_size (k3 b o z)⟩
    rw [← hH3, upd_ne (by rw [← hD]; exact Nat.ne_of_lt lt)]
    exact (f2 b hb).1
  have I4 := block_start I3 ok hN f3
  have pg := hg { s2 with heap := hp3 } H3 hp3.objs.size (cellsFrom (hp3.objs.size + 1) scope.names (cloFrom X.env.cells scope.names [])) fp
  have pt := ht { s2 with heap := hp3 } H3 hp3.objs.size (cellsFrom (hp3.objs.size + 1) scope.names (cloFrom X.env.cells scope.names [])) fp
  have pk := hk { s2 with heap := hp3 } H3 hp3.objs.size (cellsFrom (hp3.objs.size + 1) scope.names (cloFrom X.env.cells scope.names [])) fp
  have pe := he { s2 with heap := hp3 } H3 hp3.objs.size (cellsFrom (hp3.objs.size + 1) scope.names (cloFrom X.env.cells scope.names [])) fp
  show codeAny _ _ (.compStart (.DictComp kx vx [⟨tg, iter, ifs, 0⟩] scope pos) 0 (.ref it) (.ref D) (compEnvC scope (cellsFrom (hp3.objs.size + 1) scope.names (cloFrom X.env.cells scope.names [])) hp3.objs.size X.env))
    (compPost (model X.prog X.w) X.A X.xe use Qf (.ref D) hp3.objs.size) { s2 with heap := pushCells (hp3.push { cls := .type "dict", data := .dict #[] }) scope.names }
  have cL : (compEnvC scope (cellsFrom (hp3.objs.size + 1) scope.names (cloFrom X.env.cells scope.names [])) hp3.objs.size X.env).locals = hp3.objs.size := rfl
  generalize compEnvC scope (cellsFrom (hp3.objs.size + 1) scope.names (cloFrom X.env.cells scope.names [])) hp3.objs.size X.env = ce at I4 pg pt pk pe cL ⊢
  have st4 : tn 0 (pushCells (hp3.push { cls := .type "dict", data := .dict #[] }) scope.names) := T.keep _ _ _ st2 fun b _ o z => pushCells_keeps _ _ _ _ (Heap.get?_push_of_some _ (k3 b o z))
  generalize hs4 : ({ s2 with heap := pushCells (hp3.push { cls := .type "dict", data := .dict #[] }) scope.names } : Shared) = s4 at I4 ⊢
  have st4 : tn 0 s4.heap := by rw [← hs4]; exact st4
  generalize hY : X.blk { s2 with heap := hp3 } H3 scope ce fp = Y at I4 pg pt pk pe
  have stat : ∀ {σ' : L2.St} {H' : Hp} {s' : Shared}, Inv Y [] σ' H' s' → (∀ b ∈ fp, H' b = none) → ∀ b ∈ fp, FpOk Y [] H' b := fun {σ' H' s'} I' hn b hb => by
    subst hY
    exact ⟨hn b hb, (I'.ok.exf b hb).1, I'.ok.exfs b hb, .inl hb, fun x c e => (I'.ok.exf b hb).2 x c e, fun p hp => absurd (show p ∈ ([] : List (Addr × Obj)) ++ [] from hp) (by simp)⟩
  have loop : codeAny (model X.prog X.w) X.A (.compLoop (.DictComp kx vx [⟨tg, iter, ifs, 0⟩] scope pos) 0 (.ref it) (.ref D) ce) (compPost (model X.prog X.w) X.A X.xe use Qf (.ref D) hp3.objs.size) s4 := by
    refine compLoop_anyD (fun n s' => ∃ i H', Inv Y [] (wipe σ (own.map (·.2))) H' s' ∧ tn i s'.heap ∧ (∀ b ∈ fp, H' b = none) ∧ W i n H') ?_ m0 ⟨0, H3, I4, st4, fun b hb => (f3 b hb).1.1, w0⟩
    rintro n s5 ⟨i, H5, I5, st5, n5, w5⟩
    have hprog : Y.prog = X.prog := by rw [← hY]
    have hw' : Y.w = X.w := by rw [← hY]
    have hK : Y.K = X.K := by rw [← hY]
    have hA : Y.A = X.A := by rw [← hY]
    have hcY : Y.calm = true := by rw [← hY]; exact hc
    have hxe : Y.xe = fun _ _ => False := by rw [← hY]
    have hE : Y.env = ce := by rw [← hY]
    rcases turn i n H5 w5 with ⟨stop, qq⟩ | ⟨go, Nx, hNx, step⟩
    · have td := T.done Y hprog hw' hK hcY i [] s5 _ H5 (fun _ _ => False) I5 (stat I5 n5) st5 stop
      rw [hA] at td
      refine thnF td fun r s6 ⟨hr, I6⟩ => ?_
      subst hr
      subst hY
      have I7 : Inv X pins σ H5 s6 := I3.call' (ch := fp) I6.os I6.base I6.hok I6.bare fun b hb => ⟨(f3 b hb).1.2.2.2.1, (f3 b hb).1.2.1, (f3 b hb).1.2.2.2.2.1, (f3 b hb).1.2.2.2.2.2⟩
      have nC : H5 hp3.objs.size = none := by
        rw [← cL]; exact I6.free
      obtain ⟨m, hn, _⟩ := I6.loc
      have hn : s6.heap.Ns hp3.objs.size m := by rw [← cL]; exact hn
      exact hRR D hp3.objs.size s6 m H5 I7 qq hn (I3.fpOk (Nat.le_refl _) nC)
    · have ti := T.item Y hprog hw' hK hcY i [] s5 _ H5 (fun _ _ => False) I5 (stat I5 n5) st5 go
      rw [hA] at ti
      refine thnF ti fun r s6 ⟨u, hr, h6⟩ => ?_
      subst hr
      refine thnF h6 fun _ s7 ⟨x, H7, I7, r7, y7, st7, n7⟩ => ?_
      have I7' := I7.pinned (stat I7 n7) (T.obj _ _ st7)
      have r8 := pg.run _ s7 _ H7 x u _ I7' r7 (step x H7 y7)
      rw [hprog, hw', hA, hxe, hE] at r8
      refine thnF r8 fun _ s8 ⟨σ8, H8, I8, hw8, q8⟩ => ?_
      have r9 := pt.run _ s8 σ8 H8 _ I8 q8
      rw [hprog, hw', hA, hxe, hE] at r9
      refine thnF r9 fun b s9 ⟨H9, I9, q9⟩ => ?_
      have fin : ∀ {s' : Shared} {H' : Hp}, Inv Y ([] ++ pinsAt fp s7.heap) σ8 H' s' → Nx H' → ∃ m, m < n ∧ ∃ i H', Inv Y [] (wipe σ (own.map (·.2))) H' s' ∧ tn i s'.heap ∧ (∀ b ∈ fp, H' b = none) ∧ W i m H' := fun {s' H'} I' nx => by
        obtain ⟨m', hm, w'⟩ := hNx H' nx
        have pin' : ∀ b ∈ fp, ∀ o, s7.heap.get? b = some o → s'.heap.get? b = some o ∧ H' b = none := fun b hb o z =>
          let pp := I'.pin (b, o) (List.mem_append_right _ (List.mem_append_right _ (mem_pinsAt hb z)))
          ⟨pp.1, pp.2.1⟩
        refine ⟨m', hm, i + 1, H', (I'.unpinned (pins := [])).weak (by rw [← hw8, wipe_length]) (fun j v z => ?_), T.keep _ _ _ st7 fun b hb o z => (pin' b hb o z).1, fun b hb => ?_, w'⟩
        · rw [← hw8] at z
          exact (wipe_some z).1
        · obtain ⟨o, z, _⟩ := T.obj _ _ st7 b hb
          exact (pin' b hb o z).2
      cases b with
      | false =>
        simp only [Bool.false_eq_true, if_false] at q9 ⊢
        exact fin I9 q9
      | true =>
        simp only [if_true] at q9 ⊢
        have rk := pk.run _ s9 σ8 H9 _ I9 q9
        rw [hprog, hw', hA, hxe, hE] at rk
        refine thnF rk fun z s10 ⟨yk, H10, I10, r10, q10⟩ => ?_
        have rv := pe.run _ s10 σ8 H10 _ I10 q10
        rw [hprog, hw', hA, hxe, hE] at rv
        refine thnF rv fun z2 s11 ⟨yv, H11, I11, r11, F, a, es, ep, kvs, k, d, ea, e, fa, DD, rkk, kdp, rd, hz, nx⟩ => ?_
        cases ea
        rw [← hK, ← hw'] at DD rkk rd
        refine dset_V (by omega) (Rep.key I11 e k rkk r10) kdp (DD.raw I11) (by rw [← hw']; exact DD.keysV I11 e) (by rw [DD.size]; exact sz_le hz) fun h' es' ks' ep' P hr sb => ?_
        rw [← hw'] at P
        obtain ⟨I', D'⟩ := store_V (A := X.A) (E := X.xe) (Q := fun _ _ => True) (t' := s11.toks + k.draws) I11 e DD rkk r10 kdp rd r11 P hr sb
        rw [hK, hw'] at D'
        exact fin I' (nx es' ep' D')
  exact codeAny_compStart_dict loop (T.self X.A 0 _ _ _ st4 loop)
theorem pe_dcV {kx vx tg iter : Expr} {ifs : List Expr} {scope : Scope} {own : List (Str × Nat)} {pos : Pos} {wi : TI} {g : TG} {tt : TT} {tk tv : TE} (hu : X.A.units + 9 < cLine) (hc : X.calm = true) (hN : X.N.Nodup) (hi : PI X tg iter wi) (ok : BlkOk X.N X.env.scope scope own)
    (hg : ∀ (s : Shared) (H : Hp) (C : Addr) (cl : List (Str × Addr)) (fp : List Addr), PG (X.blk s H scope (compEnvC scope cl C X.env) fp) tg g) (ht : ∀ (s : Shared) (H : Hp) (C : Addr) (cl : List (Str × Addr)) (fp : List Addr), PTs (X.blk s H scope (compEnvC scope cl C X.env) fp) ifs tt)
    (hk : ∀ (s : Shared) (H : Hp) (C : Addr) (cl : List (Str × Addr)) (fp : List Addr), PE (X.blk s H scope (compEnvC scope cl C X.env) fp) kx tk) (he : ∀ (s : Shared) (H : Hp) (C : Addr) (cl : List (Str × Addr)) (fp : List Addr), PE (X.blk s H scope (compEnvC scope cl C X.env) fp) vx tv)
    (hs : ∀ x, foldedSetIterable iter X.env x = pure x := by intro _; rfl) : PE X (.DictComp kx vx [⟨tg, iter, ifs, 0⟩] scope pos) (tDcV X.K X.w wi g tt tk tv (own.map (·.2))) := by
  refine ⟨fun pins s σ H Q I h => ?_⟩
  rw [arm_eval_DictComp]
  refine dc_coreV I hu hc hN hi ok hg ht hk he hs h fun D C s' m H' I' q hn f => ⟨m, hn, fun h'' sb => ?_⟩
  obtain ⟨f0, f1, f2, f3, f4, f5⟩ := f
  exact ⟨.ref D, H', I'.turned (t' := s'.toks) (fun b o hb e => (sb.2 b hb).trans e) f0 f1 f3 f4 f5, rfl, q⟩
/-- name = {..} on one line, the name a local -/
theorem ps_setDcV {i : Nat} {y : Str} {py : Pos} {kx vx tg iter : Expr} {ifs : List Expr} {scope : Scope} {own : List (Str × Nat)} {pos spos : Pos} {wi : TI} {g : TG} {tt : TT} {tk tv : TE} (hy : X.N[i]? = some y) (hyl : X.env.scope.names.lookup y = some .local)
    (hsw : swapsWith (.DictComp kx vx [⟨tg, iter, ifs, 0⟩] scope pos) (some (.Name y py)) spos.line X.env = pure true) (hu : X.A.units + 9 < cLine) (hc : X.calm = true) (hN : X.N.Nodup) (hi : PI X tg iter wi) (ok : BlkOk X.N X.env.scope scope own)
    (hg : ∀ (s : Shared) (H : Hp) (C : Addr) (cl : List (Str × Addr)) (fp : List Addr), PG (X.blk s H scope (compEnvC scope cl C X.env) fp) tg g) (ht : ∀ (s : Shared) (H : Hp) (C : Addr) (cl : List (Str × Addr)) (fp : List Addr), PTs (X.blk s H scope (compEnvC scope cl C X.env) fp) ifs tt)
    (hk : ∀ (s : Shared) (H : Hp) (C : Addr) (cl : List (Str × Addr)) (fp : List Addr), PE (X.blk s H scope (compEnvC scope cl C X.env) fp) kx tk) (he : ∀ (s : Shared) (H : Hp) (C : Addr) (cl : List (Str × Addr)) (fp : List Addr), PE (X.blk s H scope (compEnvC scope cl C X.env) fp) vx tv)
    (hs : ∀ x, foldedSetIterable iter X.env x = pure x := by intro _; rfl) : PS X (.Assign [.Name y py] (.DictComp kx vx [⟨tg, iter, ifs, 0⟩] scope pos) spos) (tAsg (tDcV X.K X.w wi g tt tk tv (own.map (·.2))) (gName i)) := by
  refine ⟨fun pins s σ H D I h => ?_⟩
  rw [exec_Assign_Name_used _ _ _ _ hsw]
  refine wpAny_bind (wpAny_standAt (wpAny_bind ?_))
  show wpAny _ X.A (do let _ ← comprehension (.DictComp kx vx [⟨tg, iter, ifs, 0⟩] scope pos) scope X.env (firstIterPos [⟨tg, iter, ifs, 0⟩] pos) newDict false (eval iter X.env) (some (assign (.Name y py) X.env))) _ _ s
  have h : tDcV X.K X.w wi g tt tk tv (own.map (·.2)) σ H (fun x H1 => gName i x σ H1 D.nx) := h
  refine wpAny_bind (thn (dc_coreV (Qf := fun _ s' => SP X pins D .next s') I hu hc hN hi ok hg ht hk he hs h fun L C s' m H' I' q hn f => ?_) fun _ s' hq => wpAny_pure (wpAny_pure hq))
  show wpAny _ _ (assign (.Name y py) X.env (.ref L)) _ _ _
  refine wpAny_assign_Name (store_ok2 (v := V.ref L) I' hN hy (.inl hyl) rfl (fun s2 I2 ⟨a, sb, ha⟩ => ?_) (.inr hyl))
  obtain ⟨f0, f1, f2, f3, f4, f5⟩ := f
  have haC : C ≠ a := by
    rcases ha with z | z
    · rw [z]; exact f1
    · exact fun e => f4 y a z e.symm
  refine ⟨m, hn.sameBut sb haC, fun h3 sb3 => ?_⟩
  exact ⟨_, H', I2.turned (t' := s2.toks) (fun b o hb e => (sb3.2 b hb).trans e) f0 f1 f3 f4 f5, q⟩
theorem sw_dc {kx vx : Expr} {gs : List Comprehension} {scope : Scope} {pos py : Pos} {y : Str} {l : Nat} {env : Env} (hk : env.scope.kind = .function) (hy : env.scope.names.lookup y = some .local) (hl : (py.line == pos.line) = true)
    (ha : (scope.names.any fun (n, k) => n == y && (k == .local || k == .cell)) = false) : swapsWith (.DictComp kx vx gs scope pos) (some (.Name y py)) l env = pure true := by
  have ky : env.kindOf y = some .local := hy
  have hb : env.blockKind = .function := by unfold Env.blockKind; rw [hk]; rfl
  unfold swapsWith
  simp only [hb, ky, ha, Expr.pos, hl]
  rfl
end
end K59
namespace K59
open PySem PySem.Spec PyProof.Rows L2
section
variable {X : Cx} {k v : Expr} {pos : Pos}
theorem pe_dnewV : PE X (.Dict [] [] pos) (fun _ H Q => ∀ D, H D = none → (D == sysModules) = false → Q (.ref D) (upd H D (dctO D #[] 0))) := ⟨fun pins s σ H Q I h =>
  wpAny_Dict_empty ⟨.ref s.heap.objs.size, _, I.laid (a := s.heap.objs.size) (t' := s.toks) (fun _ _ q => Heap.get?_push_of_some _ q) (Nat.le_refl _) new_V, rfl, h _ (I.hok.fresh (Nat.le_refl _)) (beq_eq_false_iff_ne.mpr (Nat.ne_of_gt I.big))⟩⟩
theorem pe_disp1V {tk tv : TE} (hu : X.A.units + 9 < cLine) (hk : PE X k tk) (hv : PE X v tv) : PE X (.Dict [some k] [v] pos) (fun σ H Q => ∀ D, H D = none → (D == sysModules) = false → tk σ (upd H D (dctO D #[] 0)) fun y H1 => tv σ H1 fun z H2 => rSetV X.K X.w (.ref D) y z H2 fun H3 => Q (.ref D) H3) := by
  refine ⟨fun pins s σ H Q I h => ?_⟩
  rw [arm_eval_Dict, show (evalEachOpt [some k] X.env).zip ((evalEach [v] X.env).map fun v => do let x ← v; standAt pos; pure x) = [(eval k X.env, (do let x ← eval v X.env; standAt pos; pure x : Sem Value))].map fun p => (some p.1, p.2) from rfl,
    dictDisplay_pairs [(eval k X.env, (do let x ← eval v X.env; standAt pos; pure x : Sem Value))] (by simp) (by show 1 < 17; decide)]
  refine wpAny_bind (wpAny_standAt (wpAny_bind ?_))
  unfold subDict
  refine wpAny_bind (wpAny_alloc ?_)
  have I1 := I.laid (a := s.heap.objs.size) (o := dctO s.heap.objs.size #[] 0) (h' := s.heap.push { cls := .type "dict", data := .dict #[] }) (t' := s.toks) (fun _ _ q => Heap.get?_push_of_some _ q) (Nat.le_refl _) new_V
  have q := h s.heap.objs.size (I.hok.fresh (Nat.le_refl _)) (beq_eq_false_iff_ne.mpr (Nat.ne_of_gt I.big))
  refine wpAny_bind (wpAny_holding ?_)
  refine wp_ite (fun _ => ?_) (fun hn => absurd (by show 1 ≤ 15; decide) hn)
  refine wpAny_bind ?_
  unfold evalPairs
  refine wpAny_bind (thn (hk.run pins _ σ _ _ I1 q) fun u1 s1 ⟨y, H1, I2, ry, q1⟩ => ?_)
  refine wpAny_bind (wpAny_holding (wpAny_bind (thn (hv.run pins s1 σ H1 _ I2 q1) fun u2 s2 ⟨z, H2, I3, rz, F, a, es, ep, kvs, kk, d, ea, e, fa, DD, rk, kdp, rd, hz, nx⟩ => ?_)))
  cases ea
  refine wpAny_bind (wpAny_standAt (wpAny_pure ?_))
  refine wpAny_bind (wpAny_holding ?_)
  unfold evalPairs
  refine wpAny_pure (wpAny_pure ?_)
  refine wpAny_holding (wpAny_bind ?_)
  rw [List.forIn_cons]
  refine wpAny_bind (wpAny_bind (dset_V (by omega) (Rep.key I3 e kk rk ry) kdp (DD.raw I3) (DD.keysV I3 e) (by rw [DD.size]; exact sz_le hz) fun h' es' ks' ep' P hr sb => ?_))
  obtain ⟨I', D'⟩ := store_V (A := X.A) (E := X.xe) (Q := fun _ _ => True) (t' := s2.toks + kk.draws) I3 e DD rk ry kdp rd rz P hr sb
  refine wpAny_pure ?_
  dsimp only
  rw [List.forIn_nil]
  exact wpAny_pure (wpAny_pure (wpAny_pure (wpAny_pure ⟨.ref s.heap.objs.size, _, I', rfl, nx es' ep' D'⟩)))
end
section
variable {X : Cx} {Γ : Gam} {M : Mem} {e a b : Expr} {R : D → Prop} {pos : Pos}
theorem mem_at {M : Mem} {i : Nat} {p : Addr × MO} (h : M[i]? = some p) : p ∈ M := List.mem_of_getElem? h
theorem Ok.newD {K : PySem.W.Frag} {w : World} {G F H : Hp} {p : Addr} (ok : Ok K w G F M H) (hp : H p = none) (ns : (p == sysModules) = false) : Ok K w G F ((p, .dc []) :: M) (upd H p (dctO p #[] 0)) :=
  ok.newM hp ⟨#[], 0, upd_same, ns, List.nodup_nil, fun k hk => absurd hk (by simp), .nil⟩
theorem dm_new : DM X Γ M (.Dict [] [] pos) (IsM (.dc [])) := fun G F H σ Q ok sl q => eMax_of pe_dnewV fun p hp ns => q p _ F _ rfl (Same.refl _) (ok.newD hp ns)
/-- the store, in the memory -/
theorem Ok.setD {K : PySem.W.Frag} {w : World} {G F H : Hp} {p : Addr} {i : Nat} {kvs : List (NestedKey × D)} {k : NestedKey} {d : D} {x y : V} {Q : Hp → Prop} (ok : Ok K w G F M H) (hm : M[i]? = some (p, .dc kvs)) (rk : Rep K w F x (kd k)) (kdp : k.depth ≤ 8) (rd : Rep K w F y d) (hz : kvs.length ≤ 100000)
    (q : ∀ H', Ok K w G F (M.set i (p, .dc (dput k d kvs))) H' → Q H') : rSetV K w (.ref p) x y H Q := by
  obtain ⟨es, ep, DD⟩ := Dct.ofMem ok (mem_at hm)
  refine ⟨F, p, es, ep, kvs, k, d, rfl, ok.f, (ok.m p _ (mem_at hm)).1, DD, rk, kdp, rd, hz, fun es' ep' D' => q _ (ok.put hm ⟨es', ep', upd_same, D'.ns, D'.nd, D'.dp, D'.rs⟩)⟩
theorem dm_disp1 {kk : NestedKey} {d : D} (hu : X.A.units + 9 < cLine) (kdp : kk.depth ≤ 8) (hk : ∀ M, DE X Γ M a (Is (kd kk))) (hv : ∀ M, DE X Γ M b (Is d)) : DM X Γ M (.Dict [some a] [b] pos) (IsM (.dc [(kk, d)])) := fun G F H σ Q ok sl q =>
  eMax_of (pe_disp1V hu pe_max pe_max) fun p hp ns => hk _ G F _ σ _ (ok.newD hp ns) sl fun x d1 F1 H1 r1 s1 k1 p1 => hv _ G F1 H1 σ _ k1 (sl.mono s1) fun y d2 F2 H2 r2 s2 k2 p2 => by
    cases (show d1 = kd kk from r1)
    cases (show d2 = d from r2)
    exact k2.setD (i := 0) rfl (p1.mono s2) kdp p2 (by simp) fun H' k' => q p _ F2 H' rfl (s1.trans s2) k'
/-! ### subscripts -/
section
variable {K : PySem.W.Frag} {w : World}
theorem reps_at {F : Hp} {xs : List V} {ds : List D} {i : Int} {d : D} (r : Reps K w F xs ds) (h : atI ds i = some d) : ∃ v, atI xs i = some v ∧ Rep K w F v d := by
  unfold atI at h ⊢
  rw [r.length]
  cases e : ixN ds.length i with
  | none => rw [e] at h; cases h
  | some j => rw [e] at h; exact r.get h
theorem od_ixL {ds : List D} {i : Int} {d : D} (h : atI ds i = some d) : OpD K w (rIxL K) (.list ds) (.int i) (Is d) := fun G F H M x y Q ok r1 r2 q => by
  cases r2
  cases r1 with
  | lst hq rs =>
    obtain ⟨v, h1, h2⟩ := reps_at rs h
    exact ⟨_, _, i, v, rfl, rfl, (sq_l ok.f hq), h1, q _ _ F H rfl (Same.refl _) ok h2⟩
theorem od_ixT {ds : List D} {i : Int} {d : D} (h : atI ds i = some d) : OpD K w (rIxT K) (.tup ds) (.int i) (Is d) := fun G F H M x y Q ok r1 r2 q => by
  cases r2
  cases r1 with
  | tup hq rs =>
    obtain ⟨v, h1, h2⟩ := reps_at rs h
    exact ⟨_, _, i, v, rfl, rfl, same_t ok.f hq, h1, q _ _ F H rfl (Same.refl _) ok h2⟩
theorem od_ixS {z : Str} {i : Int} {c : Nat} (hz : z.length ≤ 100000) (h : atI z.cps.toList i = some c) : OpD K w rIxS (.str z) (.int i) (Is (.str ⟨#[c]⟩)) := fun G F H M x y Q ok r1 r2 q => by
  cases r2; cases r1
  exact ⟨z, i, c, rfl, rfl, sz_le hz, h, q _ _ F H rfl (Same.refl _) ok (.str _)⟩
theorem od_ixV {kvs : List (NestedKey × D)} {k : NestedKey} {d : D} (kdp : k.depth ≤ 8) (h : dlook k kvs = some d) : OpD K w (rIxV K w) (.dict kvs) (kd k) (Is d) := fun G F H M x y Q ok r1 r2 q => by
  obtain ⟨p, es, ep, rfl, DD⟩ := Dct.ofRep r1 ok.f
  exact ⟨F, p, es, ep, kvs, k, d, rfl, ok.f, DD, r2, kdp, h, fun v rv => q v _ F H rfl (Same.refl _) ok rv⟩
end
theorem de_ixL {ds : List D} {i : Int} {d : D} (h : atI ds i = some d) (ha : DE X Γ M a (Is (.list ds))) (hb : DE X Γ M b (Is (.int i))) (hs : PlainIx b := by exact fun _ _ => rfl) : DE X Γ M (.Subscript a b pos) (Is d) :=
  de_of (pe_ix ix_list pe_max pe_max hs) (tOp_D ha hb fun _ _ h1 h2 => by rw [h1, h2]; exact od_ixL h)
theorem de_ixT {ds : List D} {i : Int} {d : D} (h : atI ds i = some d) (ha : DE X Γ M a (Is (.tup ds))) (hb : DE X Γ M b (Is (.int i))) (hs : PlainIx b := by exact fun _ _ => rfl) : DE X Γ M (.Subscript a b pos) (Is d) :=
  de_of (pe_ix ix_tup pe_max pe_max hs) (tOp_D ha hb fun _ _ h1 h2 => by rw [h1, h2]; exact od_ixT h)
theorem de_ixS {z : Str} {i : Int} {c : Nat} (hz : z.length ≤ 100000) (h : atI z.cps.toList i = some c) (ha : DE X Γ M a (Is (.str z))) (hb : DE X Γ M b (Is (.int i))) (hs : PlainIx b := by exact fun _ _ => rfl) : DE X Γ M (.Subscript a b pos) (Is (.str ⟨#[c]⟩)) :=
  de_of (pe_ix ix_str pe_max pe_max hs) (tOp_D ha hb fun _ _ h1 h2 => by rw [h1, h2]; exact od_ixS hz h)
/-- the place is not fixed -/
theorem de_ixLR {ds : List D} {Rb : D → Prop} (ha : DE X Γ M a (Is (.list ds))) (hb : DE X Γ M b Rb) (h : ∀ y, Rb y → ∃ i d, y = .int i ∧ atI ds i = some d ∧ R d) (hs : PlainIx b := by exact fun _ _ => rfl) : DE X Γ M (.Subscript a b pos) R :=
  de_of (pe_ix ix_list pe_max pe_max hs) (tOp_D ha hb fun d1 d2 h1 h2 => by
    obtain ⟨i, d, rfl, h3, h4⟩ := h d2 h2
    rw [show d1 = .list ds from h1]
    exact fun G F H M x y Q ok r1 r2 q => od_ixL h3 G F H M x y Q ok r1 r2 fun v d' F' H' rd => q v d' F' H' (rd ▸ h4))
theorem de_ixTR {ds : List D} {Rb : D → Prop} (ha : DE X Γ M a (Is (.tup ds))) (hb : DE X Γ M b Rb) (h : ∀ y, Rb y → ∃ i d, y = .int i ∧ atI ds i = some d ∧ R d) (hs : PlainIx b := by exact fun _ _ => rfl) : DE X Γ M (.Subscript a b pos) R :=
  de_of (pe_ix ix_tup pe_max pe_max hs) (tOp_D ha hb fun d1 d2 h1 h2 => by
    obtain ⟨i, d, rfl, h3, h4⟩ := h d2 h2
    rw [show d1 = .tup ds from h1]
    exact fun G F H M x y Q ok r1 r2 q => od_ixT h3 G F H M x y Q ok r1 r2 fun v d' F' H' rd => q v d' F' H' (rd ▸ h4))
theorem de_ixSR {z : Str} {Rb : D → Prop} (hz : z.length ≤ 100000) (ha : DE X Γ M a (Is (.str z))) (hb : DE X Γ M b Rb) (h : ∀ y, Rb y → ∃ i c, y = .int i ∧ atI z.cps.toList i = some c ∧ R (.str ⟨#[c]⟩)) (hs : PlainIx b := by exact fun _ _ => rfl) : DE X Γ M (.Subscript a b pos) R :=
  de_of (pe_ix ix_str pe_max pe_max hs) (tOp_D ha hb fun d1 d2 h1 h2 => by
    obtain ⟨i, c, rfl, h3, h4⟩ := h d2 h2
    rw [show d1 = .str z from h1]
    exact fun G F H M x y Q ok r1 r2 q => od_ixS hz h3 G F H M x y Q ok r1 r2 fun v d' F' H' rd => q v d' F' H' (rd ▸ h4))
theorem de_ixV {kvs : List (NestedKey × D)} {k : NestedKey} {d dk : D} (hu : X.A.units + 9 < cLine) (ek : dk = kd k) (kdp : k.depth ≤ 8) (h : dlook k kvs = some d) (ha : DE X Γ M a (Is (.dict kvs))) (hb : DE X Γ M b (Is dk)) (hs : PlainIx b := by exact fun _ _ => rfl) : DE X Γ M (.Subscript a b pos) (Is d) :=
  de_of (pe_ix (ix_V hu) pe_max pe_max hs) (tOp_D ha hb fun _ _ h1 h2 => by rw [h1, h2, ek]; exact od_ixV kdp h)
/-- of what is being filled -/
theorem de_ixPV {p : Addr} {kvs : List (NestedKey × D)} {k : NestedKey} {d dk : D} (hu : X.A.units + 9 < cLine) (hm : (p, MO.dc kvs) ∈ M) (ek : dk = kd k) (kdp : k.depth ≤ 8) (h : dlook k kvs = some d) (ha : DP X Γ a p) (hb : DE X Γ M b (Is dk)) (hs : PlainIx b := by exact fun _ _ => rfl) : DE X Γ M (.Subscript a b pos) (Is d) :=
  de_of (pe_ix (ix_V hu) pe_max pe_max hs) fun G F H σ Q ok sl q => ha X.K X.w F H σ _ sl (hb G F H σ _ ok sl fun y d2 F2 H2 r2 s2 k2 p2 => by
    obtain ⟨es, ep, DD⟩ := Dct.ofMem k2 hm
    rw [show d2 = kd k from r2.trans ek] at p2
    exact ⟨F2, p, es, ep, kvs, k, d, rfl, k2.f, DD, p2, kdp, h, fun v rv => q v _ F2 H2 rfl s2 k2 rv⟩)
theorem de_ixPL {p : Addr} {ds : List D} {i : Int} {d : D} (hm : (p, MO.ls ds) ∈ M) (h : atI ds i = some d) (ha : DP X Γ a p) (hb : DE X Γ M b (Is (.int i))) (hs : PlainIx b := by exact fun _ _ => rfl) : DE X Γ M (.Subscript a b pos) (Is d) :=
  de_of (pe_ix ix_list pe_max pe_max hs) fun G F H σ Q ok sl q => ha X.K X.w F H σ _ sl (hb G F H σ _ ok sl fun y d2 F2 H2 r2 s2 k2 p2 => by
    cases (show d2 = .int i from r2)
    cases p2
    obtain ⟨_, _, xs, hx, rs⟩ := k2.m p _ hm
    obtain ⟨v, h1, h2⟩ := reps_at rs h
    exact ⟨p, xs, i, v, rfl, rfl, SqL.of hx, h1, q v _ F2 H2 rfl s2 k2 h2⟩)
end
end K59
namespace K59
open PySem PySem.Spec PyProof.Rows L2
section
open PySem.SeqAt PySem.W
variable {prog : Program} {w : World} {A : Around} {E : Value → Shared → Prop} {s : Shared}
/-- min(a, b) of two data -/
theorem min_two_data {a b : Value} {x y : PyData} {as bs : List Addr} {Q : Value → Shared → Prop} (hh : A.handled = none) (ra : Reads s.heap a x as) (rb : Reads s.heap b y bs) (ha : AlikeAll [x, y]) (hu : A.units + 1 + PyData.depthAll [x, y] < cLine)
    (h : ∀ h' tk, (∀ c o, s.heap.get? c = some o → h'.get? c = some o) → Q (if dataLt y x = true then b else a) { s with heap := h', toks := tk }) : wpAny (model prog w) A (call (.builtin "min") [a, b]) Q E s := by
  have hname : (toString "min" ++ toString ".loop" : String) = "min.loop" := by decide
  refine call_function_tree F.kind_min F.plain_min F.entry_min (F.args_min2 _ _) ?_
  show wpAny _ A.in1 (Builtin.Builtins.bindParams "min" ["key", "default"] 0 ⟨[], []⟩ >>= _) _ _ s
  refine wpAny_bind (wpAny_of_eq (show Builtin.Builtins.bindParams "min" ["key", "default"] 0 ⟨[], []⟩ = pure [none, none] from rfl) ?_)
  show wpAny _ A.in1 (newTuple [a, b] >>= _) _ _ s
  refine wpAny_bind (wpAny_newObj_type ?_)
  have k1 : ∀ c o, s.heap.get? c = some o → (s.heap.push { cls := .type "tuple", data := .seq #[a, b] }).get? c = some o := fun c o e => Heap.get?_push_of_some _ e
  have hT : (s.heap.push { cls := .type "tuple", data := .seq #[a, b] }).IsTuple s.heap.objs.size #[a, b] := ⟨_, Heap.get?_push_size _ rfl, rfl, 0, rfl⟩
  have rr : ReadsAll (s.heap.push { cls := .type "tuple", data := .seq #[a, b] }) (#[a, b] : Array Value).toList [x, y] _ := .cons (reads_keeps k1 ra) (.cons (reads_keeps k1 rb) .nil)
  generalize hs1 : ({ s with heap := s.heap.push { cls := .type "tuple", data := .seq #[a, b] } } : Shared) = s1
  have hT1 : s1.heap.IsTuple s.heap.objs.size #[a, b] := by rw [← hs1]; exact hT
  have rr1 : ReadsAll s1.heap (#[a, b] : Array Value).toList [x, y] (as ++ (bs ++ [])) := by rw [← hs1]; exact rr
  have k1' : ∀ c o, s.heap.get? c = some o → s1.heap.get? c = some o := by rw [← hs1]; exact k1
  refine wpAny_bind (iter_tupleW (A := A.in1) hh hT1 fun s₂ e W st hfp hw hk => ?_)
  refine wpAny_bind (wpAny_newObj_type ?_)
  have hSf : s₂.heap.objs.size ∉ [s1.heap.objs.size, s.heap.objs.size] := fun hm => Nat.lt_irrefl _ (hfp _ hm)
  rw [hname]
  refine wpAny_pure ⟨plainId_quiet F.plain_min_loop _, codeAny_min_loop_firstH W s1.heap hw _ (cmpIn_lt (A := A.in1) rr1 ha (by show A.units + 1 + _ < _; exact hu)) s₂.heap.objs.size hSf (fresh_in hk) _ (show 0 < 2 by decide) (fun c o z => Heap.get?_push_of_some _ (hk c o z)) (W.frame 0 s₂ _ s₂.toks st (Nat.le_refl _) fun c _ o z => Heap.get?_push_of_some _ z) (Heap.get?_push_size _ rfl) fun v s' hP hm => ?_⟩
  obtain ⟨h', tk, rfl, hk'⟩ := moved_old e rfl (Moved.drop_new (tk := s₂.toks) hm (Nat.le_refl _))
  have e1 : argBest (fun i j => dataLt ([x, y].getD i .none) ([x, y].getD j .none)) 1 = if dataLt y x = true then 1 else 0 := rfl
  have hP : (#[a, b] : Array Value)[argBest (fun i j => dataLt ([x, y].getD i .none) ([x, y].getD j .none)) 1]? = some v := hP
  rw [e1] at hP
  have q := h h' tk fun c o z => hk' c o (k1' c o z)
  have ev : v = if dataLt y x = true then b else a := by
    by_cases hb : dataLt y x = true
    · rw [if_pos hb] at hP ⊢; simpa using hP.symm
    · rw [if_neg hb] at hP ⊢; simpa using hP.symm
  rw [ev]
  rw [← hs1]
  exact q
end
/-! ### data without dicts -/
mutual
def py : D → Option PyData
  | .none => some .none
  | .bool b => some (.bool b)
  | .int i => some (.int i)
  | .str x => some (.str x)
  | .list xs => (pys xs).map .list
  | .tup xs => (pys xs).map .tuple
  | .dict _ => none
def pys : List D → Option (List PyData)
  | [] => some []
  | d :: ds => (py d).bind fun p => (pys ds).map (p :: ·)
end
section
variable {K : PySem.W.Frag} {w : World} {F H : Hp}
mutual
theorem Rep.dp (e : Same F H) : ∀ {d : D} {v : V} {p : PyData}, Rep K w F v d → py d = some p → Dp K H v p
  | .none, _, _, r, h => by cases r; cases h; exact .non
  | .bool b, _, _, r, h => by cases r; cases h; exact .bl b
  | .int i, _, _, r, h => by cases r; cases h; exact .int i
  | .str x, _, _, r, h => by cases r; cases h; exact .str x
  | .list xs, _, _, r, h => by
    rw [py] at h
    obtain ⟨ps, h1, rfl⟩ := Option.map_eq_some_iff.mp h
    cases r with
    | lst hq rs => exact .lst (sq_l e hq) (Reps.dp e rs h1)
  | .tup xs, _, _, r, h => by
    rw [py] at h
    obtain ⟨ps, h1, rfl⟩ := Option.map_eq_some_iff.mp h
    cases r with
    | tup hq rs => exact .tup (same_t e hq) (Reps.dp e rs h1)
  | .dict _, _, _, _, h => by rw [py] at h; cases h
theorem Reps.dp (e : Same F H) : ∀ {ds : List D} {vs : List V} {ps : List PyData}, Reps K w F vs ds → pys ds = some ps → DpAll K H vs ps
  | [], _, _, r, h => by cases r; rw [pys] at h; cases h; exact .nil
  | d :: ds, _, _, r, h => by
    rw [pys] at h
    obtain ⟨p, h1, h2⟩ := Option.bind_eq_some_iff.mp h
    obtain ⟨ps, h3, rfl⟩ := Option.map_eq_some_iff.mp h2
    cases r with
    | cons r1 r2 => exact .cons (Rep.dp e r1 h1) (Reps.dp e r2 h3)
end
theorem od_eqD {d1 d2 : D} {p1 p2 : PyData} (h1 : py d1 = some p1) (h2 : py d2 = some p2) (s1 : SeqAt.shaped p1 = true) (s2 : SeqAt.shaped p2 = true) : OpD K w (rEqD K) d1 d2 (Is (.bool (PyData.eqv p1 p2))) := fun G F H M x y Q ok r1 r2 q =>
  ⟨p1, p2, r1.dp ok.f h1, r2.dp ok.f h2, s1, s2, q _ _ F H rfl (Same.refl _) ok (.bl _)⟩
end
section
variable {X : Cx} {Γ : Gam} {M : Mem} {e a b c : Expr} {es : List Expr} {R : D → Prop} {pos : Pos}
theorem dt_eqD {d1 d2 : D} {p1 p2 : PyData} (hu : X.A.units + 64 < cLine) (h1 : py d1 = some p1) (h2 : py d2 = some p2) (s1 : SeqAt.shaped p1 = true) (s2 : SeqAt.shaped p2 = true) (ha : DE X Γ M a (Is d1)) (hb : DE X Γ M b (Is d2)) : DT X Γ M (.Compare a [.Eq] [b] pos) (IsT (PyData.eqv p1 p2)) :=
  dt_cmp (op_eqD hu) (od_eqD h1 h2 s1 s2) ha hb
/-! ### calls of built-ins -/
def CallD (K : PySem.W.Frag) (w : World) (M : Mem) (r : List V → Hp → VK → Prop) (as : List Sl) (R : D → Prop) : Prop := ∀ (G F H : Hp) (vs : List V) (Q : VK), Ok K w G F M H → ArgsOk K w F vs as →
  (∀ v d F' H', R d → Same F F' → Ok K w G F' M H' → Rep K w F' v d → Q v H') → r vs H Q
theorem tCB_D {r : List V → Hp → VK → Prop} {RA : List Sl → Prop} (ha : DA X Γ M es RA) (ho : ∀ as, RA as → CallD X.K X.w M r as R) (G F H : Hp) (σ : L2.St) (Q : VK) (ok : Ok X.K X.w G F M H) (sl : Slots X.K X.w F σ Γ)
    (q : ∀ v d F' H', R d → Same F F' → Ok X.K X.w G F' M H' → Rep X.K X.w F' v d → Q v H') : tCB r (aMax X es) σ H Q :=
  ha G F H σ _ ok sl fun vs as F1 H1 r1 s1 k1 p1 => ho as r1 G F1 H1 vs Q k1 p1 fun v d F' H' rr ss kk pp => q v d F' H' rr (s1.trans ss) kk pp
theorem de_callB {x : Str} {p : Pos} {id : String} {r : List V → Hp → VK → Prop} {as : List Sl} (hc : CallR X (.builtin id) r) (ho : CallD X.K X.w M r as R) (ha : DA X Γ M (e :: es) (IsA as)) (hm : X.mg x = none) (hg : Gl X x := by rfl) (hv : bootBuiltins x = some (.builtin id) := by decide +kernel)
    (hn : x ≠ "__name__" := by decide) (hdb : (x == ("__debug__" : Str)) = false := by decide) (he : starEach (e :: es) X.env = (false, eval e X.env) :: starEach es X.env := by rfl) (hpl : (backTo pos (starEach es X.env)).any (·.1) = false := by rfl) : DE X Γ M (.Call (.Name x p) (e :: es) [] pos) R :=
  de_of (pe_callB hc hg hm hv pa_max hn hdb he hpl) (tCB_D ha fun as' h => by rw [h]; exact ho)
theorem de_callT {x : Str} {p : Pos} {T : String} {r : List V → Hp → VK → Prop} {as : List Sl} (hc : CallR X (.type T) r) (ho : CallD X.K X.w M r as R) (ha : DA X Γ M (e :: es) (IsA as)) (hm : X.mg x = none) (hg : Gl X x := by rfl) (hv : bootBuiltins x = some (.type T) := by decide +kernel)
    (hn : x ≠ "__name__" := by decide) (hdb : (x == ("__debug__" : Str)) = false := by decide) (he : starEach (e :: es) X.env = (false, eval e X.env) :: starEach es X.env := by rfl) (hpl : (backTo pos (starEach es X.env)).any (·.1) = false := by rfl) : DE X Γ M (.Call (.Name x p) (e :: es) [] pos) R :=
  de_of (pe_callTy hc hg hm hv pa_max hn hdb he hpl) (tCB_D ha fun as' h => by rw [h]; exact ho)
theorem args1 {K : PySem.W.Frag} {w : World} {F : Hp} {vs : List V} {d : D} (h : ArgsOk K w F vs [.dat d]) : ∃ v, vs = [v] ∧ Rep K w F v d := by
  cases h with
  | dat r t => cases t; exact ⟨_, rfl, r⟩
theorem args2 {K : PySem.W.Frag} {w : World} {F : Hp} {vs : List V} {d1 d2 : D} (h : ArgsOk K w F vs [.dat d1, .dat d2]) : ∃ v u, vs = [v, u] ∧ Rep K w F v d1 ∧ Rep K w F u d2 := by
  cases h with
  | dat r t =>
    obtain ⟨u, rfl, r2⟩ := args1 t
    exact ⟨_, _, rfl, r, r2⟩
theorem args3 {K : PySem.W.Frag} {w : World} {F : Hp} {vs : List V} {d1 d2 d3 : D} (h : ArgsOk K w F vs [.dat d1, .dat d2, .dat d3]) : ∃ v u z, vs = [v, u, z] ∧ Rep K w F v d1 ∧ Rep K w F u d2 ∧ Rep K w F z d3 := by
  cases h with
  | dat r t =>
    obtain ⟨u, z, rfl, r2, r3⟩ := args2 t
    exact ⟨_, _, _, rfl, r, r2, r3⟩
abbrev dat1 (d : D) : List Sl := [.dat d]
/-- len -/
theorem de_lenS {z : Str} {x : Str} {p : Pos} (hz : z.length ≤ 100000) (ha : DE X Γ M e (Is (.str z))) (hm : X.mg x = none) (hg : Gl X x := by rfl) (hv : bootBuiltins x = some (.builtin "len") := by decide +kernel) (hn : x ≠ "__name__" := by decide) (hdb : (x == ("__debug__" : Str)) = false := by decide) (he : starEach [e] X.env = (false, eval e X.env) :: starEach [] X.env := by rfl) :
    DE X Γ M (.Call (.Name x p) [e] [] pos) (Is (.int (z.length : Nat))) :=
  de_callB call_len_str (fun G F H vs Q ok ar q => by
    obtain ⟨v, rfl, r⟩ := args1 ar
    cases r
    exact ⟨z, rfl, sz_le hz, q _ _ F H rfl (Same.refl _) ok (.int _)⟩) (da_cons ha da_nil he) hm hg hv hn hdb he
theorem de_lenL {ds : List D} {x : Str} {p : Pos} (ha : DE X Γ M e (Is (.list ds))) (hm : X.mg x = none) (hg : Gl X x := by rfl) (hv : bootBuiltins x = some (.builtin "len") := by decide +kernel) (hn : x ≠ "__name__" := by decide) (hdb : (x == ("__debug__" : Str)) = false := by decide) (he : starEach [e] X.env = (false, eval e X.env) :: starEach [] X.env := by rfl) :
    DE X Γ M (.Call (.Name x p) [e] [] pos) (Is (.int (ds.length : Nat))) :=
  de_callB call_len_seq (fun G F H vs Q ok ar q => by
    obtain ⟨v, rfl, r⟩ := args1 ar
    cases r with
    | lst hq rs =>
      refine ⟨_, _, rfl, .inl ((sq_l ok.f hq)), ?_⟩
      rw [rs.length]
      exact q _ _ F H rfl (Same.refl _) ok (.int _)) (da_cons ha da_nil he) hm hg hv hn hdb he
theorem de_lenT {ds : List D} {x : Str} {p : Pos} (ha : DE X Γ M e (Is (.tup ds))) (hm : X.mg x = none) (hg : Gl X x := by rfl) (hv : bootBuiltins x = some (.builtin "len") := by decide +kernel) (hn : x ≠ "__name__" := by decide) (hdb : (x == ("__debug__" : Str)) = false := by decide) (he : starEach [e] X.env = (false, eval e X.env) :: starEach [] X.env := by rfl) :
    DE X Γ M (.Call (.Name x p) [e] [] pos) (Is (.int (ds.length : Nat))) :=
  de_callB call_len_seq (fun G F H vs Q ok ar q => by
    obtain ⟨v, rfl, r⟩ := args1 ar
    cases r with
    | tup hq rs =>
      refine ⟨_, _, rfl, .inr (same_t ok.f hq), ?_⟩
      rw [rs.length]
      exact q _ _ F H rfl (Same.refl _) ok (.int _)) (da_cons ha da_nil he) hm hg hv hn hdb he
theorem de_lenD {kvs : List (NestedKey × D)} {x : Str} {p : Pos} (hz : kvs.length ≤ 100000) (ha : DE X Γ M e (Is (.dict kvs))) (hm : X.mg x = none) (hg : Gl X x := by rfl) (hv : bootBuiltins x = some (.builtin "len") := by decide +kernel) (hn : x ≠ "__name__" := by decide) (hdb : (x == ("__debug__" : Str)) = false := by decide) (he : starEach [e] X.env = (false, eval e X.env) :: starEach [] X.env := by rfl) :
    DE X Γ M (.Call (.Name x p) [e] [] pos) (Is (.int (kvs.length : Nat))) :=
  de_callB call_lenV (fun G F H vs Q ok ar q => by
    obtain ⟨v, rfl, r⟩ := args1 ar
    obtain ⟨a, es, ep, rfl, DD⟩ := Dct.ofRep r ok.f
    exact ⟨F, a, es, ep, kvs, rfl, DD, hz, q _ _ F H rfl (Same.refl _) ok (.int _)⟩) (da_cons ha da_nil he) hm hg hv hn hdb he
theorem de_lenPL {ds : List D} {q' : Addr} {x : Str} {p : Pos} (hM : (q', MO.ls ds) ∈ M) (ha : DP X Γ e q') (hm : X.mg x = none) (hg : Gl X x := by rfl) (hv : bootBuiltins x = some (.builtin "len") := by decide +kernel) (hn : x ≠ "__name__" := by decide) (hdb : (x == ("__debug__" : Str)) = false := by decide) (he : starEach [e] X.env = (false, eval e X.env) :: starEach [] X.env := by rfl) :
    DE X Γ M (.Call (.Name x p) [e] [] pos) (Is (.int (ds.length : Nat))) :=
  de_callB call_len_seq (fun G F H vs Q ok ar q => by
    cases ar with
    | ptr t =>
      cases t
      obtain ⟨_, _, xs, hx, rs⟩ := ok.m _ _ hM
      refine ⟨_, _, rfl, .inl (SqL.of hx), ?_⟩
      rw [rs.length]
      exact q _ _ F H rfl (Same.refl _) ok (.int _)) (da_ptr ha da_nil he) hm hg hv hn hdb he
theorem de_lenPD {kvs : List (NestedKey × D)} {q' : Addr} {x : Str} {p : Pos} (hz : kvs.length ≤ 100000) (hM : (q', MO.dc kvs) ∈ M) (ha : DP X Γ e q') (hm : X.mg x = none) (hg : Gl X x := by rfl) (hv : bootBuiltins x = some (.builtin "len") := by decide +kernel) (hn : x ≠ "__name__" := by decide) (hdb : (x == ("__debug__" : Str)) = false := by decide) (he : starEach [e] X.env = (false, eval e X.env) :: starEach [] X.env := by rfl) :
    DE X Γ M (.Call (.Name x p) [e] [] pos) (Is (.int (kvs.length : Nat))) :=
  de_callB call_lenV (fun G F H vs Q ok ar q => by
    cases ar with
    | ptr t =>
      cases t
      obtain ⟨es, ep, DD⟩ := Dct.ofMem ok hM
      exact ⟨F, _, es, ep, kvs, rfl, DD, hz, q _ _ F H rfl (Same.refl _) ok (.int _)⟩) (da_ptr ha da_nil he) hm hg hv hn hdb he
end
end K59
namespace K59
open PySem PySem.Spec PyProof.Rows L2
section
variable {X : Cx} {Γ : Gam} {M : Mem} {e a b c : Expr} {es : List Expr} {R : D → Prop} {pos p : Pos} {x : Str}
/-! ### int, abs, all, any -/
theorem de_intB {k : Bool} (ha : DE X Γ M e (Is (.bool k))) (hm : X.mg x = none) (hg : Gl X x := by rfl) (hv : bootBuiltins x = some (.type "int") := by decide +kernel) (hn : x ≠ "__name__" := by decide) (hdb : (x == ("__debug__" : Str)) = false := by decide) (he : starEach [e] X.env = (false, eval e X.env) :: starEach [] X.env := by rfl) :
    DE X Γ M (.Call (.Name x p) [e] [] pos) (Is (.int (if k then 1 else 0))) :=
  de_callT call_int1 (fun G F H vs Q ok ar q => by
    obtain ⟨v, rfl, r⟩ := args1 ar
    cases r
    exact .inr ⟨k, rfl, q _ _ F H rfl (Same.refl _) ok (.int _)⟩) (da_cons ha da_nil he) hm hg hv hn hdb he
theorem de_intI {i : Int} (ha : DE X Γ M e (Is (.int i))) (hm : X.mg x = none) (hg : Gl X x := by rfl) (hv : bootBuiltins x = some (.type "int") := by decide +kernel) (hn : x ≠ "__name__" := by decide) (hdb : (x == ("__debug__" : Str)) = false := by decide) (he : starEach [e] X.env = (false, eval e X.env) :: starEach [] X.env := by rfl) :
    DE X Γ M (.Call (.Name x p) [e] [] pos) (Is (.int i)) :=
  de_callT call_int1 (fun G F H vs Q ok ar q => by
    obtain ⟨v, rfl, r⟩ := args1 ar
    cases r
    exact .inl ⟨i, rfl, q _ _ F H rfl (Same.refl _) ok (.int _)⟩) (da_cons ha da_nil he) hm hg hv hn hdb he
theorem de_abs {i : Int} (ha : DE X Γ M e (Is (.int i))) (hm : X.mg x = none) (hg : Gl X x := by rfl) (hv : bootBuiltins x = some (.builtin "abs") := by decide +kernel) (hn : x ≠ "__name__" := by decide) (hdb : (x == ("__debug__" : Str)) = false := by decide) (he : starEach [e] X.env = (false, eval e X.env) :: starEach [] X.env := by rfl) :
    DE X Γ M (.Call (.Name x p) [e] [] pos) (Is (.int (if i < 0 then -i else i))) :=
  de_callB call_abs (fun G F H vs Q ok ar q => by
    obtain ⟨v, rfl, r⟩ := args1 ar
    cases r
    exact ⟨i, rfl, q _ _ F H rfl (Same.refl _) ok (.int _)⟩) (da_cons ha da_nil he) hm hg hv hn hdb he
theorem de_all {bs : List Bool} (hc : X.calm = true) (ha : DE X Γ M e (Is (.list (bs.map D.bool)))) (hm : X.mg x = none) (hg : Gl X x := by rfl) (hv : bootBuiltins x = some (.builtin "all") := by decide +kernel) (hn : x ≠ "__name__" := by decide) (hdb : (x == ("__debug__" : Str)) = false := by decide) (he : starEach [e] X.env = (false, eval e X.env) :: starEach [] X.env := by rfl) :
    DE X Γ M (.Call (.Name x p) [e] [] pos) (Is (.bool (bs.all id))) :=
  de_callB (cr_all hc) (fun G F H vs Q ok ar q => by
    obtain ⟨v, rfl, r⟩ := args1 ar
    cases r with
    | lst hq rs =>
      have e := rs.bools
      subst e
      exact ⟨_, bs, rfl, (sq_l ok.f hq), q _ _ F H rfl (Same.refl _) ok (.bl _)⟩) (da_cons ha da_nil he) hm hg hv hn hdb he
theorem de_any {bs : List Bool} (hc : X.calm = true) (ha : DE X Γ M e (Is (.list (bs.map D.bool)))) (hm : X.mg x = none) (hg : Gl X x := by rfl) (hv : bootBuiltins x = some (.builtin "any") := by decide +kernel) (hn : x ≠ "__name__" := by decide) (hdb : (x == ("__debug__" : Str)) = false := by decide) (he : starEach [e] X.env = (false, eval e X.env) :: starEach [] X.env := by rfl) :
    DE X Γ M (.Call (.Name x p) [e] [] pos) (Is (.bool (bs.any id))) :=
  de_callB (cr_any hc) (fun G F H vs Q ok ar q => by
    obtain ⟨v, rfl, r⟩ := args1 ar
    cases r with
    | lst hq rs =>
      have e := rs.bools
      subst e
      exact ⟨_, bs, rfl, (sq_l ok.f hq), q _ _ F H rfl (Same.refl _) ok (.bl _)⟩) (da_cons ha da_nil he) hm hg hv hn hdb he
/-! ### isinstance -/
def tyD : D → String
  | .none => "NoneType"
  | .bool _ => "bool"
  | .int _ => "int"
  | .str _ => "str"
  | .list _ => "list"
  | .tup _ => "tuple"
  | .dict _ => "dict"
def noDict : D → Bool
  | .dict _ => false
  | _ => true
theorem Rep.tyx {K : PySem.W.Frag} {w : World} {F H : Hp} {v : V} {d : D} (r : Rep K w F v d) (e : Same F H) (h : noDict d = true) : TyX K H v (.type (tyD d)) := by
  cases r with
  | non => exact .base .non
  | bl b => exact .base (.bl b)
  | int i => exact .base (.int i)
  | str x => exact .base (.str x)
  | lst hq _ =>
    exact .base (.lst (e _ _ hq))
  | tup hq _ =>
    rcases same_t e hq with (z | ⟨o, z⟩) | ⟨o, its, n, hk, hcl, _⟩
    · exact .base (.tup z)
    · exact .fTuple z
    · exact .kTuple hk hcl
  | dct _ _ _ _ _ => cases h
theorem de_isi {d : D} {T : String} {xT : Str} {pT : Pos} {k : Bool} (ha : DE X Γ M e (Is d)) (hm : X.mg x = none) (hmT : X.mg xT = none) (hk : kitB (tyD d) T = some k := by decide +kernel) (hd : noDict d = true := by rfl) (hg : Gl X x := by rfl) (hv : bootBuiltins x = some (.builtin "isinstance") := by decide +kernel) (hgT : Gl X xT := by rfl) (hvT : bootBuiltins xT = some (.type T) := by decide +kernel)
    (hn : x ≠ "__name__" := by decide) (hdb : (x == ("__debug__" : Str)) = false := by decide) (hnT : xT ≠ "__name__" := by decide) (hdbT : (xT == ("__debug__" : Str)) = false := by decide)
    (hs1 : starEach [e, .Name xT pT] X.env = (false, eval e X.env) :: starEach [.Name xT pT] X.env := by rfl) (hs2 : starEach [.Name xT pT] X.env = (false, eval (.Name xT pT) X.env) :: starEach [] X.env := by rfl) (hpl : (backTo pos (starEach [.Name xT pT] X.env)).any (·.1) = false := by rfl) :
    DE X Γ M (.Call (.Name x p) [e, .Name xT pT] [] pos) (Is (.bool k)) :=
  de_of (pe_callB call_isi hg hm hv (pa_cons pe_max (pa_cons (pe_bltn (v := .ty T) hgT hmT hvT rfl hnT hdbT) pa_nil hs2) hs1) hn hdb hs1 hpl) fun G F H σ Q ok sl q => ha G F H σ _ ok sl fun v d' F1 H1 r1 s1 k1 p1 => by
    cases (show d' = d from r1)
    exact ⟨v, .ty T, .type (tyD d), .type T, k, rfl, .ty T, p1.tyx k1.f hd, kit_ty hk, q _ _ F1 H1 rfl s1 k1 (.bl _)⟩
/-! ### min -/
def pyD (d : D) : PyData := (py d).getD .none
/-- min of two -/
theorem call_minD (hc : X.calm = true) (hu : X.A.units + 64 < cLine) : CallR X (.builtin "min") (fun xs H Q => ∃ u v d e, xs = [u, v] ∧ Dp X.K H u d ∧ Dp X.K H v e ∧ PySem.W.AlikeAll [d, e] ∧ PyData.depthAll [d, e] ≤ 8 ∧ Q (if PySem.W.dataLt e d = true then v else u) H) := by
  intro pins s σ H xs us Q I r h
  obtain ⟨x, y, d, e, rfl, hx, hy, al, dp, q⟩ := h
  obtain ⟨u, v, rfl, rx, ry⟩ := vals2 r
  obtain ⟨as, r1⟩ := hx.reads I d x u rx
  obtain ⟨bs, r2⟩ := hy.reads I e y v ry
  refine min_two_data (I.ok.hd hc) r1 r2 al (by omega) fun h' tk k => ⟨_, H, I.kept k, ?_, q⟩
  by_cases hb : PySem.W.dataLt e d = true
  · rw [if_pos hb, if_pos hb]; exact ry
  · rw [if_neg hb, if_neg hb]; exact rx
theorem de_min2 {d1 d2 : D} {p1 p2 : PyData} (hc : X.calm = true) (hu : X.A.units + 64 < cLine) (h1 : py d1 = some p1) (h2 : py d2 = some p2) (al : PySem.W.AlikeAll [p1, p2]) (dp : PyData.depthAll [p1, p2] ≤ 8) (ha : DE X Γ M a (Is d1)) (hb : DE X Γ M b (Is d2)) (hm : X.mg x = none)
    (hg : Gl X x := by rfl) (hv : bootBuiltins x = some (.builtin "min") := by decide +kernel) (hn : x ≠ "__name__" := by decide) (hdb : (x == ("__debug__" : Str)) = false := by decide) (hs1 : starEach [a, b] X.env = (false, eval a X.env) :: starEach [b] X.env := by rfl) (hs2 : starEach [b] X.env = (false, eval b X.env) :: starEach [] X.env := by rfl) (hpl : (backTo pos (starEach [b] X.env)).any (·.1) = false := by rfl) :
    DE X Γ M (.Call (.Name x p) [a, b] [] pos) (Is (if PySem.W.dataLt p2 p1 = true then d2 else d1)) :=
  de_callB (call_minD hc hu) (fun G F H vs Q ok ar q => by
    obtain ⟨v, u, rfl, r1, r2⟩ := args2 ar
    refine ⟨v, u, p1, p2, rfl, r1.dp ok.f h1, r2.dp ok.f h2, al, dp, ?_⟩
    by_cases hb : PySem.W.dataLt p2 p1 = true
    · rw [if_pos hb]; exact q _ _ F H (by rw [if_pos hb]) (Same.refl _) ok r2
    · rw [if_neg hb]; exact q _ _ F H (by rw [if_neg hb]) (Same.refl _) ok r1) (da_cons ha (da_cons hb da_nil hs2) hs1) hm hg hv hn hdb hs1 hpl
theorem call_min3 (hc : X.calm = true) : CallR X (.builtin "min") (fun xs H Q => ∃ i j k, xs = [.int i, .int j, .int k] ∧ Q (.int (min (min i j) k)) H) := by
  intro pins s σ H xs us Q I r h
  obtain ⟨i, j, k, rfl, q⟩ := h
  cases r with
  | cons r1 r =>
    obtain ⟨u, w', rfl, ⟨t, rfl⟩, ⟨t', rfl⟩⟩ := vals2 r
    obtain ⟨t0, rfl⟩ := r1
    refine min_three_ints (I.ok.hd hc) fun h' tk kk => ⟨.int (min (min i j) k), H, I.kept kk, ?_, q⟩
    by_cases h1 : j < i
    · rw [if_pos h1]
      by_cases h2 : k < j
      · rw [if_pos h2]; exact ⟨_, by congr 1; omega⟩
      · rw [if_neg h2]; exact ⟨_, by congr 1; omega⟩
    · rw [if_neg h1]
      by_cases h2 : k < i
      · rw [if_pos h2]; exact ⟨_, by congr 1; omega⟩
      · rw [if_neg h2]; exact ⟨_, by congr 1; omega⟩
theorem de_min3 {i j k : Int} (hc : X.calm = true) (ha : DA X Γ M (e :: es) (IsA [.dat (.int i), .dat (.int j), .dat (.int k)])) (hm : X.mg x = none) (hg : Gl X x := by rfl) (hv : bootBuiltins x = some (.builtin "min") := by decide +kernel) (hn : x ≠ "__name__" := by decide) (hdb : (x == ("__debug__" : Str)) = false := by decide) (he : starEach (e :: es) X.env = (false, eval e X.env) :: starEach es X.env := by rfl) (hpl : (backTo pos (starEach es X.env)).any (·.1) = false := by rfl) :
    DE X Γ M (.Call (.Name x p) (e :: es) [] pos) (Is (.int (min (min i j) k))) :=
  de_callB (call_min3 hc) (fun G F H vs Q ok ar q => by
    obtain ⟨v, u, z, rfl, r1, r2, r3⟩ := args3 ar
    cases r1; cases r2; cases r3
    exact ⟨i, j, k, rfl, q _ _ F H rfl (Same.refl _) ok (.int _)⟩) ha hm hg hv hn hdb he hpl
end
/-- the first of the least -/
def leastD (d : D) (ds : List D) : D := ds.foldl (fun a y => if PySem.W.dataLt (pyD y) (pyD a) then y else a) d
theorem pys_map : ∀ {ds : List D} {ps : List PyData}, pys ds = some ps → ps = ds.map pyD
  | [], _, h => by rw [pys] at h; cases h; rfl
  | d :: ds, _, h => by
    rw [pys] at h
    obtain ⟨p, h1, h2⟩ := Option.bind_eq_some_iff.mp h
    obtain ⟨ps, h3, rfl⟩ := Option.map_eq_some_iff.mp h2
    rw [pys_map h3, List.map_cons]
    unfold pyD
    rw [h1]
    rfl
section
open PySem.SeqAt PySem.W
variable {prog : Program} {w : World} {A : Around} {E : Value → Shared → Prop} {s : Shared}
theorem min_list_at {l : Addr} {vs : Array Value} {ps : List PyData} {as : List Addr} {Q : Value → Shared → Prop} (hh : A.handled = none) (hl : s.heap.IsList l vs) (hr : ReadsAll s.heap vs.toList ps as) (ha : AlikeAll ps) (hn : 0 < ps.length) (hu : A.units + 1 + PyData.depthAll ps < cLine)
    (h : ∀ v h' tk, vs[argBest (fun i j => PySem.W.dataLt (ps.getD i .none) (ps.getD j .none)) (ps.length - 1)]? = some v → (∀ b o, s.heap.get? b = some o → h'.get? b = some o) → Q v { s with heap := h', toks := tk }) : wpAny (model prog w) A (call (.builtin "min") [.ref l]) Q E s := by
  have hz : vs.size = ps.length := readsAll_len hr
  refine call_min_walkH (iter_listW (A := A.in1) hh hl fun s₂ e W st hfp hw hk => ?_)
  refine ⟨_, _, _, _, _, _, _, s.heap, _, rfl, W, st, hfp, by omega, hw, hk, cmpIn_lt (A := A.in1) hr ha (by show A.units + 1 + _ < _; exact hu), fun v s' hP m => ?_⟩
  obtain ⟨h', tk, rfl, hk'⟩ := moved_old e rfl m
  rw [hz] at hP
  exact h v h' tk hP hk'
end
section
variable {X : Cx} {Γ : Gam} {M : Mem} {e a b c : Expr} {es : List Expr} {R : D → Prop} {pos p : Pos} {x : Str}
theorem call_minL (hc : X.calm = true) (hu : X.A.units + 64 < cLine) : CallR X (.builtin "min") (fun xs H Q => ∃ l ys ps, xs = [.ref l] ∧ SqL X.K H l ys ∧ DpAll X.K H ys ps ∧ PySem.W.AlikeAll ps ∧ PyData.depthAll ps ≤ 8 ∧ 0 < ps.length ∧ ∀ v, ys[argBest (fun i j => PySem.W.dataLt (ps.getD i .none) (ps.getD j .none)) (ps.length - 1)]? = some v → Q v H) := by
  intro pins s σ H xs us Q I r h
  obtain ⟨l, ys, ps, rfl, hq, hd, al, dp, hn, q⟩ := h
  obtain ⟨u, rfl, rx⟩ := vals1 r
  obtain rfl := (rx : u = _)
  obtain ⟨its, rv, pl, hz⟩ := I.list hq
  obtain ⟨as, rr⟩ := Dp.readsAll I ps ys its hd rv
  refine min_list_at (I.ok.hd hc) pl.isList (by simpa using rr) al hn (by omega) fun v h' tk hv k => ?_
  have hv' : its[argBest (fun i j => PySem.W.dataLt (ps.getD i .none) (ps.getD j .none)) (ps.length - 1)]? = some v := by simpa using hv
  obtain ⟨z, hz2⟩ : ∃ z, ys[argBest (fun i j => PySem.W.dataLt (ps.getD i .none) (ps.getD j .none)) (ps.length - 1)]? = some z := by
    have hlt := (List.getElem?_eq_some_iff.mp hv').1
    exact ⟨_, List.getElem?_eq_getElem (by rw [rv.length]; exact hlt)⟩
  obtain ⟨v', hv2, rz⟩ := rv.get hz2
  rw [hv'] at hv2
  cases hv2
  exact ⟨z, H, I.kept k, rz, q z hz2⟩
theorem de_minL {d : D} {ds : List D} {ps : List PyData} (hc : X.calm = true) (hu : X.A.units + 64 < cLine) (hp : pys (d :: ds) = some ps) (al : PySem.W.AlikeAll ps) (dp : PyData.depthAll ps ≤ 8) (ha : DE X Γ M e (Is (.list (d :: ds)))) (hm : X.mg x = none) (hg : Gl X x := by rfl) (hv : bootBuiltins x = some (.builtin "min") := by decide +kernel) (hn : x ≠ "__name__" := by decide) (hdb : (x == ("__debug__" : Str)) = false := by decide) (he : starEach [e] X.env = (false, eval e X.env) :: starEach [] X.env := by rfl) :
    DE X Γ M (.Call (.Name x p) [e] [] pos) (Is (leastD d ds)) :=
  de_callB (call_minL hc hu) (fun G F H vs Q ok ar q => by
    obtain ⟨v, rfl, r⟩ := args1 ar
    cases r with
    | lst hq rs =>
      have hps := pys_map hp
      refine ⟨_, _, ps, rfl, (sq_l ok.f hq), rs.dp ok.f hp, al, dp, by rw [hps]; simp, fun v hv => ?_⟩
      have ebt : (fun i j => PySem.W.dataLt (ps.getD i .none) (ps.getD j .none)) = fun i j => (fun a b => PySem.W.dataLt (pyD a) (pyD b)) ((d :: ds).getD i .none) ((d :: ds).getD j .none) := by
        funext i j
        have g : ∀ i : Nat, ps.getD i .none = pyD ((d :: ds).getD i .none) := fun i => by
          rw [hps, List.getD_eq_getElem?_getD, List.getD_eq_getElem?_getD, List.getElem?_map]
          cases (d :: ds)[i]? <;> rfl
        rw [g, g]
      rw [ebt] at hv
      have hl : ps.length - 1 = ds.length := by rw [hps]; simp
      rw [hl] at hv
      obtain ⟨b1, b2⟩ := PySem.W.argBest_fold (fun a b => PySem.W.dataLt (pyD a) (pyD b)) D.none d ds ds.length (Nat.le_refl _)
      rw [List.take_length] at b2
      generalize argBest (fun i j => (fun a b => PySem.W.dataLt (pyD a) (pyD b)) ((d :: ds).getD i .none) ((d :: ds).getD j .none)) ds.length = i0 at hv b1 b2
      have hi0 : (d :: ds)[i0]? = some (leastD d ds) := by
        have lt : i0 < (d :: ds).length := by simp; omega
        rw [List.getElem?_eq_getElem lt]
        rw [List.getD_eq_getElem?_getD, List.getElem?_eq_getElem lt] at b2
        exact congrArg some b2
      obtain ⟨v', h1, h2⟩ := rs.get hi0
      rw [hv] at h1
      cases h1
      exact q _ _ F H rfl (Same.refl _) ok h2) (da_cons ha da_nil he) hm hg hv hn hdb he
end
end K59
namespace K59
open PySem PySem.Spec PyProof.Rows L2
/-- lo, .., hi - 1 -/
def rgD (lo hi : Int) : List D := (List.range (hi - lo).toNat).map fun i => D.int (lo + (i : Nat))
theorem rgD_reps {K : PySem.W.Frag} {w : World} {F : Hp} (lo hi : Int) : Reps K w F (rgV lo hi) (rgD lo hi) := by
  unfold rgV rgD
  have h : ∀ l : List Nat, Reps K w F (l.map fun i => V.int (lo + (i : Nat))) (l.map fun i => D.int (lo + (i : Nat))) := by
    intro l
    induction l with
    | nil => exact .nil
    | cons a r ih => exact .cons (.int _) ih
  exact h _
section
variable {X : Cx} {Γ : Gam} {M : Mem} {e a b c : Expr} {es : List Expr} {R : D → Prop} {pos p : Pos} {x : Str}
theorem de_listRg {lo hi : Int} {er : Expr} {t : L2.St → Hp → (Int → Int → Hp → Prop) → Prop} (hc : X.calm = true) (he : PRg X er t) (hr : ∀ (G F H : Hp) (σ : L2.St) (Q : Int → Int → Hp → Prop), Ok X.K X.w G F M H → Slots X.K X.w F σ Γ → (∀ F' H', Same F F' → Ok X.K X.w G F' M H' → Q lo hi H') → t σ H Q) (hb : RgOk lo hi)
    (hm : X.mg "list" = none) (hg : Gl X "list" := by rfl) (na : starEach [er] X.env = (false, eval er X.env) :: starEach [] X.env := by rfl) : DE X Γ M (.Call (.Name "list" p) [er] [] pos) (Is (.list (rgD lo hi))) :=
  de_of (pe_listRg hc hg hm he na) fun G F H σ Q ok sl q => hr G F H σ _ ok sl fun F1 H1 s1 k1 => ⟨hb, fun z hz => by
    obtain ⟨h1, h2, h3⟩ := k1.lst (rgD_reps lo hi) hz
    exact q _ _ _ _ rfl (s1.trans h2) h1 h3⟩
theorem de_listR1 {n : Int} {pr posr : Pos} (hc : X.calm = true) (ha : DE X Γ M e (Is (.int n))) (hb : RgOk 0 n) (hmr : X.mg "range" = none) (hm : X.mg "list" = none) (hgr : Gl X "range" := by rfl) (hg : Gl X "list" := by rfl) (na0 : starEach [e] X.env = (false, eval e X.env) :: starEach [] X.env := by rfl)
    (na : starEach [(Expr.Call (.Name "range" pr) [e] [] posr)] X.env = (false, eval (Expr.Call (.Name "range" pr) [e] [] posr) X.env) :: starEach [] X.env := by rfl) : DE X Γ M (.Call (.Name "list" p) [Expr.Call (.Name "range" pr) [e] [] posr] [] pos) (Is (.list (rgD 0 n))) :=
  de_listRg hc (prg_1 hgr hmr pe_max na0) (fun G F H σ Q ok sl q => ha G F H σ _ ok sl fun v d F1 H1 r1 s1 k1 p1 => by
    cases (show d = .int n from r1)
    cases p1
    exact ⟨n, rfl, q F1 H1 s1 k1⟩) hb hm hg na
/-- list(d), the keys; list(xs), a copy -/
theorem dm_of {t : TE} {RM : MO → Prop} (h : PE X e t) (k : ∀ (G F H : Hp) (σ : L2.St) (Q : VK), Ok X.K X.w G F M H → Slots X.K X.w F σ Γ → (∀ a o F' H', RM o → Same F F' → Ok X.K X.w G F' ((a, o) :: M) H' → Q (.ref a) H') → t σ H Q) : DM X Γ M e RM :=
  fun G F H σ Q ok sl q => eMax_of h (k G F H σ Q ok sl q)
theorem dm_listD {kvs : List (NestedKey × D)} (hc : X.calm = true) (hz : kvs.length ≤ 100000) (ha : DE X Γ M e (Is (.dict kvs))) (hm : X.mg x = none) (hg : Gl X x := by rfl) (hv : bootBuiltins x = some (.type "list") := by decide +kernel) (hn : x ≠ "__name__" := by decide) (hdb : (x == ("__debug__" : Str)) = false := by decide) (he : starEach [e] X.env = (false, eval e X.env) :: starEach [] X.env := by rfl) :
    DM X Γ M (.Call (.Name x p) [e] [] pos) (IsM (.ls (kvs.map fun p => kd p.1))) :=
  dm_of (pe_callTy (call_listV hc) hg hm hv (pa_cons pe_max pa_nil he) hn hdb he) fun G F H σ Q ok sl q => ha G F H σ _ ok sl fun v d F1 H1 r1 s1 k1 p1 => by
    cases (show d = .dict kvs from r1)
    obtain ⟨a, es, ep, rfl, DD⟩ := Dct.ofRep p1 k1.f
    exact ⟨F1, a, es, ep, kvs, rfl, DD, hz, fun z xs hz rs => q z _ F1 _ rfl s1 (k1.newM hz ⟨xs, upd_same, rs⟩)⟩
theorem dm_listPD {kvs : List (NestedKey × D)} {q' : Addr} (hc : X.calm = true) (hz : kvs.length ≤ 100000) (hM : (q', MO.dc kvs) ∈ M) (ha : DP X Γ e q') (hm : X.mg x = none) (hg : Gl X x := by rfl) (hv : bootBuiltins x = some (.type "list") := by decide +kernel) (hn : x ≠ "__name__" := by decide) (hdb : (x == ("__debug__" : Str)) = false := by decide) (he : starEach [e] X.env = (false, eval e X.env) :: starEach [] X.env := by rfl) :
    DM X Γ M (.Call (.Name x p) [e] [] pos) (IsM (.ls (kvs.map fun p => kd p.1))) :=
  dm_of (pe_callTy (call_listV hc) hg hm hv (pa_cons pe_max pa_nil he) hn hdb he) fun G F H σ Q ok sl q => ha X.K X.w F H σ _ sl (by
    obtain ⟨es, ep, DD⟩ := Dct.ofMem ok hM
    exact ⟨F, _, es, ep, kvs, rfl, DD, hz, fun z xs hz rs => q z _ F _ rfl (Same.refl _) (ok.newM hz ⟨xs, upd_same, rs⟩)⟩)
theorem dm_listL {ds : List D} (ha : DE X Γ M e (Is (.list ds))) (hm : X.mg x = none) (hg : Gl X x := by rfl) (hv : bootBuiltins x = some (.type "list") := by decide +kernel) (hn : x ≠ "__name__" := by decide) (hdb : (x == ("__debug__" : Str)) = false := by decide) (he : starEach [e] X.env = (false, eval e X.env) :: starEach [] X.env := by rfl) :
    DM X Γ M (.Call (.Name x p) [e] [] pos) (IsM (.ls ds)) :=
  dm_of (pe_callTy call_list_of hg hm hv (pa_cons pe_max pa_nil he) hn hdb he) fun G F H σ Q ok sl q => ha G F H σ _ ok sl fun v d F1 H1 r1 s1 k1 p1 => by
    cases (show d = .list ds from r1)
    cases p1 with
    | lst hq rs => exact ⟨_, _, rfl, .inl ((sq_l k1.f hq)), fun l hl => q l _ F1 _ rfl s1 (k1.newM hl ⟨_, upd_same, rs⟩)⟩
theorem de_tupP {ds : List D} {q' : Addr} (hM : (q', MO.ls ds) ∈ M) (ha : DP X Γ e q') (hm : X.mg x = none) (hg : Gl X x := by rfl) (hv : bootBuiltins x = some (.type "tuple") := by decide +kernel) (hn : x ≠ "__name__" := by decide) (hdb : (x == ("__debug__" : Str)) = false := by decide) (he : starEach [e] X.env = (false, eval e X.env) :: starEach [] X.env := by rfl) :
    DE X Γ M (.Call (.Name x p) [e] [] pos) (Is (.tup ds)) :=
  de_callT call_tuple_of (fun G F H vs Q ok ar q => by
    cases ar with
    | ptr t =>
      cases t
      obtain ⟨_, _, xs, hx, rs⟩ := ok.m _ _ hM
      refine ⟨_, xs, rfl, .inl ⟨SqL.of hx, fun l hl => ?_⟩⟩
      obtain ⟨h1, h2, h3⟩ := ok.tup rs hl
      exact q _ _ _ _ rfl h2 h1 h3) (da_ptr ha da_nil he) hm hg hv hn hdb he
/-! ### texts -/
theorem od_addS {K : PySem.W.Frag} {w : World} {i j : Str} (hz : i.length + j.length ≤ 100000) : OpD K w (fun x y H Q => ∃ i j, x = .str i ∧ y = .str j ∧ i.length + j.length ≤ sizeLine ∧ Q (.str (i ++ j)) H) (.str i) (.str j) (Is (.str (i ++ j))) := fun G F H M x y Q ok r1 r2 q => by
  cases r1; cases r2
  exact ⟨i, j, rfl, rfl, sz_le hz, q _ _ F H rfl (Same.refl _) ok (.str _)⟩
theorem de_addS {i j : Str} (hz : i.length + j.length ≤ 100000) (ha : DE X Γ M a (Is (.str i))) (hb : DE X Γ M b (Is (.str j))) : DE X Γ M (.BinOp a .Add b pos) (Is (.str (i ++ j))) := de_op op_add_str (od_addS hz) ha hb
theorem de_addSR {Ra Rb : D → Prop} (ha : DE X Γ M a Ra) (hb : DE X Γ M b Rb) (h : ∀ x y, Ra x → Rb y → ∃ i j, x = .str i ∧ y = .str j ∧ i.length + j.length ≤ 100000 ∧ R (.str (i ++ j))) : DE X Γ M (.BinOp a .Add b pos) R :=
  de_opR op_add_str ha hb fun d1 d2 h1 h2 => by
    obtain ⟨i, j, rfl, rfl, hz, hr⟩ := h d1 d2 h1 h2
    exact fun G F H M x y Q ok r1 r2 q => od_addS hz G F H M x y Q ok r1 r2 fun v d F' H' rd => q v d F' H' (rd ▸ hr)
theorem op_mulS : OpR X (binaryOp .Mult) (fun x y H Q => ∃ z i, x = .str z ∧ y = .int i ∧ (i = 0 ∨ i = 1) ∧ Q (.str (if i = 1 then z else Str.empty)) H) := by
  intro pins s σ H x y v u Q I rx ry h
  obtain ⟨z, i, rfl, rfl, hi, q⟩ := h
  obtain ⟨t, rfl⟩ := rx
  obtain ⟨t', rfl⟩ := ry
  rcases hi with rfl | rfl
  · exact P.mul_str_none (by decide) (by decide) ⟨.str Str.empty, H, I.tok _, ⟨_, rfl⟩, q⟩
  · refine P.mul_str (by decide) (fun _ h => absurd h (by simp)) (fun _ h => absurd h (by simp)) ?_
    rw [if_neg (by decide), if_pos (by simp)]
    exact ⟨.str z, H, I, ⟨_, rfl⟩, q⟩
theorem de_mulS {z : Str} {i : Int} (hi : i = 0 ∨ i = 1) (ha : DE X Γ M a (Is (.str z))) (hb : DE X Γ M b (Is (.int i))) : DE X Γ M (.BinOp a .Mult b pos) (Is (.str (if i = 1 then z else Str.empty))) :=
  de_op op_mulS (fun G F H M x y Q ok r1 r2 q => by
    cases r1; cases r2
    exact ⟨z, i, rfl, rfl, hi, q _ _ F H rfl (Same.refl _) ok (.str _)⟩) ha hb
/-- slices -/
def DO (X : Cx) (Γ : Gam) (M : Mem) (oe : Option Expr) (oi : Option Int) : Prop := ∃ t : TO, PO X oe t ∧ ∀ (G F H : Hp) (σ : L2.St) (Q : Option Int → Hp → Prop), Ok X.K X.w G F M H → Slots X.K X.w F σ Γ → (∀ F' H', Same F F' → Ok X.K X.w G F' M H' → Q oi H') → t σ H Q
theorem do_none : DO X Γ M none none := ⟨_, po_none, fun G F H σ Q ok sl q => q F H (Same.refl _) ok⟩
theorem do_some {i : Int} (ha : DE X Γ M e (Is (.int i))) : DO X Γ M (some e) (some i) := ⟨_, po_some pe_max, fun G F H σ Q ok sl q => ha G F H σ _ ok sl fun v d F1 H1 r1 s1 k1 p1 => by
  cases (show d = .int i from r1)
  cases p1
  exact ⟨i, rfl, q F1 H1 s1 k1⟩⟩
theorem de_slSR {Ra : D → Prop} {lo hi : Option Expr} {l u : Option Int} {p2 : Pos} (ha : DE X Γ M a Ra) (hl : DO X Γ M lo l) (hu : DO X Γ M hi u) (h : ∀ y, Ra y → ∃ z, y = .str z ∧ z.length ≤ 100000 ∧ R (.str (cutS z l u))) : DE X Γ M (.Subscript a (.Slice lo hi none p2) pos) R := by
  obtain ⟨tl, hl1, hl2⟩ := hl
  obtain ⟨tu, hu1, hu2⟩ := hu
  exact de_of (pe_slice sl_str pe_max hl1 hu1) fun G F H σ Q ok sl q => ha G F H σ _ ok sl fun v d F1 H1 r1 s1 k1 p1 => hl2 G F1 H1 σ _ k1 (sl.mono s1) fun F2 H2 s2 k2 => hu2 G F2 H2 σ _ k2 (sl.mono (s1.trans s2)) fun F3 H3 s3 k3 => by
    obtain ⟨z, rfl, hz, hr⟩ := h d r1
    cases p1
    exact ⟨z, rfl, sz_le hz, q _ _ F3 H3 hr ((s1.trans s2).trans s3) k3 (.str _)⟩
theorem de_slS {z : Str} {lo hi : Option Expr} {l u : Option Int} {p2 : Pos} (hz : z.length ≤ 100000) (ha : DE X Γ M a (Is (.str z))) (hl : DO X Γ M lo l) (hu : DO X Γ M hi u) : DE X Γ M (.Subscript a (.Slice lo hi none p2) pos) (Is (.str (cutS z l u))) :=
  de_slSR ha hl hu fun y hy => ⟨z, hy, hz, rfl⟩
theorem reps_cut {K : PySem.W.Frag} {w : World} {F : Hp} {xs : List V} {ds : List D} (r : Reps K w F xs ds) (l u : Option Int) : Reps K w F (cutV xs l u) ((ds.drop (HT.sIx ds.length 0 l)).take (HT.sIx ds.length ds.length u - HT.sIx ds.length 0 l)) := by
  unfold cutV
  rw [r.length]
  exact (r.drop _).take _
theorem de_slT {ds : List D} {lo hi : Option Expr} {l u : Option Int} {p2 : Pos} (hw : ¬ (HT.sIx ds.length 0 l = 0 ∧ HT.sIx ds.length ds.length u = ds.length)) (ha : DE X Γ M a (Is (.tup ds))) (hl : DO X Γ M lo l) (hu : DO X Γ M hi u) :
    DE X Γ M (.Subscript a (.Slice lo hi none p2) pos) (Is (.tup ((ds.drop (HT.sIx ds.length 0 l)).take (HT.sIx ds.length ds.length u - HT.sIx ds.length 0 l)))) := by
  obtain ⟨tl, hl1, hl2⟩ := hl
  obtain ⟨tu, hu1, hu2⟩ := hu
  exact de_of (pe_slice sl_tup pe_max hl1 hu1) fun G F H σ Q ok sl q => ha G F H σ _ ok sl fun v d F1 H1 r1 s1 k1 p1 => hl2 G F1 H1 σ _ k1 (sl.mono s1) fun F2 H2 s2 k2 => hu2 G F2 H2 σ _ k2 (sl.mono (s1.trans s2)) fun F3 H3 s3 k3 => by
    cases (show d = .tup ds from r1)
    cases p1 with
    | tup hq rs =>
      refine ⟨_, _, rfl, same_t ((s2.trans s3).trans k3.f) hq, by rw [rs.length]; exact hw, fun t ht => ?_⟩
      obtain ⟨h1, h2, h3⟩ := k3.tup (reps_cut (rs.mono (s2.trans s3)) l u) ht
      exact q _ _ _ _ rfl (((s1.trans s2).trans s3).trans h2) h1 h3
/-- ''.join(..) -/
theorem de_join {apos : Pos} {o : Expr} {Rl : D → Prop} {z : Str} (ho : DE X Γ M o (Is (.str z))) (hl : DE X Γ M e Rl) (h : ∀ y, Rl y → ∃ ys : List Str, y = .list (ys.map D.str) ∧ (ys.map (·.length)).sum + ys.length * z.length ≤ 100000 ∧ R (.str (Txt.join z ys)))
    (hs : starEach [e] X.env = [(false, eval e X.env)] := by rfl) (hbase : attributeBase o "join" X.env (eval o X.env) = eval o X.env := by rfl) (hline : (apos.endLine == pos.line) = true := by rfl) : DE X Γ M (.Call (.Attribute o "join" apos) [e] [] pos) R :=
  de_of (pe_join pe_max pe_max hs hbase hline) fun G F H σ Q ok sl q => ho G F H σ _ ok sl fun v d F1 H1 r1 s1 k1 p1 => by
    cases (show d = .str z from r1)
    cases p1
    refine ⟨⟨z, rfl⟩, hl G F1 H1 σ _ k1 (sl.mono s1) fun v2 d2 F2 H2 r2 s2 k2 p2 => ?_⟩
    obtain ⟨ys, rfl, hz, hr⟩ := h d2 r2
    cases p2 with
    | lst hq rs =>
      have e := rs.strs
      subst e
      exact ⟨z, _, ys, rfl, rfl, .inl ((sq_l k2.f hq)), by omega, q _ _ F2 H2 hr (s1.trans s2) k2 (.str _)⟩
/-! ### in -/
theorem de_inSign {c' : Nat} {z : Str} (ha : DE X Γ M a (Is (.str ⟨#[c']⟩))) (hb : DE X Γ M b (Is (.str z))) (hm : behindInMarks .In b = false := by rfl) : DE X Γ M (.Compare a [.In] [b] pos) (Is (.bool (decide (c' ∈ z.cps.toList)))) :=
  de_cmp op_in_sign (fun G F H M x y Q ok r1 r2 q => by
    cases r1; cases r2
    exact ⟨c', z, rfl, rfl, q _ _ F H rfl (Same.refl _) ok (.bl _)⟩) ha hb hm
theorem de_inD {d : D} {ds : List D} {p1 : PyData} {ps : List PyData} (hu : X.A.units + 65 < cLine) (h1 : py d = some p1) (h2 : pys ds = some ps) (s1 : SeqAt.shaped p1 = true) (s2 : SeqAt.shaped (.list ps) = true) (ha : DE X Γ M a (Is d)) (hb : DE X Γ M b (Is (.list ds))) (hm : behindInMarks .In b = false := by rfl) :
    DE X Γ M (.Compare a [.In] [b] pos) (Is (.bool (ps.any fun z => PyData.eqv z p1))) :=
  de_cmp (op_inD hu) (fun G F H M x y Q ok r1 r2 q => ⟨p1, ps, r1.dp ok.f h1, r2.dp ok.f (by rw [py, h2]; rfl), s1, s2, q _ _ F H rfl (Same.refl _) ok (.bl _)⟩) ha hb hm
theorem inV_strs (z : Str) : ∀ zs : List Str, inV (.str z) (zs.map V.str) = decide (z ∈ zs)
  | [] => rfl
  | a :: r => by
    have ih := inV_strs z r
    unfold inV at ih ⊢
    rw [List.map_cons, List.any_cons, ih]
    show (a == z || decide (z ∈ r)) = _
    by_cases h : a = z
    · subst h; simp
    · have h' : ¬ z = a := fun q => h q.symm
      simp [h, h']
theorem flat_strs (zs : List Str) : (zs.map V.str).all flatV = true := by
  induction zs with
  | nil => rfl
  | cons a r ih => simpa [flatV] using ih
theorem de_notInT {z : Str} {zs : List Str} (ha : DE X Γ M a (Is (.str z))) (hb : DE X Γ M b (Is (.tup (zs.map D.str)))) (hm : behindInMarks .NotIn b = false := by rfl) : DE X Γ M (.Compare a [.NotIn] [b] pos) (Is (.bool (!decide (z ∈ zs)))) :=
  de_cmp op_notIn_seq (fun G F H M x y Q ok r1 r2 q => by
    cases r1
    cases r2 with
    | tup hq rs =>
      have e := rs.strs
      subst e
      refine ⟨_, _, rfl, .inr (same_t ok.f hq), rfl, flat_strs zs, ?_⟩
      rw [if_pos rfl, inV_strs]
      exact q _ _ F H rfl (Same.refl _) ok (.bl _)) ha hb hm
theorem dt_notInPL {z : Str} {zs : List Str} {q' : Addr} (hM : (q', MO.ls (zs.map D.str)) ∈ M) (ha : DE X Γ M a (Is (.str z))) (hb : DP X Γ b q') (hm : behindInMarks .NotIn b = false := by rfl) : DT X Γ M (.Compare a [.NotIn] [b] pos) (IsT (!decide (z ∈ zs))) := fun G F H σ Q ok sl q =>
  tMax_of (pt_cmpR op_notIn_seq pe_max pe_max hm) (ha G F H σ _ ok sl fun v d F1 H1 r1 s1 k1 p1 => hb X.K X.w F1 H1 σ _ (sl.mono s1) (by
    cases (show d = .str z from r1)
    cases p1
    obtain ⟨_, _, xs, hx, rs⟩ := k1.m _ _ hM
    have e := rs.strs
    subst e
    refine ⟨_, _, rfl, .inl (SqL.of hx), rfl, flat_strs zs, ?_⟩
    rw [if_pos rfl, inV_strs]
    exact ⟨_, rfl, q _ F1 H1 rfl s1 k1⟩))
/-- k not in d, of what is being filled -/
theorem dt_notInPD {kvs : List (NestedKey × D)} {k : NestedKey} {dk : D} {q' : Addr} (hu : X.A.units + 9 < cLine) (hM : (q', MO.dc kvs) ∈ M) (ek : dk = kd k) (kdp : k.depth ≤ 8) (ha : DE X Γ M a (Is dk)) (hb : DP X Γ b q') (hm : behindInMarks .NotIn b = false := by rfl) : DT X Γ M (.Compare a [.NotIn] [b] pos) (IsT (!decide (k ∈ kvs.map (·.1)))) := fun G F H σ Q ok sl q =>
  tMax_of (pt_cmpR (op_notInV hu) pe_max pe_max hm) (ha G F H σ _ ok sl fun v d F1 H1 r1 s1 k1 p1 => hb X.K X.w F1 H1 σ _ (sl.mono s1) (by
    rw [show d = kd k from r1.trans ek] at p1
    obtain ⟨es, ep, DD⟩ := Dct.ofMem k1 hM
    refine ⟨F1, _, es, ep, kvs, k, rfl, k1.f, DD, p1, kdp, ?_⟩
    rw [if_pos rfl]
    exact ⟨_, rfl, q _ F1 H1 rfl s1 k1⟩))
/-- a tuple's truth -/
theorem dt_truT {ds : List D} (ha : DE X Γ M e (Is (.tup ds))) (he : ∀ whole, isTrue e X.env whole = (do let v ← whole; standAt e.pos; holding [v] (truthy v)) := by intro _; rfl) : DT X Γ M e (IsT (!ds.isEmpty)) := fun G F H σ Q ok sl q =>
  tMax_of (pt_truth pe_max he) (ha G F H σ _ ok sl fun v d F1 H1 r1 s1 k1 p1 => by
    cases (show d = .tup ds from r1)
    cases p1 with
    | tup hq rs =>
      refine ⟨!ds.isEmpty, .inr (.inl ⟨_, same_t k1.f hq, ?_⟩), q _ F1 H1 rfl s1 k1⟩
      cases rs <;> rfl)
/-! ### lists -/
theorem de_cat {ds es : List D} (hz : ds.length + es.length ≤ 100000) (ha : DE X Γ M a (Is (.list ds))) (hb : DE X Γ M b (Is (.list es))) : DE X Γ M (.BinOp a .Add b pos) (Is (.list (ds ++ es))) :=
  de_op op_cat (fun G F H M x y Q ok r1 r2 q => by
    cases r1 with
    | lst hq rs =>
      cases r2 with
      | lst hq2 rs2 =>
        refine ⟨_, _, _, _, rfl, rfl, ok.f _ _ hq, ok.f _ _ hq2, by rw [rs.length, rs2.length]; exact sz_le hz, fun p hp => ?_⟩
        obtain ⟨h1, h2, h3⟩ := ok.lst (rs.append rs2) hp
        exact q _ _ _ _ rfl h2 h1 h3) ha hb
/-- [..] * n, the list just made -/
theorem de_rep {ds : List D} {k : Nat} (hz : ds.length * k ≤ 100000) (hk : k ≤ 100000) (ha : DM X Γ M a (IsM (.ls ds))) (hb : ∀ M, DE X Γ M b (Is (.int (k : Nat)))) : DE X Γ M (.BinOp a .Mult b pos) (Is (.list (List.replicate k ds).flatten)) :=
  de_of (pe_op op_rep pe_max pe_max) fun G F H σ Q ok sl q => ha G F H σ _ ok sl fun p o F1 H1 r1 s1 k1 => hb _ G F1 H1 σ _ k1 (sl.mono s1) fun y d2 F2 H2 r2 s2 k2 p2 => by
    cases (show o = .ls ds from r1)
    cases (show d2 = .int (k : Nat) from r2)
    cases p2
    obtain ⟨_, _, xs, hx, rs⟩ := k2.m p _ List.mem_cons_self
    refine ⟨p, (k : Nat), xs, rfl, rfl, hx, by omega, by omega, by rw [rs.length, Int.toNat_natCast]; exact sz_le hz, fun l hl => ?_⟩
    have rr : ∀ n : Nat, Reps X.K X.w F2 (List.replicate n xs).flatten (List.replicate n ds).flatten := by
      intro n
      induction n with
      | zero => exact .nil
      | succ n ih => rw [List.replicate_succ, List.replicate_succ, List.flatten_cons, List.flatten_cons]; exact rs.append ih
    obtain ⟨h1, h2, h3⟩ := (Ok.drop (i := 0) k2).lst (rr k) hl
    rw [Int.toNat_natCast]
    exact q _ _ _ _ rfl ((s1.trans s2).trans h2) h1 h3
end
end K59
namespace K59
open PySem PySem.Spec PyProof.Rows L2
theorem Reps.set {K : PySem.W.Frag} {w : World} {F : Hp} {v : V} {d : D} (h : Rep K w F v d) : ∀ {vs : List V} {ds : List D} (n : Nat), Reps K w F vs ds → Reps K w F (vs.set n v) (ds.set n d)
  | _, _, _, .nil => .nil
  | _, _, 0, .cons _ r => .cons h r
  | _, _, n + 1, .cons h' r => .cons h' (Reps.set h n r)
section
variable {X : Cx} {Γ : Gam} {M : Mem} {e a b c : Expr} {es : List Expr} {st : Stmt} {sts : List Stmt} {R : D → Prop} {pos p tpos : Pos} {x : Str} {P : Post}
/-! ### blocks -/
theorem Ways.mono {G F F' : Hp} {Q : Post} {D' : Ends} (W : Ways X G F Q D') (e : Same F F') : Ways X G F' Q D' :=
  ⟨fun Γ M F1 H σ p s => W.nx Γ M F1 H σ p (e.trans s), fun d M F1 H v p s => W.rt d M F1 H v p (e.trans s), fun Γ M F1 H σ p s => W.bk Γ M F1 H σ p (e.trans s), fun Γ M F1 H σ p s => W.ct Γ M F1 H σ p (e.trans s)⟩
theorem db_nil (h : P.nx Γ M) : DB X Γ M [] P := fun G F H σ D ok sl W => bMax_of pss_nil (W.nx Γ M F H σ h (Same.refl _) ok sl)
theorem db_cons (h : DS X Γ M st { P with nx := fun Γ' M' => DB X Γ' M' sts P }) : DB X Γ M (st :: sts) P := fun G F H σ D ok sl W =>
  bMax_of (pss_cons ps_max pb_max) (h G F H σ _ ok sl ⟨fun Γ' M' F' H' σ' q s k l => q G F' H' σ' D k l (W.mono s), fun d M' F' H' v q => W.rt d M' F' H' v q, fun Γ' M' F' H' σ' q => W.bk Γ' M' F' H' σ' q, fun Γ' M' F' H' σ' q => W.ct Γ' M' F' H' σ' q⟩)
theorem db_one (h : DS X Γ M st P) : DB X Γ M [st] P := fun G F H σ D ok sl W => bMax_of (pss_one ps_max) (h G F H σ D ok sl W)
/-- forget names, finish what was filled -/
theorem db_weak {Γ' : Gam} (h : DB X Γ' M sts P) (hl : Γ'.length = Γ.length) (hw : ∀ (i : Nat) sl, Γ'[i]? = some sl → sl = .any ∨ Γ[i]? = some sl) : DB X Γ M sts P := fun G F H σ D ok sl W => h G F H σ D ok (sl.weak hl hw) W
theorem freeze_ls {K : PySem.W.Frag} {w : World} {G F H : Hp} {σ : L2.St} {i j : Nat} {q : Addr} {ds : List D} (ok : Ok K w G F M H) (sl : Slots K w F σ Γ) (hi : Γ[i]? = some (.ptr q)) (hm : M[j]? = some (q, .ls ds)) :
    ∃ F', Same F F' ∧ Ok K w G F' (M.eraseIdx j) H ∧ Slots K w F' σ (Γ.set i (.dat (.list ds))) ∧ Rep K w F' (.ref q) (.list ds) := by
  obtain ⟨_, _, xs, hx, rs⟩ := ok.m q _ (mem_at hm)
  obtain ⟨h1, h2⟩ := ok.freeze hm hx
  have rp : Rep K w (upd F q (.lst xs)) (.ref q) (.list ds) := .lst upd_same (rs.mono h2)
  refine ⟨_, h2, h1, ⟨by rw [List.length_set]; exact sl.len, fun n s k => ?_⟩, rp⟩
  by_cases e : i = n
  · subst e
    rw [List.getElem?_set_self (List.getElem?_eq_some_iff.mp hi).1] at k
    cases k
    exact ⟨_, sl.row i _ hi, rp⟩
  · rw [List.getElem?_set_ne e] at k
    exact (sl.row n s k).mono h2
theorem freeze_dc {K : PySem.W.Frag} {w : World} {G F H : Hp} {σ : L2.St} {i j : Nat} {q : Addr} {kvs : List (NestedKey × D)} (ok : Ok K w G F M H) (sl : Slots K w F σ Γ) (hi : Γ[i]? = some (.ptr q)) (hm : M[j]? = some (q, .dc kvs)) :
    ∃ F', Same F F' ∧ Ok K w G F' (M.eraseIdx j) H ∧ Slots K w F' σ (Γ.set i (.dat (.dict kvs))) ∧ Rep K w F' (.ref q) (.dict kvs) := by
  obtain ⟨_, _, es, ep, hx, a1, a2, a3, rs⟩ := ok.m q _ (mem_at hm)
  obtain ⟨h1, h2⟩ := ok.freeze hm hx
  have rp : Rep K w (upd F q (dctO q es ep)) (.ref q) (.dict kvs) := .dct upd_same a1 a2 a3 (rs.mono h2)
  refine ⟨_, h2, h1, ⟨by rw [List.length_set]; exact sl.len, fun n s k => ?_⟩, rp⟩
  by_cases e : i = n
  · subst e
    rw [List.getElem?_set_self (List.getElem?_eq_some_iff.mp hi).1] at k
    cases k
    exact ⟨_, sl.row i _ hi, rp⟩
  · rw [List.getElem?_set_ne e] at k
    exact (sl.row n s k).mono h2
theorem db_freezeL (i j : Nat) {q : Addr} {ds : List D} (h : DB X (Γ.set i (.dat (.list ds))) (M.eraseIdx j) sts P) (hi : Γ[i]? = some (.ptr q) := by rfl) (hm : M[j]? = some (q, .ls ds) := by rfl) : DB X Γ M sts P := fun G F H σ D ok sl W => by
  obtain ⟨F', s, ok', sl', _⟩ := freeze_ls ok sl hi hm
  exact h G F' H σ D ok' sl' (W.mono s)
theorem db_freezeD (i j : Nat) {q : Addr} {kvs : List (NestedKey × D)} (h : DB X (Γ.set i (.dat (.dict kvs))) (M.eraseIdx j) sts P) (hi : Γ[i]? = some (.ptr q) := by rfl) (hm : M[j]? = some (q, .dc kvs) := by rfl) : DB X Γ M sts P := fun G F H σ D ok sl W => by
  obtain ⟨F', s, ok', sl', _⟩ := freeze_dc ok sl hi hm
  exact h G F' H σ D ok' sl' (W.mono s)
/-! ### x = e -/
theorem ds_set (i : Nat) {px : Pos} (he : DE X Γ M e R) (k : ∀ d, R d → P.nx (Γ.set i (.dat d)) M) (hN : X.N.Nodup) (hi : X.N[i]? = some x := by rfl) (hx : Loc X.env.scope x := by first | exact Or.inl rfl | exact Or.inr rfl) (hs : swapsWith e (some (.Name x px)) pos.line X.env = pure false := by rfl)
    (hf : X.fn x = true ∨ X.env.scope.names.lookup x = some .local := by first | exact .inl rfl | exact .inr rfl) : DS X Γ M (.Assign [.Name x px] e pos) P := fun G F H σ D ok sl W =>
  sMax_of (ps_set hN hi hx pe_max hs hf) (he G F H σ _ ok sl fun v d F' H' r s kk rp => W.nx _ _ F' H' _ (k d r) s kk ((sl.mono s).set ⟨v, rfl, rp⟩))
/-- .. of what may be filled -/
theorem ds_setM (i : Nat) {px : Pos} {RM : MO → Prop} (he : DM X Γ M e RM) (k : ∀ q o, RM o → P.nx (Γ.set i (.ptr q)) ((q, o) :: M)) (hN : X.N.Nodup) (hi : X.N[i]? = some x := by rfl) (hx : Loc X.env.scope x := by first | exact Or.inl rfl | exact Or.inr rfl) (hs : swapsWith e (some (.Name x px)) pos.line X.env = pure false := by rfl)
    (hf : X.fn x = true ∨ X.env.scope.names.lookup x = some .local := by first | exact .inl rfl | exact .inr rfl) : DS X Γ M (.Assign [.Name x px] e pos) P := fun G F H σ D ok sl W =>
  sMax_of (ps_set hN hi hx pe_max hs hf) (he G F H σ _ ok sl fun q o F' H' r s kk => W.nx _ _ F' H' _ (k q o r) s kk ((sl.mono s).set rfl))
/-! ### return, expressions, if -/
theorem ds_ret (he : DE X Γ M e R) (k : ∀ d, R d → P.rt d M) : DS X Γ M (.Return (some e) pos) P := fun G F H σ D ok sl W =>
  sMax_of (ps_ret pe_max) (he G F H σ _ ok sl fun v d F' H' r s kk rp => W.rt d M F' H' v (k d r) s kk rp)
theorem ds_retL (i j : Nat) {q : Addr} {ds : List D} (he : DP X Γ e q) (k : P.rt (.list ds) (M.eraseIdx j)) (hi : Γ[i]? = some (.ptr q) := by rfl) (hm : M[j]? = some (q, .ls ds) := by rfl) : DS X Γ M (.Return (some e) pos) P := fun G F H σ D ok sl W => by
  obtain ⟨F', s, ok', sl', rp⟩ := freeze_ls ok sl hi hm
  exact sMax_of (ps_ret pe_max) (he X.K X.w F H σ _ sl (W.rt _ _ F' H _ k s ok' rp))
theorem ds_retD (i j : Nat) {q : Addr} {kvs : List (NestedKey × D)} (he : DP X Γ e q) (k : P.rt (.dict kvs) (M.eraseIdx j)) (hi : Γ[i]? = some (.ptr q) := by rfl) (hm : M[j]? = some (q, .dc kvs) := by rfl) : DS X Γ M (.Return (some e) pos) P := fun G F H σ D ok sl W => by
  obtain ⟨F', s, ok', sl', rp⟩ := freeze_dc ok sl hi hm
  exact sMax_of (ps_ret pe_max) (he X.K X.w F H σ _ sl (W.rt _ _ F' H _ k s ok' rp))
theorem ds_expr (he : DE X Γ M e R) (k : P.nx Γ M) (hs : swapsWith e none pos.line X.env = pure false := by rfl) : DS X Γ M (.Expr e pos) P := fun G F H σ D ok sl W =>
  sMax_of (ps_expr pe_max hs) (he G F H σ _ ok sl fun v d F' H' r s kk rp => W.nx Γ M F' H' σ k s kk (sl.mono s))
theorem ds_if {sa sb : List Stmt} {RB : Bool → Prop} (hc : DT X Γ M c RB) (ha : RB true → DB X Γ M sa P) (hb : RB false → DB X Γ M sb P) : DS X Γ M (.If c sa sb pos) P := fun G F H σ D ok sl W =>
  sMax_of (ps_if pt_max pb_max pb_max) (hc G F H σ _ ok sl fun k F' H' r s kk => by
    cases k with
    | true => exact ha r G F' H' σ D kk (sl.mono s) (W.mono s)
    | false => exact hb r G F' H' σ D kk (sl.mono s) (W.mono s))
theorem ds_break (h : P.bk Γ M) : DS X Γ M (.Break pos) P := fun G F H σ D ok sl W => sMax_of ps_break (W.bk Γ M F H σ h (Same.refl _) ok sl)
/-! ### what is filled -/
theorem ds_append (j : Nat) {q : Addr} {ds : List D} {apos cpos : Pos} {o : Expr} (hp : DP X Γ o q) (he : DE X Γ M e R) (hz : ds.length < 100000) (k : ∀ d, R d → P.nx Γ (M.set j (q, .ls (ds ++ [d])))) (hm : M[j]? = some (q, .ls ds) := by rfl)
    (hbase : attributeBase o "append" X.env (eval o X.env) = eval o X.env := by rfl)
    (hfew : ((backTo cpos (starEach [e] X.env)).all (fun x => !x.1) && (backToKw cpos (keywordEach [] X.env)).all (fun x => x.1.isSome) && decide ([e].length + ([] : List Keyword).length + (if ([] : List Keyword).isEmpty then 0 else 1) < 30)) = true := by rfl)
    (hline : (apos.endLine == cpos.line) = true := by rfl) (hs : starEach [e] X.env = (false, eval e X.env) :: starEach [] X.env := by rfl) (hsw : swapsWith (.Call (.Attribute o "append" apos) [e] [] cpos) none pos.line X.env = pure false := by rfl) :
    DS X Γ M (.Expr (.Call (.Attribute o "append" apos) [e] [] cpos) pos) P := fun G F H σ D ok sl W =>
  sMax_of (ps_expr (pe_bm PySem.F.plainAttrs_list PySem.F.slot_list_append PySem.F.type_list_append mt_append pe_max (pa_cons pe_max pa_nil hs) hbase hfew hline hs (by rfl)) hsw) (hp X.K X.w F H σ _ sl (by
    obtain ⟨_, _, xs, hx, rs⟩ := ok.m q _ (mem_at hm)
    refine ⟨.inl ⟨rfl, _, SqL.of hx⟩, he G F H σ _ ok sl fun v d F1 H1 r1 s1 k1 p1 => ?_⟩
    obtain ⟨_, _, xs1, hx1, rs1⟩ := k1.m q _ (mem_at hm)
    refine ⟨q, xs1, v, rfl, rfl, hx1, by rw [rs1.length]; exact Nat.lt_of_lt_of_le hz (by decide), ?_⟩
    exact W.nx Γ _ F1 _ σ (k d r1) s1 (k1.put hm ⟨_, upd_same, rs1.snoc p1⟩) (sl.mono s1)))
theorem ds_extend (j : Nat) {q : Addr} {ds : List D} {apos cpos : Pos} {o : Expr} {Rl : D → Prop} (hp : DP X Γ o q) (he : DE X Γ M e Rl) (k : ∀ d, Rl d → ∃ ds', d = .list ds' ∧ ds.length + ds'.length ≤ 100000 ∧ P.nx Γ (M.set j (q, .ls (ds ++ ds')))) (hm : M[j]? = some (q, .ls ds) := by rfl)
    (hbase : attributeBase o "extend" X.env (eval o X.env) = eval o X.env := by rfl)
    (hfew : ((backTo cpos (starEach [e] X.env)).all (fun x => !x.1) && (backToKw cpos (keywordEach [] X.env)).all (fun x => x.1.isSome) && decide ([e].length + ([] : List Keyword).length + (if ([] : List Keyword).isEmpty then 0 else 1) < 30)) = true := by rfl)
    (hline : (apos.endLine == cpos.line) = true := by rfl) (hs : starEach [e] X.env = (false, eval e X.env) :: starEach [] X.env := by rfl) (hsw : swapsWith (.Call (.Attribute o "extend" apos) [e] [] cpos) none pos.line X.env = pure false := by rfl) :
    DS X Γ M (.Expr (.Call (.Attribute o "extend" apos) [e] [] cpos) pos) P := fun G F H σ D ok sl W =>
  sMax_of (ps_expr (pe_bm PySem.F.plainAttrs_list PySem.F.slot_list_extend PySem.F.type_list_extend mt_extend pe_max (pa_cons pe_max pa_nil hs) hbase hfew hline hs (by rfl)) hsw) (hp X.K X.w F H σ _ sl (by
    obtain ⟨_, _, xs, hx, rs⟩ := ok.m q _ (mem_at hm)
    refine ⟨.inl ⟨rfl, _, SqL.of hx⟩, he G F H σ _ ok sl fun v d F1 H1 r1 s1 k1 p1 => ?_⟩
    obtain ⟨ds', rfl, hz, hk⟩ := k d r1
    cases p1 with
    | lst hq rs' =>
      obtain ⟨_, _, xs1, hx1, rs1⟩ := k1.m q _ (mem_at hm)
      refine ⟨q, _, xs1, _, rfl, rfl, hx1, k1.f _ _ hq, by rw [rs1.length, rs'.length]; exact sz_le hz, ?_⟩
      exact W.nx Γ _ F1 _ σ hk s1 (k1.put hm ⟨_, upd_same, rs1.append rs'⟩) (sl.mono s1)))
/-- d[k] = v -/
theorem ds_put (j : Nat) {q : Addr} {kvs : List (NestedKey × D)} {k : NestedKey} {dk : D} {o i : Expr} (hu : X.A.units + 9 < cLine) (hv : DE X Γ M e R) (hp : DP X Γ o q) (hk : DE X Γ M i (Is dk)) (ek : dk = kd k) (kdp : k.depth ≤ 8) (hz : kvs.length ≤ 100000) (n : ∀ d, R d → P.nx Γ (M.set j (q, .dc (dput k d kvs)))) (hm : M[j]? = some (q, .dc kvs) := by rfl)
    (ha : ∀ v, assign (.Subscript o i tpos) X.env v = (do let ov ← holding [v] (eval o X.env); let iv ← holding [v, ov] (eval i X.env); standAt tpos; holding [v, ov, iv] (setItem ov iv v); release [v, ov, iv] []) := by intro _; rfl)
    (hs : swapsWithSole [.Subscript o i tpos] e pos.line X.env = pure false := by rfl) (hw : swappedStores [.Subscript o i tpos] e X.env = pure none := by rfl) (h1 : (assignEach [.Subscript o i tpos] X.env).map (·.2) = [assign (.Subscript o i tpos) X.env] := by rfl) :
    DS X Γ M (.Assign [.Subscript o i tpos] e pos) P := fun G F H σ D ok sl W =>
  sMax_of (ps_asg pe_max (pg_sub pe_max pe_max (set_V hu) ha) hs hw h1) (hv G F H σ _ ok sl fun v d F1 H1 r1 s1 k1 p1 => hp X.K X.w F1 H1 σ _ (sl.mono s1) (hk G F1 H1 σ _ k1 (sl.mono s1) fun y d2 F2 H2 r2 s2 k2 p2 => by
    rw [show d2 = kd k from r2.trans ek] at p2
    exact k2.setD hm p2 kdp (p1.mono s2) hz fun H' k' => W.nx Γ _ F2 H' σ (n d r1) (s1.trans s2) k' (sl.mono (s1.trans s2))))
/-- xs[i] = v -/
theorem ds_setL (j : Nat) {q : Addr} {ds : List D} {n : Nat} {z : Int} {o i : Expr} (hv : DE X Γ M e R) (hp : DP X Γ o q) (hk : DE X Γ M i (Is (.int z))) (hn : ixN ds.length z = some n) (nx : ∀ d, R d → P.nx Γ (M.set j (q, .ls (ds.set n d)))) (hm : M[j]? = some (q, .ls ds) := by rfl)
    (ha : ∀ v, assign (.Subscript o i tpos) X.env v = (do let ov ← holding [v] (eval o X.env); let iv ← holding [v, ov] (eval i X.env); standAt tpos; holding [v, ov, iv] (setItem ov iv v); release [v, ov, iv] []) := by intro _; rfl)
    (hs : swapsWithSole [.Subscript o i tpos] e pos.line X.env = pure false := by rfl) (hw : swappedStores [.Subscript o i tpos] e X.env = pure none := by rfl) (h1 : (assignEach [.Subscript o i tpos] X.env).map (·.2) = [assign (.Subscript o i tpos) X.env] := by rfl) :
    DS X Γ M (.Assign [.Subscript o i tpos] e pos) P := fun G F H σ D ok sl W =>
  sMax_of (ps_asg pe_max (pg_sub pe_max pe_max set_list ha) hs hw h1) (hv G F H σ _ ok sl fun v d F1 H1 r1 s1 k1 p1 => hp X.K X.w F1 H1 σ _ (sl.mono s1) (hk G F1 H1 σ _ k1 (sl.mono s1) fun y d2 F2 H2 r2 s2 k2 p2 => by
    cases (show d2 = .int z from r2)
    cases p2
    obtain ⟨_, _, xs, hx, rs⟩ := k2.m q _ (mem_at hm)
    refine ⟨q, xs, z, n, rfl, rfl, hx, by rw [rs.length]; exact hn, ?_⟩
    exact W.nx Γ _ F2 _ σ (nx d r1) (s1.trans s2) (k2.put hm ⟨_, upd_same, Reps.set (p1.mono s2) n rs⟩) (sl.mono (s1.trans s2))))
/-! ### targets -/
theorem dg_name (i : Nat) {d : D} (hN : X.N.Nodup) (hi : X.N[i]? = some x := by rfl) (hx : Loc X.env.scope x := by first | exact Or.inl rfl | exact Or.inr rfl) (hf : X.fn x = true ∨ X.env.scope.names.lookup x = some .local := by first | exact .inl rfl | exact .inr rfl) : DG X Γ (.Name x pos) d (Γ.set i (.dat d)) := fun G F H M σ v Q ok sl r q =>
  gMax_of (pg_name hN hi hx hf) (q _ (sl.set ⟨v, rfl, r⟩))
/-- (a, b), (a, b, c) -/
theorem dg_two {t1 t2 : Expr} {d1 d2 : D} {Γ1 Γ2 : Gam} {k : Nat} (hc : X.calm = true) (h1 : DG X Γ t1 d1 Γ1) (h2 : DG X Γ1 t2 d2 Γ2) (hs : (assignEach [t1, t2] X.env).map (·.2) = assign t1 X.env :: (assignEach [t2] X.env).map (·.2) := by rfl) (hs2 : (assignEach [t2] X.env).map (·.2) = assign t2 X.env :: (assignEach [] X.env).map (·.2) := by rfl)
    (hn : (assignEach [t1, t2] X.env).length = 2 := by rfl) (hst : (assignEach [t1, t2] X.env).findIdx? (·.1) = none := by rfl) : DG X Γ (.Tuple [t1, t2] k pos) (.tup [d1, d2]) Γ2 := fun G F H M σ v Q ok sl r q =>
  gMax_of (pg_tup hc (pgs_cons pg_max (pgs_cons pg_max pgs_nil hs2) hs) hn hst) (by
    cases r with
    | tup hq rs =>
      cases rs with
      | cons r1 rs =>
        cases rs with
        | cons r2 rs =>
          cases rs
          exact ⟨_, _, rfl, same_t ok.f hq, rfl, _, _, rfl, h1 G F H M σ _ _ ok sl r1 fun σ1 sl1 => ⟨_, _, rfl, h2 G F H M σ1 _ _ ok sl1 r2 fun σ2 sl2 => ⟨rfl, q σ2 sl2⟩⟩⟩)
theorem dg_three {t1 t2 t3 : Expr} {d1 d2 d3 : D} {Γ1 Γ2 Γ3 : Gam} {k : Nat} (hc : X.calm = true) (h1 : DG X Γ t1 d1 Γ1) (h2 : DG X Γ1 t2 d2 Γ2) (h3 : DG X Γ2 t3 d3 Γ3) (hs : (assignEach [t1, t2, t3] X.env).map (·.2) = assign t1 X.env :: (assignEach [t2, t3] X.env).map (·.2) := by rfl) (hs2 : (assignEach [t2, t3] X.env).map (·.2) = assign t2 X.env :: (assignEach [t3] X.env).map (·.2) := by rfl)
    (hs3 : (assignEach [t3] X.env).map (·.2) = assign t3 X.env :: (assignEach [] X.env).map (·.2) := by rfl) (hn : (assignEach [t1, t2, t3] X.env).length = 3 := by rfl) (hst : (assignEach [t1, t2, t3] X.env).findIdx? (·.1) = none := by rfl) : DG X Γ (.Tuple [t1, t2, t3] k pos) (.tup [d1, d2, d3]) Γ3 := fun G F H M σ v Q ok sl r q =>
  gMax_of (pg_tup hc (pgs_cons pg_max (pgs_cons pg_max (pgs_cons pg_max pgs_nil hs3) hs2) hs) hn hst) (by
    cases r with
    | tup hq rs =>
      cases rs with
      | cons r1 rs =>
        cases rs with
        | cons r2 rs =>
          cases rs with
          | cons r3 rs =>
            cases rs
            exact ⟨_, _, rfl, same_t ok.f hq, rfl, _, _, rfl, h1 G F H M σ _ _ ok sl r1 fun σ1 sl1 => ⟨_, _, rfl, h2 G F H M σ1 _ _ ok sl1 r2 fun σ2 sl2 => ⟨_, _, rfl, h3 G F H M σ2 _ _ ok sl2 r3 fun σ3 sl3 => ⟨rfl, q σ3 sl3⟩⟩⟩⟩)
/-- target = e -/
theorem ds_asg {tg : Expr} {d : D} {Γ' : Gam} (he : DE X Γ M e (Is d)) (hg : DG X Γ tg d Γ') (k : P.nx Γ' M) (hs : swapsWithSole [tg] e pos.line X.env = pure false := by rfl) (hw : swappedStores [tg] e X.env = pure none := by rfl) (h1 : (assignEach [tg] X.env).map (·.2) = [assign tg X.env] := by rfl) : DS X Γ M (.Assign [tg] e pos) P := fun G F H σ D ok sl W =>
  sMax_of (ps_asg pe_max pg_max hs hw h1) (he G F H σ _ ok sl fun v d' F' H' r s kk rp => by
    cases (show d' = d from r)
    exact hg G F' H' M σ v _ kk (sl.mono s) rp fun σ' sl' => W.nx _ _ F' H' σ' k s kk sl')
/-- target = xs.pop() -/
theorem ds_asgPop (j : Nat) {q : Addr} {ds : List D} {d : D} {tg o : Expr} {Γ' : Gam} {apos cpos : Pos} (hp : DP X Γ o q) (hd : ds[ds.length - 1]? = some d) (hg : DG X Γ tg d Γ') (k : P.nx Γ' (M.set j (q, .ls ds.dropLast))) (hm : M[j]? = some (q, .ls ds) := by rfl)
    (hbase : attributeBase o "pop" X.env (eval o X.env) = eval o X.env := by rfl) (hline : (apos.endLine == cpos.line) = true := by rfl)
    (hs : swapsWithSole [tg] (.Call (.Attribute o "pop" apos) [] [] cpos) pos.line X.env = pure false := by rfl) (hw : swappedStores [tg] (.Call (.Attribute o "pop" apos) [] [] cpos) X.env = pure none := by rfl) (h1 : (assignEach [tg] X.env).map (·.2) = [assign tg X.env] := by rfl) :
    DS X Γ M (.Assign [tg] (.Call (.Attribute o "pop" apos) [] [] cpos) pos) P := fun G F H σ D ok sl W =>
  sMax_of (ps_asg (pe_bm0 PySem.F.plainAttrs_list PySem.F.slot_list_pop PySem.F.type_list_pop mt_pop pe_max hbase hline) pg_max hs hw h1) (hp X.K X.w F H σ _ sl (by
    obtain ⟨_, _, xs, hx, rs⟩ := ok.m q _ (mem_at hm)
    obtain ⟨y, hy, ry⟩ := rs.get hd
    refine ⟨.inl ⟨rfl, _, SqL.of hx⟩, q, xs, y, rfl, rfl, hx, by rw [rs.length]; exact hy, ?_⟩
    have ok' := ok.put (x := .lst xs.dropLast) hm (o' := .ls ds.dropLast) ⟨_, upd_same, rs.dropLast⟩
    exact hg G F _ _ σ y _ ok' sl ry fun σ' sl' => W.nx _ _ F _ σ' k (Same.refl _) ok' sl'))
end
end K59
namespace K59
open PySem PySem.Spec PyProof.Rows L2
/-! ### enumerate of a tuple, of a text -/
set_option maxHeartbeats 1000000 in
theorem meets_enum1 {v : Value} {o : Obj} {H : Heap → Prop} (B : Begins v o H) :
    Meets (Builtin.«enumerate.__new__» ⟨[.type "enumerate", v], []⟩) (fun _ R s => H s.heap ∧ R (.ok (.ret (.ref (s.heap.push o).objs.size))) { s with heap := (s.heap.push o).push { cls := .type "enumerate", data := .fields #[.none, .bool false, .ref s.heap.objs.size, rawInt 0, .none, .none] } }) :=
  .of_wp fun prog w A R s h => by
    obtain ⟨hp, g, d, tk, os⟩ := s
    obtain ⟨h1, h⟩ := h
    have hsub := sub_enumerate
    have q1 : ∀ {A' : Around} {E : Value → Shared → Prop} {Q : Value → Shared → Prop}, Q (.ref hp.objs.size) ⟨hp.push o, g, d, tk, os⟩ → wpAny (model prog w) A' (pyIter v) Q E ⟨hp, g, d, tk, os⟩ := fun q => B.iter prog w _ _ ⟨hp, g, d, tk, os⟩ _ h1 q
    wp_walk using q1
    refine wpAny_stack_any fun st => wpAny_pure ?_
    split
    · rename_i c _ _ _ _ _
      cases (c == Value.type "enumerate")
      · wp_walk using q1
        exact ⟨_, rfl, h⟩
      · wp_walk using q1
        exact ⟨_, rfl, h⟩
    · wp_walk using q1
      exact ⟨_, rfl, h⟩
theorem call_enum_tup {prog : Program} {w : World} {A : Around} {E : Value → Shared → Prop} {s : Shared} {t : Addr} {items : Array Value} {Q : Value → Shared → Prop} (ht : s.heap.IsTuple t items)
    (h : ∀ h', IsEnum h' (s.heap.objs.size + 1) s.heap.objs.size 0 .none → h'.IsTupleIter s.heap.objs.size t 0 → (∀ b o, s.heap.get? b = some o → h'.get? b = some o) → Q (.ref (s.heap.objs.size + 1)) { s with heap := h' }) : wpAny (model prog w) A (call (.type "enumerate") [.ref t]) Q E s := by
  refine callType_new F.called_enumerate (by decide) (F.typeCall_enumerate_1 _) (F.newCall_enumerate_1 _) (fun obj => F.args_object_init_2 obj _) F.entry_enumerate_new (meets_enum1 (begins_tuple t items)) ⟨ht, ?_⟩
  have hz : (s.heap.push { cls := .type "tuple_iterator", data := .fields #[.ref t, .int 0 0] }).objs.size = s.heap.objs.size + 1 := Heap.size_push ..
  show _ ∧ _
  rw [hz]
  have he : IsEnum ((s.heap.push { cls := .type "tuple_iterator", data := .fields #[.ref t, .int 0 0] }).push { cls := .type "enumerate", data := .fields #[.none, .bool false, .ref s.heap.objs.size, rawInt 0, .none, .none] }) (s.heap.objs.size + 1) s.heap.objs.size 0 .none := by
    have := Heap.get?_push_size (s.heap.push { cls := .type "tuple_iterator", data := .fields #[.ref t, .int 0 0] }) (o := { cls := .type "enumerate", data := .fields #[.none, .bool false, .ref s.heap.objs.size, rawInt 0, .none, .none] }) rfl
    rw [hz] at this
    exact this
  exact ⟨⟨_, he, rfl⟩, h _ he ⟨_, Heap.get?_push_of_some _ (Heap.get?_push_size _ rfl), rfl, rfl⟩ fun b o x => Heap.get?_push_of_some _ (Heap.get?_push_of_some _ x)⟩
section
variable {X : Cx} {pins : List (Addr × Obj)} {σ : L2.St} {H : Hp} {s : Shared}
/-- the pair is handed out -/
theorem enum_fin {E : Value → Shared → Prop} {e it : Addr} {i : Nat} {x : V} {u : Value} {h' : Heap} {tk : Nat} {elts : List Expr} {kk : Nat} {tpos : Pos} {St' : Heap → Prop} (I : Inv X pins σ H s) (hf : ∀ b ∈ [e, it], FpOk X pins H b) (hel : e < s.heap.objs.size) (hil : it < s.heap.objs.size)
    (ho : IsEnumOut h' e it ((i : Int) + 1) u s.heap.objs.size) (hT : h'.get? s.heap.objs.size = some { cls := .type "tuple", data := .seq #[.int i tk, u] }) (hk : ∀ b o, b ≠ e → b ≠ it → s.heap.get? b = some o → h'.get? b = some o) (ru : RelV x u)
    (stk : ∀ h'', Heap.SameBut e h' h'' → St' h'') : wpAny (model X.prog X.w) X.A (letOwnedTupleGo (.Tuple elts kk tpos) (.ref e) (.ref s.heap.objs.size)) (fun _ s2 => ∃ y H', Inv X pins σ H' s2 ∧ RelV y (.ref s.heap.objs.size) ∧ (∃ T, y = .ref T ∧ H T = none ∧ H' = upd H T (.tup [.int (i : Nat), x])) ∧ ((∃ old, IsEnum s2.heap e it ((i + 1 : Nat) : Int) old) ∧ St' s2.heap) ∧ ∀ b ∈ [e, it], H' b = none) E { s with heap := h', toks := tk + 1 } := by
  refine wpAny_letOwnedTupleGo_enum (s := { s with heap := h', toks := tk + 1 }) ho fun h'' he' sb => ?_
  have hT2 : h''.get? s.heap.objs.size = some { cls := .type "tuple", data := .seq #[.int i tk, u] } := (sb.2 _ (Nat.ne_of_gt hel)).trans hT
  have new : ObjOk X.prog X.w (upd H s.heap.objs.size (.tup [.int (i : Nat), x])) h'' s.heap.objs.size (.tup [.int (i : Nat), x]) := ⟨by show 2 ≤ sizeLine; decide, [.int i tk, u], .cons ⟨_, rfl⟩ (.cons ru .nil), ⟨_, hT2, rfl, _, rfl⟩⟩
  have I1 : Inv X pins σ (upd H s.heap.objs.size (.tup [.int (i : Nat), x])) { s with heap := h'', toks := tk + 1 } :=
    I.turnedNew (ch := [e, it]) (fun b ob hb q => (sb.2 b (fun z => hb (by simp [z]))).trans (hk b ob (fun z => hb (by simp [z])) (fun z => hb (by simp [z])) q)) hf (Nat.le_refl _) new
  refine ⟨.ref s.heap.objs.size, _, I1, rfl, ⟨_, rfl, I.hok.fresh (Nat.le_refl _), rfl⟩, ⟨⟨u, ?_⟩, stk h'' sb⟩, fun b hb => ?_⟩
  · rw [show ((i + 1 : Nat) : Int) = (i : Int) + 1 by omega]; exact he'
  · have hb' : b < s.heap.objs.size := by
      rcases List.mem_cons.mp hb with z | hb
      · rw [z]; exact hel
      · rw [List.mem_singleton.mp hb]; exact hil
    rw [upd_ne (Nat.ne_of_lt hb')]
    exact (hf b hb).1
end
def IteT (K : PySem.W.Frag) (a : Addr) : It :=
  ⟨fun i H => ∃ (xs : List V) (x : V), SqT K H a xs ∧ xs[i]? = some x, fun i H v H' => ∃ T x, v = .ref T ∧ H T = none ∧ H' = upd H T (.tup [.int (i : Nat), x]) ∧ ∀ xs, SqT K H a xs → xs[i]? = some x, fun i H => ∃ xs : List V, SqT K H a xs ∧ xs.length = i⟩
def IteS (z : Str) : It :=
  ⟨fun i _ => i < z.cps.size, fun i H v H' => ∃ T c, v = .ref T ∧ H T = none ∧ H' = upd H T (.tup [.int (i : Nat), .str ⟨#[c]⟩]) ∧ z.cps[i]? = some c, fun i _ => z.cps.size = i⟩
theorem turn_enumT {P : Program} {w : World} {K : PySem.W.Frag} {elts : List Expr} {kk : Nat} {tpos : Pos} (a e it : Addr) : Turn P w K (.Tuple elts kk tpos) (IteT K a) [e, it] e (fun i h => (∃ old, IsEnum h e it ((i : Nat) : Int) old) ∧ (h.IsTupleIter it a i ∧ e ≠ it)) where
  mem := by simp
  obj := fun i h st b hb => by
    obtain ⟨⟨old, he⟩, ⟨o, ho, hc, hd⟩, _⟩ := st
    rcases List.mem_cons.mp hb with z | hb
    · rw [z]; exact ⟨_, he, fun v q => nomatch q⟩
    · rw [List.mem_singleton.mp hb]; exact ⟨o, ho, fun v q => by rw [hd] at q; cases q⟩
  keep := fun i h h' st k => let ⟨⟨old, he⟩, hi, hne⟩ := st; ⟨⟨old, k e (by simp) _ he⟩, hi.at fun o q => k it (by simp) o q, hne⟩
  item := by
    intro X hP hw hK hc i pins s σ H E I hf st hg
    subst hP hw hK
    obtain ⟨⟨old, he⟩, hit, hne⟩ := st
    obtain ⟨xs, x, hq, hx⟩ := hg
    obtain ⟨its, rv, p, hz⟩ := I.tuple hq
    obtain ⟨u, hu, ru⟩ := rv.get hx
    obtain ⟨oi, hio, hic, _⟩ := id hit
    obtain ⟨oa, hao, hac, _⟩ := id p
    have ai : a ≠ it := fun z => by rw [z, hio] at hao; cases hao; rw [hic] at hac; exact absurd hac (by decide)
    have ae : e ≠ a := fun z => by rw [← z, he] at hao; cases hao; exact absurd (show Value.type "enumerate" = Value.type "tuple" from hac) (by decide)
    have D := Draws.tuple (prog := X.prog) (w := X.w) (A := X.A.in1) (I.ok.hd hc) it a ai its.toArray
    have lt : i < its.toArray.size := by
      rw [List.size_toArray, ← rv.length]; exact (List.getElem?_eq_some_iff.mp hx).1
    refine wpAny_pyNext_enum_itemD D he ⟨hit, p⟩ lt hne (by simp [ae, hne]) fun y h' tk hy ho hst' hT hsz hk => ?_
    have ey : y = u := by
      have : its.toArray[i]? = some u := by simpa using hu
      exact Option.some.inj (hy.symm.trans this)
    subst ey
    refine ⟨_, rfl, wpAny_mono (enum_fin (St' := fun h => h.IsTupleIter it a (i + 1) ∧ e ≠ it) I hf (Heap.lt_size he) (Heap.lt_size hio) ho hT hk ru fun h'' sb => ⟨hst'.1.at fun o q => (sb.2 it (Ne.symm hne)).trans q, hne⟩) (fun _ s2 hh => ?_) fun _ _ z => z⟩
    obtain ⟨y2, H', I', rr, ⟨T, h1, h2, h3⟩, h4, h5⟩ := hh
    exact ⟨y2, H', I', rr, ⟨T, x, h1, h2, h3, fun ys hy => by rw [I.tuple_inj hy hq]; exact hx⟩, h4, h5⟩
  done := by
    intro X hP hw hK hc i pins s σ H E I hf st hg
    subst hP hw hK
    obtain ⟨⟨old, he⟩, hit, hne⟩ := st
    obtain ⟨xs, hq, hx⟩ := hg
    obtain ⟨its, rv, p, hz⟩ := I.tuple hq
    obtain ⟨f0, f1, f2, f3, f4, f5⟩ := hf it (by simp)
    obtain ⟨oi, hio, hic, hid⟩ := id hit
    obtain ⟨oa, hao, hac, _⟩ := id p
    have ai : a ≠ it := fun z => by rw [z, hio] at hao; cases hao; rw [hic] at hac; exact absurd hac (by decide)
    have D := Draws.tuple (prog := X.prog) (w := X.w) (A := X.A.in1) (I.ok.hd hc) it a ai its.toArray
    have en : i = its.toArray.size := by rw [List.size_toArray, ← rv.length, hx]
    subst en
    refine wpAny_pyNext_enum_endD D he ⟨hit, p⟩ fun h' he' => ⟨rfl, I.turned (t' := s.toks) (fun b o hb q => he' b o hb q) f0 f1 f3 f4 f5⟩
  self := fun A i s Q E st h => let ⟨⟨_, he⟩, _⟩ := st; wpAny_pyIter_enum he h
theorem turn_enumS {P : Program} {w : World} {K : PySem.W.Frag} {elts : List Expr} {kk : Nat} {tpos : Pos} (z : Str) (t : Tok) (e it : Addr) : Turn P w K (.Tuple elts kk tpos) (IteS z) [e, it] e (fun i h => (∃ old, IsEnum h e it ((i : Nat) : Int) old) ∧ (h.IsStrIter it (strIterType z) z t i ∧ e ≠ it)) where
  mem := by simp
  obj := fun i h st b hb => by
    obtain ⟨⟨old, he⟩, ⟨o, ho, hc, hd⟩, _⟩ := st
    rcases List.mem_cons.mp hb with z | hb
    · rw [z]; exact ⟨_, he, fun v q => nomatch q⟩
    · rw [List.mem_singleton.mp hb]; exact ⟨o, ho, fun v q => by rw [hd] at q; cases q⟩
  keep := fun i h h' st k => let ⟨⟨old, he⟩, ⟨o, ho, r⟩, hne⟩ := st; ⟨⟨old, k e (by simp) _ he⟩, ⟨o, k it (by simp) o ho, r⟩, hne⟩
  item := by
    intro X hP hw hK hc i pins s σ H E I hf st hg
    subst hP hw hK
    obtain ⟨⟨old, he⟩, hit, hne⟩ := st
    obtain ⟨oi, hio, hic, _⟩ := id hit
    have D := Draws.text (prog := X.prog) (w := X.w) (A := X.A.in1) (I.ok.hd hc) it z t
    refine wpAny_pyNext_enum_itemD D he hit hg hne (by simp [hne]) fun y h' tk hy ho hst' hT hsz hk => ?_
    obtain ⟨c, t', hc', rfl⟩ := hy
    refine ⟨_, rfl, wpAny_mono (enum_fin (x := .str ⟨#[c]⟩) (St' := fun h => h.IsStrIter it (strIterType z) z t (i + 1) ∧ e ≠ it) I hf (Heap.lt_size he) (Heap.lt_size hio) ho hT hk ⟨_, rfl⟩ fun h'' sb => ⟨let ⟨o, ho, r⟩ := hst'; ⟨o, (sb.2 it (Ne.symm hne)).trans ho, r⟩, hne⟩) (fun _ s2 hh => ?_) fun _ _ z => z⟩
    obtain ⟨y2, H', I', rr, ⟨T, h1, h2, h3⟩, h4, h5⟩ := hh
    exact ⟨y2, H', I', rr, ⟨T, c, h1, h2, h3, hc'⟩, h4, h5⟩
  done := by
    intro X hP hw hK hc i pins s σ H E I hf st hg
    subst hP hw hK
    obtain ⟨⟨old, he⟩, hit, hne⟩ := st
    obtain ⟨f0, f1, f2, f3, f4, f5⟩ := hf it (by simp)
    have D := Draws.text (prog := X.prog) (w := X.w) (A := X.A.in1) (I.ok.hd hc) it z t
    cases (show z.cps.size = i from hg)
    refine wpAny_pyNext_enum_endD D he hit fun h' he' => ⟨rfl, I.turned (t' := s.toks) (fun b o hb q => he' b o hb q) f0 f1 f3 f4 f5⟩
  self := fun A i s Q E st h => let ⟨⟨_, he⟩, _⟩ := st; wpAny_pyIter_enum he h
def iEnumD (X : Cx) (ta : TA) : TI := fun σ H R => ta σ H fun vs H1 => (∃ a xs, vs = [.ref a] ∧ SqT X.K H1 a xs ∧ R (IteT X.K a) H1) ∨ (∃ z, vs = [.str z] ∧ R (IteS z) H1)
theorem pi_enumD {X : Cx} {e : Expr} {ta : TA} {p pos tpos : Pos} {elts : List Expr} {kk : Nat} (hm : X.mg "enumerate" = none) (ha : PA X [e] ta) (hg : Gl X "enumerate" := by rfl) (hs : starEach [e] X.env = [(false, eval e X.env)] := by rfl) :
    PI X (.Tuple elts kk tpos) (.Call (.Name "enumerate" p) [e] [] pos) (iEnumD X ta) := by
  refine ⟨fun pins s σ H R I h => ?_⟩
  refine Call_ (ld_blt I hg hm boot_enumerate (PyProof.Rows.callWith_type1 (thn (ha.run pos pins s σ H _ I h) fun us s1 ⟨vs, H1, I1, r1, q1⟩ => ?_) hs rfl))
  rcases q1 with ⟨a, xs, ex, hq, q⟩ | ⟨z, ex, q⟩
  · subst ex
    cases r1 with
    | cons r rr =>
      cases rr
      cases r
      obtain ⟨its, rv, p', hz⟩ := I1.tuple hq
      refine call_enum_tup p' fun h' he hit hk => wpAny_pyIter_enum he ?_
      have I2 : Inv X pins σ H1 { s1 with heap := h' } := I1.kept (t' := s1.toks) hk
      refine ⟨s1.heap.objs.size + 1, [s1.heap.objs.size + 1, s1.heap.objs.size], _, _, H1, rfl, I2, turn_enumT a (s1.heap.objs.size + 1) s1.heap.objs.size, ⟨⟨.none, he⟩, hit, Nat.succ_ne_self _⟩, fun b hb => ?_, q⟩
      have e' : b = s1.heap.objs.size + 1 ∨ b = s1.heap.objs.size := by simpa using hb
      have hle : s1.heap.objs.size ≤ b := by
        rcases e' with z | z
        · rw [z]; exact Nat.le_add_right _ _
        · rw [z]; exact Nat.le_refl _
      exact I1.fpOk hle (I1.hok.fresh hle)
  · subst ex
    cases r1 with
    | cons r rr =>
      cases rr
      obtain ⟨t, rfl⟩ := r
      refine call_enumerate_str fun h' he hit hsz hk => wpAny_pyIter_enum he ?_
      have I2 : Inv X pins σ H1 { s1 with heap := h' } := I1.kept (t' := s1.toks) hk
      refine ⟨s1.heap.objs.size + 1, [s1.heap.objs.size + 1, s1.heap.objs.size], _, _, H1, rfl, I2, turn_enumS z t (s1.heap.objs.size + 1) s1.heap.objs.size, ⟨⟨.none, he⟩, hit, Nat.succ_ne_self _⟩, fun b hb => ?_, q⟩
      have e' : b = s1.heap.objs.size + 1 ∨ b = s1.heap.objs.size := by simpa using hb
      have hle : s1.heap.objs.size ≤ b := by
        rcases e' with z | z
        · rw [z]; exact Nat.le_add_right _ _
        · rw [z]; exact Nat.le_refl _
      exact I1.fpOk hle (I1.hok.fresh hle)
end K59
namespace K59
open PySem PySem.Spec PyProof.Rows L2
section
variable {X : Cx} {Γ : Gam} {M : Mem} {e a b c : Expr} {es : List Expr} {tg iter : Expr} {body : List Stmt} {R : D → Prop} {pos p : Pos} {x : Str} {P : Post}
/-! ### iterators -/
abbrev IsL (ds : List D) : List D → Prop := fun z => z = ds
theorem goes_tup {K : PySem.W.Frag} {w : World} {F : Hp} {q : Addr} {xs : List V} {ds : List D} (hq : SqT K F q xs) (r : Reps K w F xs ds) (hs : ∀ H : Hp, Same F H → SqT K H q xs) : Goes K w (Itt K q) F ds := fun k G F2 M2 H e ok => by
  have h2 : SqT K H q xs := hs H (e.trans ok.f)
  refine ⟨fun d hd => ?_, fun hk => ⟨xs, h2, by rw [r.length, hk]; exact Nat.le_refl _⟩⟩
  obtain ⟨v, h1, h3⟩ := r.get hd
  refine ⟨⟨xs, v, h2, h1⟩, fun x H' y => ?_⟩
  obtain ⟨rfl, hy⟩ := y
  have := hy xs h2
  rw [h1] at this
  cases this
  exact ⟨F2, Same.refl _, ok, h3.mono e⟩
theorem di_tup {ds : List D} (h : DE X Γ M iter (Is (.tup ds))) : DI X Γ M tg iter (IsL ds) := fun G F H σ Q ok sl q => iMax_of (pi_tup pe_max) (h G F H σ _ ok sl fun v d F' H' r s k rp => by
  cases (show d = .tup ds from r)
  cases rp with
  | tup hq rs => exact ⟨_, rfl, ⟨_, same_t k.f hq⟩, q _ ds F' H' rfl s k (goes_tup hq rs fun H2 e2 => same_t e2 hq)⟩)
theorem di_list {Rd : D → Prop} {RL : List D → Prop} (h : DE X Γ M iter Rd) (hR : ∀ d, Rd d → ∃ ds, d = .list ds ∧ RL ds) : DI X Γ M tg iter RL := fun G F H σ Q ok sl q => iMax_of (pi_list pe_max) (h G F H σ _ ok sl fun v d F' H' r s k rp => by
  obtain ⟨ds, rfl, hl⟩ := hR d r
  cases rp with
  | lst hq rs =>
    refine ⟨_, rfl, ⟨_, sq_l k.f hq⟩, q _ ds F' H' hl s k fun k2 G2 F2 M2 H2 e2 ok2 => ?_⟩
    have h2 := sq_l (e2.trans ok2.f) hq (K := X.K)
    refine ⟨fun d hd => ?_, fun hk => ⟨_, h2, by rw [rs.length, hk]; exact Nat.le_refl _⟩⟩
    obtain ⟨u, h1, h3⟩ := rs.get hd
    refine ⟨⟨_, u, h2, h1⟩, fun x H' y => ?_⟩
    obtain ⟨rfl, hy⟩ := y
    have := hy _ h2
    rw [h1] at this
    cases this
    exact ⟨F2, Same.refl _, ok2, h3.mono e2⟩)
theorem di_L {ds : List D} (h : DE X Γ M iter (Is (.list ds))) : DI X Γ M tg iter (IsL ds) := di_list h fun d r => ⟨ds, r, rfl⟩
def signs (z : Str) : List D := z.cps.toList.map fun c => .str ⟨#[c]⟩
theorem di_str {z : Str} (h : DE X Γ M iter (Is (.str z))) : DI X Γ M tg iter (IsL (signs z)) := fun G F H σ Q ok sl q => iMax_of (pi_str pe_max) (h G F H σ _ ok sl fun v d F' H' r s k rp => by
  cases (show d = .str z from r)
  cases rp
  refine ⟨z, rfl, q _ _ F' H' rfl s k fun k2 G2 F2 M2 H2 e2 ok2 => ⟨fun d hd => ?_, fun hk => ?_⟩⟩
  · unfold signs at hd
    rw [List.getElem?_map, Array.getElem?_toList] at hd
    obtain ⟨c, h1, rfl⟩ := Option.map_eq_some_iff.mp hd
    refine ⟨(Array.getElem?_eq_some_iff.mp h1).1, fun x H' y => ?_⟩
    obtain ⟨rfl, c', h2, rfl⟩ := y
    rw [h1] at h2
    cases h2
    exact ⟨F2, Same.refl _, ok2, .str _⟩
  · show z.cps.size ≤ k2
    rw [hk]
    simp [signs])
theorem di_keys {kvs : List (NestedKey × D)} (h : DE X Γ M iter (Is (.dict kvs))) : DI X Γ M tg iter (IsL (kvs.map fun p => kd p.1)) := fun G F H σ Q ok sl q => iMax_of (pi_V pe_max) (h G F H σ _ ok sl fun v d F' H' r s k rp => by
  cases (show d = .dict kvs from r)
  obtain ⟨p, es, ep, rfl, DD0⟩ := Dct.ofRep rp (Same.refl F')
  have hF := DD0.st
  have DD : Dct X.K X.w F' H' p es ep kvs := ⟨k.f _ _ hF, DD0.ns, DD0.nd, DD0.dp, DD0.rs⟩
  refine ⟨F', p, es, ep, kvs, rfl, DD, q _ _ F' H' rfl s k fun k2 G2 F2 M2 H2 e2 ok2 => ?_⟩
  have hH : H2 p = some (dctO p es ep) := ok2.f _ _ (e2 _ _ hF)
  refine ⟨fun d hd => ?_, fun hk => ⟨hH, ?_⟩⟩
  · rw [List.getElem?_map] at hd
    obtain ⟨⟨kk, dd⟩, h1, rfl⟩ := Option.map_eq_some_iff.mp hd
    obtain ⟨en, x, y, h2, h3, h4, h5, h6, h7⟩ := DD.rs.get h1
    rw [Array.getElem?_toList] at h2
    refine ⟨⟨hH, (Array.getElem?_eq_some_iff.mp h2).1⟩, fun x' H' y' => ?_⟩
    obtain ⟨rfl, e', h8, h9⟩ := y'
    rw [h2] at h8
    cases h8
    rw [RelV.inj h9 h4]
    exact ⟨F2, Same.refl _, ok2, h5.mono e2⟩
  · show es.size ≤ k2
    rw [hk, DD.size, List.length_map]
    exact Nat.le_refl _)
theorem di_rg1 {n : Int} (ha : DE X Γ M a (Is (.int n))) (hb : RgOk 0 n) (hm : X.mg "range" = none) (hg : Gl X "range" := by rfl) (hs : starEach [a] X.env = (false, eval a X.env) :: starEach [] X.env := by rfl) : DI X Γ M tg (.Call (.Name "range" p) [a] [] pos) (IsL (rgD 0 n)) := fun G F H σ Q ok sl q =>
  iMax_of (pi_range1 hg hm (pa_cons pe_max pa_nil hs) hs) (ha G F H σ _ ok sl fun v d F' H' r s k rp => by
    cases (show d = .int n from r)
    cases rp
    refine ⟨n, rfl, hb.2.2.1, hb.2.2.2.1, q _ _ F' H' rfl s k fun k2 G2 F2 M2 H2 e2 ok2 => ⟨fun d hd => ?_, fun hk => ?_⟩⟩
    · unfold rgD at hd
      rw [List.getElem?_map] at hd
      obtain ⟨i, h1, rfl⟩ := Option.map_eq_some_iff.mp hd
      obtain ⟨h2, h3⟩ := List.getElem?_eq_some_iff.mp h1
      rw [List.getElem_range] at h3
      rw [List.length_range] at h2
      subst h3
      refine ⟨by show k2 < n.toNat; omega, fun x H' y => ?_⟩
      obtain ⟨rfl, rfl⟩ := y
      exact ⟨F2, Same.refl _, ok2, .int _⟩
    · show n.toNat ≤ k2
      rw [hk]; simp [rgD])
theorem di_rg2 {m n : Int} (ha : DE X Γ M a (Is (.int m))) (hb : DE X Γ M b (Is (.int n))) (hr : RgOk m n) (hm : X.mg "range" = none) (hg : Gl X "range" := by rfl) (hs : starEach [a, b] X.env = [(false, eval a X.env), (false, eval b X.env)] := by rfl) (hs2 : starEach [b] X.env = [(false, eval b X.env)] := by rfl) : DI X Γ M tg (.Call (.Name "range" p) [a, b] [] pos) (IsL (rgD m n)) := fun G F H σ Q ok sl q =>
  iMax_of (pi_range2 hg hm (pa_cons pe_max (pa_cons pe_max pa_nil hs2) (hs.trans (by rw [hs2]))) hs hs2) (ha G F H σ _ ok sl fun u d1 F1 H1 r1 s1 k1 p1 => hb G F1 H1 σ _ k1 (sl.mono s1) fun v d2 F' H' r s k rp => by
    cases (show d1 = .int m from r1)
    cases (show d2 = .int n from r)
    cases p1
    cases rp
    refine ⟨m, n, rfl, ⟨hr.1, hr.2.1, hr.2.2.1, hr.2.2.2.1⟩, q _ _ F' H' rfl (s1.trans s) k fun k2 G2 F2 M2 H2 e2 ok2 => ⟨fun d hd => ?_, fun hk => ?_⟩⟩
    · unfold rgD at hd
      rw [List.getElem?_map] at hd
      obtain ⟨i, h1, rfl⟩ := Option.map_eq_some_iff.mp hd
      obtain ⟨h2, h3⟩ := List.getElem?_eq_some_iff.mp h1
      rw [List.getElem_range] at h3
      rw [List.length_range] at h2
      subst h3
      refine ⟨h2, fun x H' y => ?_⟩
      obtain ⟨rfl, rfl⟩ := y
      exact ⟨F2, Same.refl _, ok2, .int _⟩
    · show (n - m).toNat ≤ k2
      rw [hk]; simp [rgD])
/-- range(m, n, -1) -/
def rgDn (m n : Int) : List D := (List.range (m - n).toNat).map fun i => D.int (m - (i : Nat))
theorem di_rg3 {m n z : Int} (ha : DE X Γ M a (Is (.int m))) (hb : DE X Γ M b (Is (.int n))) (hc : DE X Γ M c (Is (.int z))) (ez : z = -1) (hr : RgOk m n) (hm : X.mg "range" = none) (hg : Gl X "range" := by rfl) (hs : starEach [a, b, c] X.env = (false, eval a X.env) :: starEach [b, c] X.env := by rfl) (hs1 : starEach [b, c] X.env = (false, eval b X.env) :: starEach [c] X.env := by rfl) (hs2 : starEach [c] X.env = (false, eval c X.env) :: starEach [] X.env := by rfl) (hpl : (backTo pos (starEach [b, c] X.env)).any (·.1) = false := by rfl) : DI X Γ M tg (.Call (.Name "range" p) [a, b, c] [] pos) (IsL (rgDn m n)) := fun G F H σ Q ok sl q =>
  iMax_of (pi_range3 hg hm (pa_cons pe_max (pa_cons pe_max (pa_cons pe_max pa_nil hs2) hs1) hs) hs hpl) (ha G F H σ _ ok sl fun u d1 F1 H1 r1 s1 k1 p1 => hb G F1 H1 σ _ k1 (sl.mono s1) fun v d2 F2 H2 r2 s2 k2 p2 => hc G F2 H2 σ _ k2 ((sl.mono s1).mono s2) fun v d3 F' H' r s k rp => by
    cases (show d1 = .int m from r1)
    cases (show d2 = .int n from r2)
    cases (show d3 = .int z from r)
    cases p1
    cases p2
    cases rp
    subst ez
    refine ⟨m, n, -1, (m - n).toNat, rfl, RgC.neg hr.1 hr.2.1 hr.2.2.1 hr.2.2.2.1, q _ _ F' H' rfl ((s1.trans s2).trans s) k fun k2 G2 F2 M2 H2 e2 ok2 => ⟨fun d hd => ?_, fun hk => ?_⟩⟩
    · unfold rgDn at hd
      rw [List.getElem?_map] at hd
      obtain ⟨i, h1, rfl⟩ := Option.map_eq_some_iff.mp hd
      obtain ⟨h2, h3⟩ := List.getElem?_eq_some_iff.mp h1
      rw [List.getElem_range] at h3
      rw [List.length_range] at h2
      subst h3
      refine ⟨h2, fun x H' y => ?_⟩
      obtain ⟨rfl, rfl⟩ := y
      refine ⟨F2, Same.refl _, ok2, ?_⟩
      rw [show m + ((k2 : Nat) : Int) * -1 = m - ((k2 : Nat) : Int) by omega]
      exact .int _
    · show (m - n).toNat ≤ k2
      rw [hk]; simp [rgDn])
/-- (i, x) of a tuple -/
def enumD : Nat → List D → List D
  | _, [] => []
  | n, d :: ds => .tup [.int (n : Nat), d] :: enumD (n + 1) ds
theorem enumD_len : ∀ (n : Nat) (ds : List D), (enumD n ds).length = ds.length
  | _, [] => rfl
  | n, _ :: ds => by rw [enumD, List.length_cons, List.length_cons, enumD_len]
theorem enumD_get : ∀ {n : Nat} {ds : List D} {k : Nat} {d : D}, (enumD n ds)[k]? = some d → ∃ x, ds[k]? = some x ∧ d = .tup [.int ((n + k : Nat) : Int), x]
  | n, [], k, d, h => by simp [enumD] at h
  | n, x :: ds, 0, d, h => by
    simp only [enumD, List.getElem?_cons_zero, Option.some.injEq] at h
    subst h
    exact ⟨x, rfl, rfl⟩
  | n, x :: ds, k + 1, d, h => by
    simp only [enumD, List.getElem?_cons_succ] at h
    obtain ⟨y, h1, h2⟩ := enumD_get h
    exact ⟨y, by simpa using h1, by rw [h2, show n + 1 + k = n + (k + 1) by omega]⟩
theorem di_enumT {ds : List D} {elts : List Expr} {kk : Nat} {tpos : Pos} (h : DE X Γ M e (Is (.tup ds))) (hm : X.mg "enumerate" = none) (hg : Gl X "enumerate" := by rfl) (hs : starEach [e] X.env = [(false, eval e X.env)] := by rfl) : DI X Γ M (.Tuple elts kk tpos) (.Call (.Name "enumerate" p) [e] [] pos) (IsL (enumD 0 ds)) := fun G F H σ Q ok sl q =>
  iMax_of (pi_enumD hm (pa_cons pe_max pa_nil hs) hg hs) (h G F H σ _ ok sl fun v d F' H' r s k rp => by
    cases (show d = .tup ds from r)
    cases rp with
    | tup hq rs =>
      rename_i q0 xs
      refine .inl ⟨q0, xs, rfl, same_t k.f hq, q _ _ F' H' rfl s k fun k2 G2 F2 M2 H2 e2 ok2 => ⟨fun d hd => ?_, fun hk => ?_⟩⟩
      · have h2 : SqT X.K H2 q0 xs := same_t (e2.trans ok2.f) hq
        obtain ⟨d1, h3, rfl⟩ := enumD_get hd
        obtain ⟨v, h4, h5⟩ := rs.get h3
        refine ⟨⟨xs, v, h2, h4⟩, fun x H' y => ?_⟩
        obtain ⟨T, x1, rfl, hT, rfl, hy⟩ := y
        have := hy xs h2
        rw [h4] at this
        cases this
        obtain ⟨o1, o2, o3⟩ := ok2.tup (vs := [.int (k2 : Nat), v]) (ds := [.int (k2 : Nat), d1]) (.cons (.int _) (.cons (h5.mono e2) .nil)) hT
        rw [show 0 + k2 = k2 by omega]
        exact ⟨_, o2, o1, o3⟩
      · exact ⟨xs, same_t (e2.trans ok2.f) hq, by rw [hk, enumD_len, rs.length]⟩)
theorem di_enumS {z : Str} {elts : List Expr} {kk : Nat} {tpos : Pos} (h : DE X Γ M e (Is (.str z))) (hm : X.mg "enumerate" = none) (hg : Gl X "enumerate" := by rfl) (hs : starEach [e] X.env = [(false, eval e X.env)] := by rfl) : DI X Γ M (.Tuple elts kk tpos) (.Call (.Name "enumerate" p) [e] [] pos) (IsL (enumD 0 (signs z))) := fun G F H σ Q ok sl q =>
  iMax_of (pi_enumD hm (pa_cons pe_max pa_nil hs) hg hs) (h G F H σ _ ok sl fun v d F' H' r s k rp => by
    cases (show d = .str z from r)
    cases rp
    refine .inr ⟨z, rfl, q _ _ F' H' rfl s k fun k2 G2 F2 M2 H2 e2 ok2 => ⟨fun d hd => ?_, fun hk => ?_⟩⟩
    · obtain ⟨d1, h3, rfl⟩ := enumD_get hd
      unfold signs at h3
      rw [List.getElem?_map, Array.getElem?_toList] at h3
      obtain ⟨cc, h4, rfl⟩ := Option.map_eq_some_iff.mp h3
      refine ⟨(Array.getElem?_eq_some_iff.mp h4).1, fun x H' y => ?_⟩
      obtain ⟨T, c', rfl, hT, rfl, hy⟩ := y
      rw [h4] at hy
      cases hy
      obtain ⟨o1, o2, o3⟩ := ok2.tup (vs := [.int (k2 : Nat), .str ⟨#[cc]⟩]) (ds := [.int (k2 : Nat), .str ⟨#[cc]⟩]) (.cons (.int _) (.cons (.str _) .nil)) hT
      rw [show 0 + k2 = k2 by omega]
      exact ⟨_, o2, o1, o3⟩
    · show z.cps.size = k2
      rw [hk, enumD_len]; simp [signs])
/-! ### for -/
theorem ds_for {RL : List D → Prop} (hi : DI X Γ M tg iter RL)
    (h : ∀ ds, RL ds → ∃ I : Nat → Gam → Mem → Prop, I 0 Γ M ∧ (∀ k d Γ1 M1, ds[k]? = some d → I k Γ1 M1 → ∃ Γ2, DG X Γ1 tg d Γ2 ∧ DB X Γ2 M1 body { P with nx := I (k + 1), ct := I (k + 1), bk := P.nx }) ∧ ∀ Γ1 M1, I ds.length Γ1 M1 → P.nx Γ1 M1)
    (hc : X.calm = true) (hp : PassesOwn (model X.prog X.w) X.A X.env X.xe) (hs : ∀ x, foldedSetIterable iter X.env x = pure x := by intro _; rfl) : DS X Γ M (.For tg iter body [] pos) P := fun G F H σ D ok sl W =>
  sMax_of (ps_for hp hc pi_max pg_max pb_max hs) (hi G F H σ _ ok sl fun J ds F1 H1 r s k goes => by
    obtain ⟨I, i0, step, fin⟩ := h ds r
    refine ⟨fun i m σ H => m = ds.length - i ∧ i ≤ ds.length ∧ ∃ Γ1 M1 F2, Same F1 F2 ∧ Ok X.K X.w G F2 M1 H ∧ Slots X.K X.w F2 σ Γ1 ∧ I i Γ1 M1, ⟨_, rfl, Nat.zero_le _, Γ, M, F1, Same.refl _, k, sl.mono s, i0⟩, ?_⟩
    rintro i m σ1 H2 ⟨rfl, hi, Γ1, M1, F2, s2, k2, sl2, hI⟩
    obtain ⟨g1, g2⟩ := goes i G F2 M1 H2 s2 k2
    by_cases hlt : i < ds.length
    · right
      obtain ⟨g3, g4⟩ := g1 _ (List.getElem?_eq_getElem hlt)
      refine ⟨g3, fun σ' H' => ∃ Γ1 M1 F2, Same F1 F2 ∧ Ok X.K X.w G F2 M1 H' ∧ Slots X.K X.w F2 σ' Γ1 ∧ I (i + 1) Γ1 M1, fun σ' H' z => ⟨ds.length - (i + 1), by omega, rfl, hlt, z⟩, fun x H' y => ?_⟩
      obtain ⟨F3, s3, k3, rp⟩ := g4 x H' y
      obtain ⟨Γ2, hg, hb⟩ := step i _ Γ1 M1 (List.getElem?_eq_getElem hlt) hI
      refine hg G F3 H' M1 σ1 x _ k3 (sl2.mono s3) rp fun σ2 sl3 => hb G F3 H' σ2 _ k3 sl3 ⟨?_, ?_, ?_, ?_⟩
      · exact fun Γ' M' F' H' σ' p e k l => ⟨Γ', M', F', ((s2.trans s3).trans e), k, l, p⟩
      · exact fun d M' F' H' v p e k l => W.rt d M' F' H' v p (((s.trans s2).trans s3).trans e) k l
      · exact fun Γ' M' F' H' σ' p e k l => W.nx Γ' M' F' H' σ' p (((s.trans s2).trans s3).trans e) k l
      · exact fun Γ' M' F' H' σ' p e k l => ⟨Γ', M', F', ((s2.trans s3).trans e), k, l, p⟩
    · left
      have ei : i = ds.length := by omega
      subst ei
      exact ⟨g2 rfl, W.nx Γ1 M1 F2 H2 σ1 (fin Γ1 M1 hI) (s.trans s2) k2 sl2⟩)
/-! ### while -/
theorem ds_while {I : Nat → Gam → Mem → Prop} {m0 : Nat} (h0 : I m0 Γ M) (h : ∀ m Γ1 M1, I m Γ1 M1 → ∃ RB : Bool → Prop, DT X Γ1 M1 c RB ∧ (RB true → DB X Γ1 M1 body { P with nx := fun Γ2 M2 => ∃ m', m' < m ∧ I m' Γ2 M2, ct := fun Γ2 M2 => ∃ m', m' < m ∧ I m' Γ2 M2, bk := P.nx }) ∧ (RB false → P.nx Γ1 M1))
    (hp : PassesOwn (model X.prog X.w) X.A X.env X.xe) : DS X Γ M (.While c body [] pos) P := fun G F H σ D ok sl W =>
  sMax_of (ps_while hp pt_max pb_max) (by
    refine ⟨fun m σ H => ∃ Γ1 M1 F2, Same F F2 ∧ Ok X.K X.w G F2 M1 H ∧ Slots X.K X.w F2 σ Γ1 ∧ I m Γ1 M1, ⟨m0, Γ, M, F, Same.refl _, ok, sl, h0⟩, ?_⟩
    rintro m σ1 H1 ⟨Γ1, M1, F1, s1, k1, sl1, hI⟩
    obtain ⟨RB, ht, hb, hn⟩ := h m Γ1 M1 hI
    refine ht G F1 H1 σ1 _ k1 sl1 fun b F2 H2 r2 s2 k2 => ?_
    cases b with
    | true =>
      rw [if_pos rfl]
      refine ⟨fun σ' H' => ∃ Γ2 M2 F3, Same F F3 ∧ Ok X.K X.w G F3 M2 H' ∧ Slots X.K X.w F3 σ' Γ2 ∧ ∃ m', m' < m ∧ I m' Γ2 M2, fun σ' H' ⟨Γ2, M2, F3, e1, e2, e3, m', e4, e5⟩ => ⟨m', e4, Γ2, M2, F3, e1, e2, e3, e5⟩, ?_⟩
      refine hb r2 G F2 H2 σ1 _ k2 (sl1.mono s2) ⟨?_, ?_, ?_, ?_⟩
      · exact fun Γ' M' F' H' σ' p e k l => ⟨Γ', M', F', ((s1.trans s2).trans e), k, l, p⟩
      · exact fun d M' F' H' v p e k l => W.rt d M' F' H' v p ((s1.trans s2).trans e) k l
      · exact fun Γ' M' F' H' σ' p e k l => W.nx Γ' M' F' H' σ' p ((s1.trans s2).trans e) k l
      · exact fun Γ' M' F' H' σ' p e k l => ⟨Γ', M', F', ((s1.trans s2).trans e), k, l, p⟩
    | false =>
      exact W.nx Γ1 M1 F2 H2 σ1 (hn r2) (s1.trans s2) k2 (sl1.mono s2))
end
end K59
namespace K59
open PySem PySem.Spec PyProof.Rows L2
/-! ### comprehensions -/
theorem ift {A B : Prop} (h : A) : if true = true then A else B := by rw [if_pos rfl]; exact h
def wipeG (Γ : Gam) : List Nat → Gam
  | [] => Γ
  | v :: vs => (wipeG Γ vs).set v .any
theorem Slots.forget {K : PySem.W.Frag} {w : World} {F : Hp} {σ : L2.St} {Γ : Gam} (h : Slots K w F σ Γ) (i : Nat) : Slots K w F (σ.set i none) (Γ.set i .any) := by
  refine ⟨by rw [List.length_set, List.length_set, h.len], fun j s k => ?_⟩
  by_cases e : i = j
  · subst e
    have hi : i < (Γ.set i Sl.any).length := (List.getElem?_eq_some_iff.mp k).1
    rw [List.length_set] at hi
    rw [List.getElem?_set_self hi] at k
    cases k
    exact True.intro
  · rw [List.getElem?_set_ne e] at k ⊢
    exact h.row j s k
theorem Slots.wipe {K : PySem.W.Frag} {w : World} {F : Hp} {σ : L2.St} {Γ : Gam} (h : Slots K w F σ Γ) : ∀ vs : List Nat, Slots K w F (L2.wipe σ vs) (wipeG Γ vs)
  | [] => h
  | v :: vs => (Slots.wipe h vs).forget v
theorem wipe_set {σ : L2.St} {i : Nat} {x : Option V} : ∀ {vs : List Nat}, i ∈ vs → wipe (σ.set i x) vs = wipe σ vs
  | [], h => by simp at h
  | v :: vs, h => by
    unfold wipe
    by_cases hm : i ∈ vs
    · rw [wipe_set hm]
    · have e : i = v := (List.mem_cons.mp h).elim id fun z => absurd z hm
      subst e
      apply List.ext_getElem?
      intro j
      by_cases ej : i = j
      · subst ej
        by_cases hl : i < σ.length
        · rw [List.getElem?_set_self (by rw [wipe_length, List.length_set]; exact hl), List.getElem?_set_self (by rw [wipe_length]; exact hl)]
        · rw [List.getElem?_eq_none (by rw [List.length_set, wipe_length, List.length_set]; omega), List.getElem?_eq_none (by rw [List.length_set, wipe_length]; omega)]
      · rw [List.getElem?_set_ne ej, List.getElem?_set_ne ej]
        by_cases hj : j ∈ vs
        · have : ∀ (τ : L2.St) (us : List Nat), j ∈ us → (wipe τ us)[j]? = if j < τ.length then some none else none := by
            intro τ us
            induction us with
            | nil => intro h; simp at h
            | cons u us ih =>
              intro h
              unfold wipe
              by_cases eu : u = j
              · subst eu
                by_cases hl : u < τ.length
                · rw [List.getElem?_set_self (by rw [wipe_length]; exact hl), if_pos hl]
                · rw [List.getElem?_eq_none (by rw [List.length_set, wipe_length]; omega), if_neg hl]
              · rw [List.getElem?_set_ne eu]
                exact ih ((List.mem_cons.mp h).elim (fun z => absurd z.symm eu) id)
          rw [this _ _ hj, this _ _ hj, List.length_set]
        · rw [wipe_out hj, wipe_out hj, List.getElem?_set_ne ej]
theorem wipe_wipe {σ : L2.St} : ∀ {us vs : List Nat}, (∀ u ∈ us, u ∈ vs) → wipe (wipe σ us) vs = wipe σ vs
  | [], _, _ => rfl
  | u :: us, vs, h => by
    rw [show wipe σ (u :: us) = (wipe σ us).set u none from rfl, wipe_set (h u List.mem_cons_self)]
    exact wipe_wipe fun z hz => h z (List.mem_cons_of_mem _ hz)
/-- a target that writes the names vs alone -/
def DGc (X : Cx) (Γ : Gam) (vs : List Nat) (tg : Expr) (d : D) (Γ' : Gam) : Prop := ∀ (G F H : Hp) (M : Mem) (σ : L2.St) (v : V) (Q : L2.St → Hp → Prop), Ok X.K X.w G F M H → Slots X.K X.w F σ Γ → Rep X.K X.w F v d → (∀ σ', Slots X.K X.w F σ' Γ' → wipe σ' vs = wipe σ vs → Q σ' H) → gMax X tg v σ H Q
section
variable {X : Cx} {Γ : Gam} {M : Mem} {x : Str} {pos : Pos} {vs : List Nat}
theorem dgc_name (i : Nat) {d : D} (hN : X.N.Nodup) (hv : i ∈ vs := by decide) (hi : X.N[i]? = some x := by rfl) (hx : Loc X.env.scope x := by first | exact Or.inl rfl | exact Or.inr rfl) (hf : X.fn x = true ∨ X.env.scope.names.lookup x = some .local := by first | exact .inl rfl | exact .inr rfl) : DGc X Γ vs (.Name x pos) d (Γ.set i (.dat d)) := fun G F H M σ v Q ok sl r q =>
  gMax_of (pg_name hN hi hx hf) (q _ (sl.set ⟨v, rfl, r⟩) (wipe_set hv))
theorem dgc_two {t1 t2 : Expr} {d1 d2 : D} {Γ1 Γ2 : Gam} {k : Nat} (hc : X.calm = true) (h1 : DGc X Γ vs t1 d1 Γ1) (h2 : DGc X Γ1 vs t2 d2 Γ2) (hs : (assignEach [t1, t2] X.env).map (·.2) = assign t1 X.env :: (assignEach [t2] X.env).map (·.2) := by rfl) (hs2 : (assignEach [t2] X.env).map (·.2) = assign t2 X.env :: (assignEach [] X.env).map (·.2) := by rfl)
    (hn : (assignEach [t1, t2] X.env).length = 2 := by rfl) (hst : (assignEach [t1, t2] X.env).findIdx? (·.1) = none := by rfl) : DGc X Γ vs (.Tuple [t1, t2] k pos) (.tup [d1, d2]) Γ2 := fun G F H M σ v Q ok sl r q =>
  gMax_of (pg_tup hc (pgs_cons pg_max (pgs_cons pg_max pgs_nil hs2) hs) hn hst) (by
    cases r with
    | tup hq rs =>
      cases rs with
      | cons r1 rs =>
        cases rs with
        | cons r2 rs =>
          cases rs
          exact ⟨_, _, rfl, same_t ok.f hq, rfl, _, _, rfl, h1 G F H M σ _ _ ok sl r1 fun σ1 sl1 e1 => ⟨_, _, rfl, h2 G F H M σ1 _ _ ok sl1 r2 fun σ2 sl2 e2 => ⟨rfl, q σ2 sl2 (e2.trans e1)⟩⟩⟩)
/-- the tests of a clause -/
def ptsMax (X : Cx) (ifs : List Expr) : TT := fun σ H Q => ∀ (pins : List (Addr × Obj)) (s : Shared), Inv X pins σ H s →
  wpAny (model X.prog X.w) X.A (forIn ifs true fun c r => if r = true then do let ok ← isTrue c X.env (eval c X.env); pure (ForInStep.yield ok) else pure (ForInStep.yield r)) (TP X pins σ Q) X.xe s
theorem pts_max {ifs : List Expr} : PTs X ifs (ptsMax X ifs) := ⟨fun pins s σ H Q I h => h pins s I⟩
theorem ptsMax_of {ifs : List Expr} {t : TT} {σ : L2.St} {H : Hp} {Q : Bool → Hp → Prop} (h : PTs X ifs t) (q : t σ H Q) : ptsMax X ifs σ H Q := fun pins s I => h.run pins s σ H Q I q
def DTs (X : Cx) (Γ : Gam) (M : Mem) (ifs : List Expr) (R : Bool → Prop) : Prop := ∀ (G F H : Hp) (σ : L2.St) (Q : Bool → Hp → Prop), Ok X.K X.w G F M H → Slots X.K X.w F σ Γ →
  (∀ b F' H', R b → Same F F' → Ok X.K X.w G F' M H' → Q b H') → ptsMax X ifs σ H Q
theorem dts_nil : DTs X Γ M [] (IsT true) := fun G F H σ Q ok sl q => ptsMax_of pts_nil (q true F H rfl (Same.refl _) ok)
theorem dts_one {c : Expr} {R : Bool → Prop} (h : DT X Γ M c R) : DTs X Γ M [c] R := fun G F H σ Q ok sl q => ptsMax_of (pts_one pt_max) (h G F H σ Q ok sl q)
/-- a block within X -/
abbrev BX (X : Cx) (scope : Scope) (s : Shared) (H : Hp) (C : Addr) (cl : List (Str × Addr)) (fp : List Addr) : Cx := X.blk s H scope (compEnvC scope cl C X.env) fp
def gAll (X : Cx) (scope : Scope) (tg : Expr) : TG := fun v σ H Q => ∀ (s0 : Shared) (H0 : Hp) (C : Addr) (cl : List (Str × Addr)) (fp : List Addr), gMax (BX X scope s0 H0 C cl fp) tg v σ H Q
def eAll (X : Cx) (scope : Scope) (e : Expr) : TE := fun σ H Q => ∀ (s0 : Shared) (H0 : Hp) (C : Addr) (cl : List (Str × Addr)) (fp : List Addr), eMax (BX X scope s0 H0 C cl fp) e σ H Q
def tAll (X : Cx) (scope : Scope) (ifs : List Expr) : TT := fun σ H Q => ∀ (s0 : Shared) (H0 : Hp) (C : Addr) (cl : List (Str × Addr)) (fp : List Addr), ptsMax (BX X scope s0 H0 C cl fp) ifs σ H Q
theorem pg_all {scope : Scope} {tg : Expr} (s : Shared) (H : Hp) (C : Addr) (cl : List (Str × Addr)) (fp : List Addr) : PG (X.blk s H scope (compEnvC scope cl C X.env) fp) tg (gAll X scope tg) := ⟨fun pins s1 σ H1 v u Q I r h => h s H C cl fp pins s1 u I r⟩
theorem pe_all {scope : Scope} {e : Expr} (s : Shared) (H : Hp) (C : Addr) (cl : List (Str × Addr)) (fp : List Addr) : PE (X.blk s H scope (compEnvC scope cl C X.env) fp) e (eAll X scope e) := ⟨fun pins s1 σ H1 Q I h => h s H C cl fp pins s1 I⟩
theorem pt_all {scope : Scope} {ifs : List Expr} (s : Shared) (H : Hp) (C : Addr) (cl : List (Str × Addr)) (fp : List Addr) : PTs (X.blk s H scope (compEnvC scope cl C X.env) fp) ifs (tAll X scope ifs) := ⟨fun pins s1 σ H1 Q I h => h s H C cl fp pins s1 I⟩
variable {elt kx vx tg iter : Expr} {ifs : List Expr} {scope : Scope} {own : List (Str × Nat)} {RL RO : List D → Prop} {P : Post}
/-- one turn of [elt for tg in iter if ..] -/
def Turns (X : Cx) (Γ : Gam) (M : Mem) (scope : Scope) (own : List (Str × Nat)) (tg : Expr) (ifs : List Expr) (elt : Expr) (ds : List D) (RO : List D → Prop) : Prop :=
  ∃ I : Nat → List D → Prop, I 0 [] ∧ (∀ k d acc q, ds[k]? = some d → I k acc → acc.length < 100000 ∧ ∃ Γ2 RB, ∀ (s0 : Shared) (H0 : Hp) (C : Addr) (cl : List (Str × Addr)) (fp : List Addr),
    DGc (BX X scope s0 H0 C cl fp) (wipeG Γ (own.map (·.2))) (own.map (·.2)) tg d Γ2 ∧ DTs (BX X scope s0 H0 C cl fp) Γ2 ((q, .ls acc) :: M) ifs RB ∧ (RB true → DE (BX X scope s0 H0 C cl fp) Γ2 ((q, .ls acc) :: M) elt fun v => I (k + 1) (acc ++ [v])) ∧ (RB false → I (k + 1) acc)) ∧ ∀ acc, I ds.length acc → RO acc
theorem lc_read (hi : DI X Γ M tg iter RL) (h : ∀ ds, RL ds → Turns X Γ M scope own tg ifs elt ds RO) {G F H : Hp} {σ : L2.St} {Q : VK} (ok : Ok X.K X.w G F M H) (sl : Slots X.K X.w F σ Γ)
    (q : ∀ a es F' H', RO es → Same F F' → Ok X.K X.w G F' ((a, .ls es) :: M) H' → Q (.ref a) H') : tLc (iMax X tg iter) (gAll X scope tg) (tAll X scope ifs) (eAll X scope elt) (own.map (·.2)) σ H Q := by
  refine hi G F H σ _ ok sl fun J ds F1 H1 r s k goes => ?_
  intro p hp
  obtain ⟨I, i0, step, fin⟩ := h ds r
  refine ⟨fun i m H => m = ds.length - i ∧ i ≤ ds.length ∧ ∃ acc F2, Same F1 F2 ∧ Ok X.K X.w G F2 ((p, .ls acc) :: M) H ∧ I i acc, ⟨_, rfl, Nat.zero_le _, [], F1, Same.refl _, k.newM hp ⟨[], upd_same, .nil⟩, i0⟩, ?_⟩
  rintro i m H2 ⟨rfl, hi, acc, F2, s2, k2, hI⟩
  obtain ⟨g1, g2⟩ := goes i G F2 _ H2 s2 k2
  by_cases hlt : i < ds.length
  · right
    obtain ⟨g3, g4⟩ := g1 _ (List.getElem?_eq_getElem hlt)
    refine ⟨g3, fun H' => ∃ acc F2, Same F1 F2 ∧ Ok X.K X.w G F2 ((p, .ls acc) :: M) H' ∧ I (i + 1) acc, fun H' z => ⟨ds.length - (i + 1), by omega, rfl, hlt, z⟩, fun x H' y => ?_⟩
    obtain ⟨F3, s3, k3, rp⟩ := g4 x H' y
    obtain ⟨hz, Γ2, RB, hall⟩ := step i _ acc p (List.getElem?_eq_getElem hlt) hI
    intro s0 H0 C cl fp
    refine (hall s0 H0 C cl fp).1 G F3 H' _ _ x _ k3 (((sl.mono s).mono (s2.trans s3)).wipe _) rp fun σ2 sl2 e2 => ?_
    refine ⟨e2.trans (wipe_wipe fun _ z => z), fun s0 H0 C cl fp => ?_⟩
    refine (hall s0 H0 C cl fp).2.1 G F3 H' σ2 _ k3 sl2 fun b F4 H4 rb s4 k4 => ?_
    cases b with
    | false =>
      rw [if_neg Bool.false_ne_true]
      exact ⟨acc, F4, (s2.trans s3).trans s4, k4, (hall s0 H0 C cl fp).2.2.2 rb⟩
    | true =>
      rw [if_pos rfl]
      intro s0 H0 C cl fp
      refine (hall s0 H0 C cl fp).2.2.1 rb G F4 H4 σ2 _ k4 (sl2.mono s4) fun v d F5 H5 rv s5 k5 pv => ?_
      obtain ⟨_, _, xs, hx, rs⟩ := k5.m p _ List.mem_cons_self
      refine ⟨xs, hx, by rw [rs.length]; exact Nat.lt_of_lt_of_le hz (by decide), acc ++ [d], F5, ((s2.trans s3).trans s4).trans s5, k5.put (i := 0) rfl ⟨_, upd_same, rs.snoc pv⟩, rv⟩
  · left
    have ei : i = ds.length := by omega
    subst ei
    exact ⟨g2 rfl, q p acc F2 H2 (fin acc hI) (s.trans s2) k2⟩
theorem dm_lc (hc : X.calm = true) (hN : X.N.Nodup) (hi : DI X Γ M tg iter RL) (bk : BlkOk X.N X.env.scope scope own) (h : ∀ ds, RL ds → Turns X Γ M scope own tg ifs elt ds RO) (hs : ∀ x, foldedSetIterable iter X.env x = pure x := by intro _; rfl) :
    DM X Γ M (.ListComp elt [⟨tg, iter, ifs, 0⟩] scope pos) (fun o => ∃ es, o = .ls es ∧ RO es) := fun G F H σ Q ok sl q =>
  eMax_of (pe_lc hc hN pi_max bk pg_all pt_all pe_all hs) (lc_read hi h ok sl fun a es F' H' r s k => q a _ F' H' ⟨es, rfl, r⟩ s k)
theorem de_lc {R : D → Prop} (hc : X.calm = true) (hN : X.N.Nodup) (hi : DI X Γ M tg iter RL) (bk : BlkOk X.N X.env.scope scope own) (h : ∀ ds, RL ds → Turns X Γ M scope own tg ifs elt ds (fun es => R (.list es))) (hs : ∀ x, foldedSetIterable iter X.env x = pure x := by intro _; rfl) :
    DE X Γ M (.ListComp elt [⟨tg, iter, ifs, 0⟩] scope pos) R := de_ofMR (dm_lc hc hN hi bk h hs) fun ds r => r
/-- name = [..] -/
theorem ds_setLc (i : Nat) {y : Str} {py spos : Pos} (hc : X.calm = true) (hN : X.N.Nodup) (hi : DI X Γ M tg iter RL) (bk : BlkOk X.N X.env.scope scope own) (h : ∀ ds, RL ds → Turns X Γ M scope own tg ifs elt ds (fun es => P.nx (Γ.set i (.dat (.list es))) M))
    (hk : X.env.scope.kind = .function := by rfl) (hy : X.N[i]? = some y := by rfl) (hyl : X.env.scope.names.lookup y = some .local := by rfl) (hl : (py.line == pos.line) = true := by rfl) (ha : (scope.names.any fun (n, k) => n == y && (k == .local || k == .cell)) = false := by rfl) (hs : ∀ x, foldedSetIterable iter X.env x = pure x := by intro _; rfl) :
    DS X Γ M (.Assign [.Name y py] (.ListComp elt [⟨tg, iter, ifs, 0⟩] scope pos) spos) P := fun G F H σ D ok sl W =>
  sMax_of (ps_setLc hc hN hy hyl (sw_true hk hyl hl ha) pi_max bk pg_all pt_all pe_all hs) (lc_read hi h ok sl fun a es F' H' r s k => by
    obtain ⟨_, _, xs, hx, rp⟩ := k.m a _ List.mem_cons_self
    obtain ⟨h1, h2⟩ := k.freeze (i := 0) rfl hx
    exact W.nx _ _ _ _ _ r (s.trans h2) h1 ((sl.mono (s.trans h2)).set ⟨.ref a, rfl, .lst upd_same (rp.mono h2)⟩))
/-- {k: v for tg in iter} -/
def TurnsD (X : Cx) (Γ : Gam) (M : Mem) (scope : Scope) (own : List (Str × Nat)) (tg : Expr) (kx vx : Expr) (ds : List D) (RO : List (NestedKey × D) → Prop) : Prop :=
  ∃ I : Nat → List (NestedKey × D) → Prop, I 0 [] ∧ (∀ k d acc q, ds[k]? = some d → I k acc → acc.length ≤ 100000 ∧ ∃ Γ2 kk dv, kk.depth ≤ 8 ∧ I (k + 1) (dput kk dv acc) ∧ ∀ (s0 : Shared) (H0 : Hp) (C : Addr) (cl : List (Str × Addr)) (fp : List Addr),
    DGc (BX X scope s0 H0 C cl fp) (wipeG Γ (own.map (·.2))) (own.map (·.2)) tg d Γ2 ∧ DE (BX X scope s0 H0 C cl fp) Γ2 ((q, .dc acc) :: M) kx (Is (kd kk)) ∧ DE (BX X scope s0 H0 C cl fp) Γ2 ((q, .dc acc) :: M) vx (Is dv)) ∧ ∀ acc, I ds.length acc → RO acc
theorem dc_read {RD : List (NestedKey × D) → Prop} (hi : DI X Γ M tg iter RL) (h : ∀ ds, RL ds → TurnsD X Γ M scope own tg kx vx ds RD) {G F H : Hp} {σ : L2.St} {Q : VK} (ok : Ok X.K X.w G F M H) (sl : Slots X.K X.w F σ Γ)
    (q : ∀ a es F' H', RD es → Same F F' → Ok X.K X.w G F' ((a, .dc es) :: M) H' → Q (.ref a) H') : tDcV X.K X.w (iMax X tg iter) (gAll X scope tg) tYes (eAll X scope kx) (eAll X scope vx) (own.map (·.2)) σ H Q := by
  refine hi G F H σ _ ok sl fun J ds F1 H1 r s k goes => ?_
  intro p hp ns
  obtain ⟨I, i0, step, fin⟩ := h ds r
  refine ⟨fun i m H => m = ds.length - i ∧ i ≤ ds.length ∧ ∃ acc F2, Same F1 F2 ∧ Ok X.K X.w G F2 ((p, .dc acc) :: M) H ∧ I i acc, ⟨_, rfl, Nat.zero_le _, [], F1, Same.refl _, k.newD hp ns, i0⟩, ?_⟩
  rintro i m H2 ⟨rfl, hi, acc, F2, s2, k2, hI⟩
  obtain ⟨g1, g2⟩ := goes i G F2 _ H2 s2 k2
  by_cases hlt : i < ds.length
  · right
    obtain ⟨g3, g4⟩ := g1 _ (List.getElem?_eq_getElem hlt)
    refine ⟨g3, fun H' => ∃ acc F2, Same F1 F2 ∧ Ok X.K X.w G F2 ((p, .dc acc) :: M) H' ∧ I (i + 1) acc, fun H' z => ⟨ds.length - (i + 1), by omega, rfl, hlt, z⟩, fun x H' y => ?_⟩
    obtain ⟨F3, s3, k3, rp⟩ := g4 x H' y
    obtain ⟨hz, Γ2, kk, dv, kdp, hnx, hall⟩ := step i _ acc p (List.getElem?_eq_getElem hlt) hI
    intro s0 H0 C cl fp
    refine (hall s0 H0 C cl fp).1 G F3 H' _ _ x _ k3 (((sl.mono s).mono (s2.trans s3)).wipe _) rp fun σ2 sl2 e2 => ?_
    refine ⟨e2.trans (wipe_wipe fun _ z => z), ?_⟩
    simp only [tYes, if_true]
    intro s0 H0 C cl fp
    refine (hall s0 H0 C cl fp).2.1 G F3 H' σ2 _ k3 sl2 fun u d1 F4 H4 r4 s4 k4 p4 => ?_
    cases (show d1 = kd kk from r4)
    intro s0 H0 C cl fp
    refine (hall s0 H0 C cl fp).2.2 G F4 H4 σ2 _ k4 (sl2.mono s4) fun v d2 F5 H5 r5 s5 k5 p5 => ?_
    cases (show d2 = dv from r5)
    exact k5.setD (i := 0) rfl (p4.mono s5) kdp p5 hz fun H6 k6 => ⟨_, F5, ((s2.trans s3).trans s4).trans s5, k6, hnx⟩
  · left
    have ei : i = ds.length := by omega
    subst ei
    exact ⟨g2 rfl, q p acc F2 H2 (fin acc hI) (s.trans s2) k2⟩
theorem dm_dc {RD : List (NestedKey × D) → Prop} (hu : X.A.units + 9 < cLine) (hc : X.calm = true) (hN : X.N.Nodup) (hi : DI X Γ M tg iter RL) (bk : BlkOk X.N X.env.scope scope own) (h : ∀ ds, RL ds → TurnsD X Γ M scope own tg kx vx ds RD) (hs : ∀ x, foldedSetIterable iter X.env x = pure x := by intro _; rfl) :
    DM X Γ M (.DictComp kx vx [⟨tg, iter, [], 0⟩] scope pos) (fun o => ∃ es, o = .dc es ∧ RD es) := fun G F H σ Q ok sl q =>
  eMax_of (pe_dcV hu hc hN pi_max bk pg_all (fun _ _ _ _ _ => pts_nil) pe_all pe_all hs) (dc_read hi h ok sl fun a es F' H' r s k => q a _ F' H' ⟨es, rfl, r⟩ s k)
/-- name = {..}, still to be filled -/
theorem ds_setDcM (i : Nat) {y : Str} {py spos : Pos} {RD : List (NestedKey × D) → Prop} (hu : X.A.units + 9 < cLine) (hc : X.calm = true) (hN : X.N.Nodup) (hi : DI X Γ M tg iter RL) (bk : BlkOk X.N X.env.scope scope own) (h : ∀ ds, RL ds → TurnsD X Γ M scope own tg kx vx ds RD) (hn : ∀ q es, RD es → P.nx (Γ.set i (.ptr q)) ((q, .dc es) :: M))
    (hk : X.env.scope.kind = .function := by rfl) (hy : X.N[i]? = some y := by rfl) (hyl : X.env.scope.names.lookup y = some .local := by rfl) (hl : (py.line == pos.line) = true := by rfl) (ha : (scope.names.any fun (n, k) => n == y && (k == .local || k == .cell)) = false := by rfl) (hs : ∀ x, foldedSetIterable iter X.env x = pure x := by intro _; rfl) :
    DS X Γ M (.Assign [.Name y py] (.DictComp kx vx [⟨tg, iter, [], 0⟩] scope pos) spos) P := fun G F H σ D ok sl W =>
  sMax_of (ps_setDcV hy hyl (sw_dc hk hyl hl ha) hu hc hN pi_max bk pg_all (fun _ _ _ _ _ => pts_nil) pe_all pe_all hs) (dc_read hi h ok sl fun a es F' H' r s k => W.nx _ _ _ _ _ (hn a es r) s k ((sl.mono s).set rfl))
end
end K59
namespace K59
open PySem PySem.Spec PyProof.Rows L2
/-! ### lending -/
def lendG (F : Hp) (M1 : Mem) (H : Hp) : Hp := fun b => if (F b).isNone = true ∧ b ∉ M1.map Prod.fst then H b else none
section
variable {K : PySem.W.Frag} {w : World} {G F F' H H' : Hp} {M M1 M1' M' : Mem}
theorem lendG_some {b : Addr} {u : HO} (h : lendG F M1 H b = some u) : F b = none ∧ b ∉ M1.map Prod.fst ∧ H b = some u := by
  unfold lendG at h
  by_cases c : (F b).isNone = true ∧ b ∉ M1.map Prod.fst
  · rw [if_pos c] at h
    exact ⟨Option.isNone_iff_eq_none.mp c.1, c.2, h⟩
  · rw [if_neg c] at h
    cases h
theorem lendG_at {b : Addr} {u : HO} (h1 : F b = none) (h2 : b ∉ M1.map Prod.fst) (h3 : H b = some u) : lendG F M1 H b = some u := by
  unfold lendG
  rw [if_pos ⟨by rw [h1]; rfl, h2⟩]
  exact h3
theorem Ok.lend (k : Ok K w G F M H) (sub : ∀ p ∈ M1, p ∈ M) (nd : (M1.map Prod.fst).Nodup) : Ok K w (lendG F M1 H) F M1 H := by
  refine ⟨k.f, fun b u e => (lendG_some e).2.2, fun b u e => (lendG_some e).1, fun a o hm => ?_, nd⟩
  obtain ⟨h1, h2, h3⟩ := k.m a o (sub _ hm)
  refine ⟨h1, ?_, h3⟩
  cases e : lendG F M1 H a with
  | none => rfl
  | some u => exact absurd (List.mem_map.mpr ⟨_, hm, rfl⟩) (lendG_some e).2.1
theorem Ok.back (k : Ok K w G F M H) (sub : ∀ p ∈ M1, p ∈ M) (k' : Ok K w (lendG F M1 H) F' M1' H') (s : Same F F') (e1 : M1'.map Prod.fst = M1.map Prod.fst) (hM : ∀ a o, (a, o) ∈ M' → (a, o) ∈ M1' ∨ ((a, o) ∈ M ∧ a ∉ M1.map Prod.fst)) (nd : (M'.map Prod.fst).Nodup) : Ok K w G F' M' H' := by
  have gl : ∀ b u, G b = some u → lendG F M1 H b = some u := fun b u e => by
    refine lendG_at (k.fg b u e) (fun hm => ?_) (k.g b u e)
    obtain ⟨⟨a, o⟩, h1, h2⟩ := List.mem_map.mp hm
    cases h2
    rw [(k.m _ _ (sub _ h1)).2.1] at e
    cases e
  refine ⟨k'.f, fun b u e => k'.g b u (gl b u e), fun b u e => k'.fg b u (gl b u e), fun a o hm => ?_, nd⟩
  rcases hM a o hm with h | ⟨h1, h2⟩
  · obtain ⟨h3, h4, h5⟩ := k'.m a o h
    refine ⟨h3, ?_, h5⟩
    have : a ∈ M1.map Prod.fst := by rw [← e1]; exact List.mem_map.mpr ⟨_, h, rfl⟩
    obtain ⟨⟨a', o'⟩, h6, h7⟩ := List.mem_map.mp this
    cases h7
    exact (k.m _ _ (sub _ h6)).2.1
  · obtain ⟨h3, h4, h5⟩ := k.m a o h1
    obtain ⟨x, hx⟩ := h5.there
    have hl := lendG_at h3 h2 hx
    exact ⟨k'.fg _ _ hl, h4, h5.mono s ((k'.g _ _ hl).trans hx.symm)⟩
theorem Ok.sub (k : Ok K w G F M H) (sub : ∀ p ∈ M1, p ∈ M) (nd : (M1.map Prod.fst).Nodup) : Ok K w G F M1 H := ⟨k.f, k.g, k.fg, fun a o hm => k.m a o (sub _ hm), nd⟩
theorem ArgsOk.row : ∀ {vs : List V} {as : List Sl} {i : Nat} {sl : Sl}, ArgsOk K w F vs as → as[i]? = some sl → SlOk K w F (vs.map some)[i]? sl
  | _, _, _, _, .nil, h => by simp at h
  | _, _, 0, _, .dat r _, h => by
    simp only [List.getElem?_cons_zero, Option.some.injEq] at h
    subst h
    exact ⟨_, rfl, r⟩
  | _, _, 0, _, .ptr _, h => by
    simp only [List.getElem?_cons_zero, Option.some.injEq] at h
    subst h
    rfl
  | _, _, i + 1, _, .dat _ t, h => t.row (i := i) (by simpa using h)
  | _, _, i + 1, _, .ptr t, h => t.row (i := i) (by simpa using h)
theorem start_slots {N : List Str} {vs : List V} {as : List Sl} (h : ArgsOk K w F vs as) (hl : as.length ≤ N.length) : Slots K w F (L2.start N vs) (as ++ List.replicate (N.length - as.length) .any) := by
  have e := h.length
  refine ⟨by simp [L2.start, e], fun i sl k => ?_⟩
  unfold L2.start
  by_cases hi : i < as.length
  · rw [List.getElem?_append_left hi] at k
    rw [List.getElem?_append_left (by rw [List.length_map, e]; exact hi)]
    exact h.row k
  · rw [List.getElem?_append_right (by omega)] at k
    have := List.mem_of_getElem? k
    rw [(List.mem_replicate.mp this).2]
    exact True.intro
end
/-! ### what a def promises -/
abbrev Prm := List Sl → Mem → (D → Prop) → Mem → Prop
def spD (K : PySem.W.Frag) (w : World) (Pr : Prm) : Sp := fun vs H Q _ => ∃ as M R M' G F, Pr as M R M' ∧ Ok K w G F M H ∧ ArgsOk K w F vs as ∧ ∀ v d F' H', R d → Same F F' → Ok K w G F' M' H' → Rep K w F' v d → Q v H'
/-- a pure def -/
def PrP (A : List D → (D → Prop) → Prop) : Prm := fun as M R M' => M = [] ∧ M' = [] ∧ ∃ ds, as = ds.map Sl.dat ∧ A ds R
/-- a def that takes the stream first -/
def PrS (A : List D → (D → Prop) → Prop) : Prm := fun as M R M' => ∃ z ds, M = [(z, .strm)] ∧ M' = [(z, .strm)] ∧ as = .ptr z :: ds.map Sl.dat ∧ A ds R
structure Dn (P : Program) (w : World) (K : PySem.W.Frag) (mg : Str → Option Value) (base : Heap) (x : Str) (k : Nat) (Pr : Prm) : Prop where
  ex : ∃ (f : Addr) (fd : FuncData) (ps : List Str), FnOk P w K mg base CX0 k f fd ps (spD K w Pr) ∧ Binds K fd ps [] ∧ PySem.W.keepIn K (.ref f) = true ∧ mg x = some (.ref f)
section
variable {X : Cx} {Γ : Gam} {M : Mem} {e : Expr} {es : List Expr} {R : D → Prop} {pos p : Pos} {x : Str} {P : Post} {k : Nat} {Pr : Prm} {RA : List Sl → Prop}
theorem de_callX (FO : Dn X.prog X.w X.K X.mg X.base x k Pr) (hr : Room k X.A) (ha : DA X Γ M (e :: es) RA) (h : ∀ as, RA as → ∃ M1 R1, Pr as M1 R1 M1 ∧ (∀ p ∈ M1, p ∈ M) ∧ (M1.map Prod.fst).Nodup ∧ ∀ d, R1 d → R d) (hg : Gl X x := by rfl)
    (hdb : (x == ("__debug__" : Str)) = false := by decide) (he : starEach (e :: es) X.env = (false, eval e X.env) :: starEach es X.env := by rfl) (hpl : (backTo pos (starEach es X.env)).any (·.1) = false := by rfl) : DE X Γ M (.Call (.Name x p) (e :: es) [] pos) R := by
  obtain ⟨f, fd, ps, F, hb, hk, hm⟩ := FO.ex
  refine de_of (pe_call (E := E0) F hr hg hm hk hb .nil (fun _ _ _ _ _ _ _ z => z.elim) pa_max hdb he hpl) fun G F H σ Q ok sl q => ha G F H σ _ ok sl fun vs as F1 H1 r s k1 av => ?_
  obtain ⟨M1, R1, hp, sub, nd, hR⟩ := h as r
  rw [List.append_nil]
  refine ⟨as, M1, R1, M1, lendG F1 M1 H1, F1, hp, k1.lend sub nd, av, fun v d F' H' rd s' k' rp => q v d F' H' (hR d rd) (s.trans s') ?_ rp⟩
  refine k1.back sub k' s' rfl (fun a o hm => ?_) k1.nd
  by_cases hc : a ∈ M1.map Prod.fst
  · left
    obtain ⟨⟨a', o'⟩, h1, h2⟩ := List.mem_map.mp hc
    cases h2
    obtain ⟨i, hi⟩ := List.mem_iff_getElem?.mp hm
    obtain ⟨j, hj⟩ := List.mem_iff_getElem?.mp (sub _ h1)
    have := k1.one hi hj
    subst this
    rw [hi] at hj
    cases hj
    exact h1
  · exact .inr ⟨hm, hc⟩
/-- a pure def is called -/
theorem de_call {A : List D → (D → Prop) → Prop} (FO : Dn X.prog X.w X.K X.mg X.base x k (PrP A)) (hr : Room k X.A) (ha : DA X Γ M (e :: es) RA) (h : ∀ as, RA as → ∃ ds R1, as = ds.map Sl.dat ∧ A ds R1 ∧ ∀ d, R1 d → R d) (hg : Gl X x := by rfl)
    (hdb : (x == ("__debug__" : Str)) = false := by decide) (he : starEach (e :: es) X.env = (false, eval e X.env) :: starEach es X.env := by rfl) (hpl : (backTo pos (starEach es X.env)).any (·.1) = false := by rfl) : DE X Γ M (.Call (.Name x p) (e :: es) [] pos) R :=
  de_callX FO hr ha (fun as r => by
    obtain ⟨ds, R1, h1, h2, h3⟩ := h as r
    exact ⟨[], R1, ⟨rfl, rfl, ds, h1, h2⟩, by simp, List.nodup_nil, h3⟩) hg hdb he hpl
/-- .. with fixed data -/
theorem de_callF {A : List D → (D → Prop) → Prop} (ds : List D) (FO : Dn X.prog X.w X.K X.mg X.base x k (PrP A)) (hr : Room k X.A) (ha : DA X Γ M (e :: es) (IsA (ds.map Sl.dat))) (h : A ds R) (hg : Gl X x := by rfl)
    (hdb : (x == ("__debug__" : Str)) = false := by decide) (he : starEach (e :: es) X.env = (false, eval e X.env) :: starEach es X.env := by rfl) (hpl : (backTo pos (starEach es X.env)).any (·.1) = false := by rfl) : DE X Γ M (.Call (.Name x p) (e :: es) [] pos) R :=
  de_call FO hr ha (fun as r => ⟨ds, R, r, h, fun _ z => z⟩) hg hdb he hpl
/-- a def that draws from the stream -/
theorem de_callS {A : List D → (D → Prop) → Prop} {z : Addr} (FO : Dn X.prog X.w X.K X.mg X.base x k (PrS A)) (hr : Room k X.A) (hz : (z, MO.strm) ∈ M) (ha : DA X Γ M (e :: es) RA) (h : ∀ as, RA as → ∃ ds R1, as = .ptr z :: ds.map Sl.dat ∧ A ds R1 ∧ ∀ d, R1 d → R d) (hg : Gl X x := by rfl)
    (hdb : (x == ("__debug__" : Str)) = false := by decide) (he : starEach (e :: es) X.env = (false, eval e X.env) :: starEach es X.env := by rfl) (hpl : (backTo pos (starEach es X.env)).any (·.1) = false := by rfl) : DE X Γ M (.Call (.Name x p) (e :: es) [] pos) R :=
  de_callX FO hr ha (fun as r => by
    obtain ⟨ds, R1, h1, h2, h3⟩ := h as r
    exact ⟨[(z, .strm)], R1, ⟨z, ds, rfl, rfl, h1, h2⟩, fun p hp => by rw [List.mem_singleton.mp hp]; exact hz, by simp, h3⟩) hg hdb he hpl
/-- a call as a statement that writes one object -/
theorem ds_callM (j : Nat) {q : Addr} {o o' : MO} {cpos : Pos} {R1 : D → Prop} {as : List Sl} (FO : Dn X.prog X.w X.K X.mg X.base x k Pr) (hr : Room k X.A) (ha : DA X Γ M (e :: es) (IsA as)) (hp : Pr as [(q, o)] R1 [(q, o')]) (hn : P.nx Γ (M.set j (q, o'))) (hm : M[j]? = some (q, o) := by rfl) (hg : Gl X x := by rfl)
    (hdb : (x == ("__debug__" : Str)) = false := by decide) (he : starEach (e :: es) X.env = (false, eval e X.env) :: starEach es X.env := by rfl) (hpl : (backTo cpos (starEach es X.env)).any (·.1) = false := by rfl) (hs : swapsWith (.Call (.Name x p) (e :: es) [] cpos) none pos.line X.env = pure false := by rfl) : DS X Γ M (.Expr (.Call (.Name x p) (e :: es) [] cpos) pos) P := fun G F H σ D ok sl W => by
  obtain ⟨f, fd, ps, FF, hb, hk, hmg⟩ := FO.ex
  refine sMax_of (ps_expr (pe_call (E := E0) FF hr hg hmg hk hb .nil (fun _ _ _ _ _ _ _ z => z.elim) pa_max hdb he hpl) hs) (ha G F H σ _ ok sl fun vs as' F1 H1 r s k1 av => ?_)
  cases (show as' = as from r)
  rw [List.append_nil]
  have sub : ∀ p ∈ [(q, o)], p ∈ M := fun p hp => by rw [List.mem_singleton.mp hp]; exact List.mem_of_getElem? hm
  refine ⟨as, [(q, o)], R1, [(q, o')], lendG F1 [(q, o)] H1, F1, hp, k1.lend sub (by simp), av, fun v d F' H' rd s' k' rp => W.nx _ _ F' H' _ hn (s.trans s') ?_ (sl.mono (s.trans s'))⟩
  have hj := (List.getElem?_eq_some_iff.mp hm).1
  refine k1.back sub k' s' rfl (fun a u hmem => ?_) ?_
  · obtain ⟨i, hi⟩ := List.mem_iff_getElem?.mp hmem
    by_cases e1 : j = i
    · subst e1
      rw [List.getElem?_set_self hj] at hi
      cases hi
      exact .inl List.mem_cons_self
    · rw [List.getElem?_set_ne e1] at hi
      refine .inr ⟨List.mem_of_getElem? hi, fun hc => e1 ?_⟩
      have : a = q := by simpa using hc
      subst this
      exact k1.one hm hi
  · rw [List.map_set, show (q, o').1 = (M.map Prod.fst)[j]'(by simpa using hj) by rw [List.getElem_map]; exact (congrArg Prod.fst (List.getElem?_eq_some_iff.mp hm).2).symm, List.set_getElem_self]
    exact k1.nd
end
section
variable {P : Program} {w : World} {K : PySem.W.Frag} {mg : Str → Option Value} {base : Heap} {Pr : Prm}
/-- the context of a def's body -/
abbrev FX (P : Program) (w : World) (K : PySem.W.Frag) (mg : Str → Option Value) (base : Heap) (N : List Str) (qual : Str) (sc : Scope) (f : Addr) (cdv : Value) (A : Around) (outer : List Env) (s : Shared) (H : Hp) (E : XK) : Cx := (cxOf CX0 P w K mg base N qual sc f cdv A outer s H E).nox
abbrev FP (R : D → Prop) (M' : Mem) : Post := { nx := fun _ M2 => R .none ∧ ∀ p ∈ M', p ∈ M2, rt := fun d M2 => R d ∧ ∀ p ∈ M', p ∈ M2 }
theorem fn_D {x qual : Str} {st : Stmt} {f : Addr} {fd : FuncData} {N ps : List Str} {k : Nat} (F : Fun K x qual st f fd) (S : FnScope N ps (defScope st)) (hmg : mg x = some (.ref f)) (hb : Binds K fd ps []) (hN : ps.length ≤ N.length) (len : ∀ as M R M', Pr as M R M' → as.length = ps.length ∧ (M'.map Prod.fst).Nodup)
    (hbody : ∀ (cdv : Value) (A : Around) (outer : List Env) (s : Shared) (H : Hp) (E : XK) (as : List Sl) (M : Mem) (R : D → Prop) (M' : Mem), Room k (A.deeper (envOfC qual (defScope st) s.heap.objs.size f cdv)) → Pr as M R M' →
      DB (FX P w K mg base N qual (defScope st) f cdv A outer s H E) (as ++ List.replicate (N.length - as.length) .any) M (defBody st) (FP R M')) : Dn P w K mg base x (k + 1) Pr := by
  refine ⟨f, fd, ps, ?_, hb, F.kp, hmg⟩
  refine F.ok S (fun vs H Q E h => ?_) (fun cdv A outer s H vs Q E hr h => ⟨_, pb_max, ?_⟩)
  · obtain ⟨as, M, R, M', G, F1, hp, ok, av, q⟩ := h
    rw [av.length]
    exact (len _ _ _ _ hp).1
  · obtain ⟨as, M, R, M', G, F1, hp, ok, av, q⟩ := h
    obtain ⟨l1, l2⟩ := len _ _ _ _ hp
    refine hbody cdv A outer s H E as M R M' hr hp G F1 H (L2.start N vs) _ ok (start_slots av (by rw [l1]; exact hN)) ⟨?_, ?_, fun _ _ _ _ _ z => z.elim, fun _ _ _ _ _ z => z.elim⟩
    · exact fun Γ' M2 F' H' σ' z e k l => q .non .none F' H' z.1 e (k.sub z.2 l2) .non
    · exact fun d M2 F' H' v z e k r => q v d F' H' z.1 e (k.sub z.2 l2) r
end
end K59
namespace K59
/-! ### what the program computes, in plain Lean -/
abbrev St := Option (Nat × Nat)
abbrev ABC : List Nat := [97, 98, 99]
def word (C : List (List Nat)) (n : Nat) : List Nat := C.getD n []
def behind (C : List (List Nat)) (n r : Nat) : St := if r = (word C n).length then none else some (n, r)
def inner (p : List Nat × Nat) : List St := (List.range' 1 (p.1.length - 1)).map fun r => some (p.2, r)
def states (C : List (List Nat)) : List St := none :: C.zipIdx.flatMap inner
def opens (C : List (List Nat)) (c : Nat) (p : List Nat × Nat) : List St := if p.1[0]? = some c then [behind C p.2 1] else []
def firsts (C : List (List Nat)) (c : Nat) : List St := C.zipIdx.flatMap (opens C c)
def nexts (C : List (List Nat)) : St → Nat → List St
  | some (n, r), c => if (word C n)[r]? = some c then [behind C n (r + 1)] else []
  | none, c => (if none ∈ firsts C c then [none] else []) ++ (firsts C c).filter Option.isSome
abbrev Move := Nat × Nat × Nat × St
def movesBy (C : List (List Nat)) (z : List Nat) (at_ : Nat) (c : Nat) (l : St) : List Move :=
  (1, 1, at_, l) :: if at_ < z.length then [(if z[at_]? = some c then 0 else 1, 1, at_ + 1, l)] else []
def movesOf (C : List (List Nat)) (z : List Nat) (at_ : Nat) (s : St) (c : Nat) : List Move := (nexts C s c).flatMap (movesBy C z at_ c)
def moves (C : List (List Nat)) (z : List Nat) (at_ : Nat) (s : St) : List Move :=
  (if at_ < z.length then [(1, 0, at_ + 1, s)] else []) ++ ABC.flatMap (movesOf C z at_ s)
/-! ### rows -/
abbrev Row := St → Nat × Nat
def fset (f : Row) (s : St) (v : Nat × Nat) : Row := fun t => if t = s then v else f t
def pmin (a b : Nat × Nat) : Nat × Nat := if b.1 < a.1 ∨ (b.1 = a.1 ∧ b.2 < a.2) then b else a
def relax (f : Row) (s l : St) : Row := fset f s (pmin (f s) ((f l).1 + 1, (f l).2 + 1))
def relaxC (C : List (List Nat)) (s : St) (f : Row) (c : Nat) : Row := (nexts C s c).foldl (fun g l => relax g s l) f
def relaxS (C : List (List Nat)) (f : Row) (s : St) : Row := ABC.foldl (relaxC C s) f
def turnR (C : List (List Nat)) (f : Row) : Row := (states C).foldl (relaxS C) f
def iter {α : Type} (g : α → α) : Nat → α → α
  | 0, x => x
  | n + 1, x => iter g n (g x)
def settle (C : List (List Nat)) (f : Row) : Row := iter (turnR C) (states C).length f
def stepM (at_ : Nat) (nx : Row) (s : St) (f : Row) (m : Move) : Row := if at_ < m.2.2.1 then fset f s (pmin (f s) ((nx m.2.2.2).1 + m.1, (nx m.2.2.2).2 + m.2.1)) else f
def stepS (C : List (List Nat)) (z : List Nat) (at_ : Nat) (nx : Row) (f : Row) (s : St) : Row := (moves C z at_ s).foldl (stepM at_ nx s) f
def base0 (z : List Nat) : Row := fun _ => (z.length + 100, 0)
def baseL (z : List Nat) : Row := fset (base0 z) none (0, 0)
/-- the row k places ahead of the end -/
def rows (C : List (List Nat)) (z : List Nat) : Nat → Row
  | 0 => settle C (baseL z)
  | k + 1 => settle C ((states C).foldl (stepS C z (z.length - (k + 1)) (rows C z k)) (base0 z))
def rowsDown (C : List (List Nat)) (z : List Nat) : Nat → List Row
  | 0 => []
  | k + 1 => rows C z k :: rowsDown C z k
/-! ### small facts -/
theorem zip_snoc (C : List (List Nat)) (k : Nat) (u : List Nat) (h : C[k]? = some u) : (C.take (k + 1)).zipIdx = (C.take k).zipIdx ++ [(u, k)] := by
  have hk := (List.getElem?_eq_some_iff.mp h).1
  rw [List.take_add_one, h, List.zipIdx_append]
  simp only [Option.toList, List.length_take, List.zipIdx_cons, List.zipIdx_nil]
  rw [Nat.min_eq_left (by omega), Nat.zero_add]
theorem word_at {C : List (List Nat)} {n : Nat} {u : List Nat} (h : C[n]? = some u) : word C n = u := by
  unfold word
  rw [List.getD_eq_getElem?_getD, h]
  rfl
theorem mem_inner {p : List Nat × Nat} {s : St} : s ∈ inner p ↔ ∃ r, s = some (p.2, r) ∧ 1 ≤ r ∧ r < p.1.length := by
  unfold inner
  constructor
  · intro h
    obtain ⟨r, h1, h2⟩ := List.mem_map.mp h
    rw [List.mem_range'_1] at h1
    exact ⟨r, h2.symm, h1.1, by omega⟩
  · rintro ⟨r, rfl, h1, h2⟩
    exact List.mem_map.mpr ⟨r, by rw [List.mem_range'_1]; omega, rfl⟩
theorem mem_states {C : List (List Nat)} {s : St} : s ∈ states C ↔ s = none ∨ ∃ n r u, s = some (n, r) ∧ C[n]? = some u ∧ 1 ≤ r ∧ r < u.length := by
  unfold states
  rw [List.mem_cons, List.mem_flatMap]
  constructor
  · rintro (h | ⟨⟨u, n⟩, h1, h2⟩)
    · exact .inl h
    · obtain ⟨r, h3, h4, h5⟩ := mem_inner.mp h2
      rw [List.mem_zipIdx_iff_getElem?] at h1
      exact .inr ⟨n, r, u, h3, h1, h4, h5⟩
  · rintro (h | ⟨n, r, u, h1, h2, h3, h4⟩)
    · exact .inl h
    · exact .inr ⟨(u, n), by rw [List.mem_zipIdx_iff_getElem?]; exact h2, mem_inner.mpr ⟨r, h1, h3, h4⟩⟩
theorem mem_firsts {C : List (List Nat)} {c : Nat} {s : St} : s ∈ firsts C c ↔ ∃ n u, C[n]? = some u ∧ u[0]? = some c ∧ s = behind C n 1 := by
  unfold firsts opens
  rw [List.mem_flatMap]
  constructor
  · rintro ⟨⟨u, n⟩, h1, h2⟩
    rw [List.mem_zipIdx_iff_getElem?] at h1
    split at h2
    · rename_i h
      exact ⟨n, u, h1, h, List.mem_singleton.mp h2⟩
    · simp at h2
  · rintro ⟨n, u, h1, h2, h3⟩
    refine ⟨(u, n), by rw [List.mem_zipIdx_iff_getElem?]; exact h1, ?_⟩
    rw [if_pos h2]
    exact List.mem_singleton.mpr h3
theorem nexts_some (C : List (List Nat)) (n r c : Nat) : nexts C (some (n, r)) c = if (word C n)[r]? = some c then [behind C n (r + 1)] else [] := rfl
theorem nexts_none (C : List (List Nat)) (c : Nat) : nexts C none c = (if none ∈ firsts C c then [none] else []) ++ (firsts C c).filter Option.isSome := rfl
theorem mem_nexts {C : List (List Nat)} {s t : St} {c : Nat} : t ∈ nexts C s c ↔ (s = none ∧ ∃ n u, C[n]? = some u ∧ u[0]? = some c ∧ t = behind C n 1) ∨ (∃ n r, s = some (n, r) ∧ (word C n)[r]? = some c ∧ t = behind C n (r + 1)) := by
  cases s with
  | none =>
    rw [nexts_none, List.mem_append, List.mem_filter]
    constructor
    · rintro (h | h)
      · split at h
        · rename_i hn
          rw [List.mem_singleton] at h
          subst h
          exact .inl ⟨rfl, mem_firsts.mp hn⟩
        · simp at h
      · exact .inl ⟨rfl, mem_firsts.mp h.1⟩
    · rintro (⟨_, h⟩ | ⟨n, r, h, _⟩)
      · cases t with
        | none =>
          left
          rw [if_pos (mem_firsts.mpr h)]
          exact List.mem_singleton.mpr rfl
        | some v => exact .inr ⟨mem_firsts.mpr h, rfl⟩
      · cases h
  | some p =>
    obtain ⟨n, r⟩ := p
    rw [nexts_some]
    constructor
    · intro h
      split at h
      · rename_i hc
        exact .inr ⟨n, r, rfl, hc, List.mem_singleton.mp h⟩
      · simp at h
    · rintro (⟨h, _⟩ | ⟨n', r', h, h1, h2⟩)
      · cases h
      · cases h
        rw [if_pos h1]
        exact List.mem_singleton.mpr h2
/-- behind a letter that was read within a word -/
theorem behind_in {C : List (List Nat)} {n r : Nat} {u : List Nat} (h : C[n]? = some u) (h1 : 1 ≤ r) (h2 : r ≤ u.length) : behind C n r ∈ states C := by
  unfold behind
  rw [word_at h]
  split
  · exact mem_states.mpr (.inl rfl)
  · exact mem_states.mpr (.inr ⟨n, r, u, rfl, h, h1, by omega⟩)
theorem nexts_in {C : List (List Nat)} {s t : St} {c : Nat} (hs : s ∈ states C) (ht : t ∈ nexts C s c) : t ∈ states C := by
  rcases mem_nexts.mp ht with ⟨_, n, u, h1, h2, rfl⟩ | ⟨n, r, rfl, h1, rfl⟩
  · exact behind_in h1 (Nat.le_refl _) (List.getElem?_eq_some_iff.mp h2).1
  · rcases mem_states.mp hs with h | ⟨n', r', u, h, h3, h4, h5⟩
    · cases h
    · cases h
      exact behind_in h3 (by omega) h5
theorem firsts_len {C : List (List Nat)} {c : Nat} : (firsts C c).length ≤ C.length := by
  unfold firsts
  have : ∀ l : List (List Nat × Nat), (l.flatMap (opens C c)).length ≤ l.length := by
    intro l
    induction l with
    | nil => exact Nat.le_refl _
    | cons p l ih =>
      rw [List.flatMap_cons, List.length_append, List.length_cons]
      have : (opens C c p).length ≤ 1 := by
        unfold opens
        split
        · exact Nat.le_refl _
        · exact Nat.zero_le _
      omega
  have h := this C.zipIdx
  rw [List.length_zipIdx] at h
  exact h
theorem nexts_len {C : List (List Nat)} {c : Nat} (s : St) : (nexts C s c).length ≤ C.length + 1 := by
  cases s with
  | none =>
    rw [nexts_none, List.length_append]
    have h1 := firsts_len (C := C) (c := c)
    have h2 := List.length_filter_le Option.isSome (firsts C c)
    split
    · rw [List.length_singleton]; omega
    · rw [List.length_nil]; omega
  | some p =>
    obtain ⟨n, r⟩ := p
    rw [nexts_some]
    split
    · rw [List.length_singleton]; omega
    · rw [List.length_nil]; omega
theorem mem_movesBy {C : List (List Nat)} {z : List Nat} {n c : Nat} {l : St} {m : Move} : m ∈ movesBy C z n c l ↔ m = (1, 1, n, l) ∨ (n < z.length ∧ m = (if z[n]? = some c then 0 else 1, 1, n + 1, l)) := by
  unfold movesBy
  rw [List.mem_cons]
  by_cases h : n < z.length
  · rw [if_pos h, List.mem_singleton]
    exact ⟨fun q => q.imp id fun e => ⟨h, e⟩, fun q => q.imp id fun e => e.2⟩
  · rw [if_neg h]
    exact ⟨fun q => q.elim .inl fun e => by simp at e, fun q => q.elim .inl fun e => absurd e.1 h⟩
theorem mem_moves {C : List (List Nat)} {z : List Nat} {n : Nat} {s : St} {m : Move} : m ∈ moves C z n s ↔ (n < z.length ∧ m = (1, 0, n + 1, s)) ∨ ∃ c ∈ ABC, ∃ l ∈ nexts C s c, m = (1, 1, n, l) ∨ (n < z.length ∧ m = (if z[n]? = some c then 0 else 1, 1, n + 1, l)) := by
  unfold moves
  rw [List.mem_append, List.mem_flatMap]
  refine or_congr ?_ ?_
  · by_cases h : n < z.length
    · rw [if_pos h, List.mem_singleton]
      exact ⟨fun e => ⟨h, e⟩, fun e => e.2⟩
    · rw [if_neg h]
      exact ⟨fun e => by simp at e, fun e => absurd e.1 h⟩
  · constructor
    · rintro ⟨c, hc, h⟩
      obtain ⟨l, h1, h2⟩ := List.mem_flatMap.mp h
      exact ⟨c, hc, l, h1, mem_movesBy.mp h2⟩
    · rintro ⟨c, hc, l, h1, h2⟩
      exact ⟨c, hc, List.mem_flatMap.mpr ⟨l, h1, mem_movesBy.mpr h2⟩⟩
theorem moves_ok {C : List (List Nat)} {z : List Nat} {n : Nat} {s : St} {m : Move} (h : m ∈ moves C z n s) (hs : s ∈ states C) : m.2.2.2 ∈ states C ∧ (n < m.2.2.1 → n < z.length) := by
  rcases mem_moves.mp h with ⟨h1, rfl⟩ | ⟨c, hc, l, h1, rfl | ⟨h2, rfl⟩⟩
  · exact ⟨hs, fun _ => h1⟩
  · exact ⟨nexts_in hs h1, fun q => absurd q (Nat.lt_irrefl _)⟩
  · exact ⟨nexts_in hs h1, fun _ => h2⟩
end K59
namespace K59
section
variable {α : Type} [DecidableEq α]
def addN (l : List α) (x : α) : List α := if x ∈ l then l else l ++ [x]
theorem mem_addN {l : List α} {x y : α} : y ∈ addN l x ↔ y ∈ l ∨ y = x := by
  unfold addN
  by_cases h : x ∈ l
  · rw [if_pos h]
    exact ⟨.inl, fun q => q.elim id fun e => by rw [e]; exact h⟩
  · rw [if_neg h, List.mem_append, List.mem_singleton]
theorem nd_addN {l : List α} {x : α} (h : l.Nodup) : (addN l x).Nodup := by
  unfold addN
  by_cases hx : x ∈ l
  · rw [if_pos hx]; exact h
  · rw [if_neg hx]
    refine List.nodup_append.mpr ⟨h, by simp, fun a ha b hb e => hx ?_⟩
    rw [List.mem_singleton] at hb
    rw [← hb, ← e]
    exact ha
theorem len_addN {l : List α} {x : α} : (addN l x).length ≤ l.length + 1 := by
  unfold addN
  split
  · omega
  · rw [List.length_append]; simp
def dedup (l : List α) : List α := l.foldl addN []
theorem mem_foldN : ∀ (l acc : List α) {y : α}, y ∈ l.foldl addN acc ↔ y ∈ acc ∨ y ∈ l
  | [], acc, y => by simp
  | x :: l, acc, y => by
    rw [List.foldl_cons, mem_foldN l, mem_addN, List.mem_cons, or_assoc]
theorem nd_foldN : ∀ (l acc : List α), acc.Nodup → (l.foldl addN acc).Nodup
  | [], _, h => h
  | x :: l, acc, h => nd_foldN l _ (nd_addN h)
theorem len_foldN : ∀ (l acc : List α), (l.foldl addN acc).length ≤ acc.length + l.length
  | [], acc => by simp
  | x :: l, acc => by
    have := len_foldN l (addN acc x)
    have h := len_addN (l := acc) (x := x)
    rw [List.foldl_cons, List.length_cons]
    omega
theorem mem_dedup {l : List α} {y : α} : y ∈ dedup l ↔ y ∈ l := by
  unfold dedup
  rw [mem_foldN]
  simp
/-- no more members than there is room for -/
theorem nd_len : ∀ {l m : List α}, l.Nodup → (∀ x ∈ l, x ∈ m) → l.length ≤ m.length
  | [], _, _, _ => Nat.zero_le _
  | x :: l, m, h, hs => by
    obtain ⟨h1, h2⟩ := List.nodup_cons.mp h
    have hx := hs x List.mem_cons_self
    have := nd_len (m := m.erase x) h2 fun y hy => (List.mem_erase_of_ne (fun e => h1 (by rw [← e]; exact hy))).mpr (hs y (List.mem_cons_of_mem _ hy))
    rw [List.length_erase_of_mem hx] at this
    have hp := List.length_pos_of_mem hx
    rw [List.length_cons]
    omega
end
/-! ### paths that cost the least -/
abbrev Node := Nat × St
inductive Star {α : Type} (r : α → α → Prop) : α → α → Prop
  | refl (x : α) : Star r x x
  | step {x y z : α} : Star r x y → r y z → Star r x z
def cst (C : List (List Nat)) (z : List Nat) (i : Nat) : Row := rows C z (z.length - i)
def delS (C : List (List Nat)) (z : List Nat) (x y : Node) : Prop := x.1 < z.length ∧ y = (x.1 + 1, x.2) ∧ cst C z x.1 x.2 = ((cst C z (x.1 + 1) x.2).1 + 1, (cst C z (x.1 + 1) x.2).2)
def letL (C : List (List Nat)) (z : List Nat) (c : Nat) (y : Node) (l : St) (x : Node) : Prop :=
  x.2 = l ∧ ((x.1 = y.1 ∧ cst C z y.1 y.2 = ((cst C z y.1 l).1 + 1, (cst C z y.1 l).2 + 1)) ∨ (y.1 < z.length ∧ x.1 = y.1 + 1 ∧ cst C z y.1 y.2 = ((cst C z (y.1 + 1) l).1 + (if z[y.1]? = some c then 0 else 1), (cst C z (y.1 + 1) l).2 + 1)))
def letS (C : List (List Nat)) (z : List Nat) (c : Nat) (y x : Node) : Prop := ∃ l ∈ nexts C y.2 c, letL C z c y l x
structure NodesOk (C : List (List Nat)) (z : List Nat) (ns : List Node) : Prop where
  nd : ns.Nodup
  pl : ∀ x ∈ ns, x.1 ≤ z.length
  st : ∀ x ∈ ns, x.2 ∈ states C
inductive Run (C : List (List Nat)) (z : List Nat) : List Nat → List Node → Prop
  | zero {ns : List Node} : (∀ x, x ∈ ns ↔ Star (delS C z) (0, none) x) → Run C z [] ns
  | next {p : List Nat} {ns ns' : List Node} {c : Nat} : Run C z p ns → c ∈ ABC → (∀ c' ∈ ABC, c' < c → ¬ ∃ y ∈ ns, ∃ x, letS C z c' y x) → (∃ y ∈ ns, ∃ x, letS C z c y x) → (∀ x, x ∈ ns' ↔ ∃ y ∈ ns, ∃ x1, letS C z c y x1 ∧ Star (delS C z) x1 x) → Run C z (p ++ [c]) ns'
def Stuck (C : List (List Nat)) (z : List Nat) (ns : List Node) : Prop := ∀ c ∈ ABC, ¬ ∃ y ∈ ns, ∃ x, letS C z c y x
/-- s reads u and then stands at t -/
inductive Rds (C : List (List Nat)) (s : St) : List Nat → St → Prop
  | nil : Rds C s [] s
  | snoc {u : List Nat} {t t' : St} {c : Nat} : Rds C s u t → t' ∈ nexts C t c → Rds C s (u ++ [c]) t'
def allN (C : List (List Nat)) (z : List Nat) : List Node := (List.range (z.length + 1)).flatMap fun p => (states C).map fun s => (p, s)
theorem mem_allN {C : List (List Nat)} {z : List Nat} {x : Node} : x ∈ allN C z ↔ x.1 ≤ z.length ∧ x.2 ∈ states C := by
  unfold allN
  rw [List.mem_flatMap]
  constructor
  · rintro ⟨p, h1, h2⟩
    obtain ⟨s, h3, rfl⟩ := List.mem_map.mp h2
    rw [List.mem_range] at h1
    exact ⟨by show p ≤ _; omega, h3⟩
  · rintro ⟨h1, h2⟩
    exact ⟨x.1, by rw [List.mem_range]; omega, List.mem_map.mpr ⟨x.2, h2, rfl⟩⟩
theorem allN_len (C : List (List Nat)) (z : List Nat) : (allN C z).length = (z.length + 1) * (states C).length := by
  unfold allN
  generalize z.length + 1 = n
  induction n with
  | zero => simp
  | succ n ih => rw [List.range_succ, List.flatMap_append, List.length_append, ih]; simp [Nat.succ_mul]
theorem NodesOk.len {C : List (List Nat)} {z : List Nat} {ns : List Node} (h : NodesOk C z ns) (h1 : z.length ≤ 3) (h2 : (states C).length ≤ 9) : ns.length ≤ 36 := by
  have := nd_len h.nd fun x hx => mem_allN.mpr ⟨h.pl x hx, h.st x hx⟩
  rw [allN_len] at this
  exact Nat.le_trans this (Nat.mul_le_mul (show z.length + 1 ≤ 4 by omega) h2)
theorem rowsDown_at (C : List (List Nat)) (z : List Nat) : ∀ (k i : Nat), i < k → (rowsDown C z k)[i]? = some (rows C z (k - 1 - i))
  | 0, i, h => by omega
  | k + 1, 0, h => by simp [rowsDown]
  | k + 1, i + 1, h => by
    rw [rowsDown, List.getElem?_cons_succ, rowsDown_at C z k i (by omega)]
    rw [show k - 1 - i = k + 1 - 1 - (i + 1) by omega]
theorem cst_at (C : List (List Nat)) (z : List Nat) {i : Nat} (h : i ≤ z.length) : (rowsDown C z (z.length + 1))[i]? = some (cst C z i) := by
  rw [rowsDown_at C z _ _ (by omega)]
  rfl
end K59
namespace K59
/-! ### the law's own distance and messages -/
def lvRow (x y : List Nat) (k : Nat) (prev : Nat → Nat) : Nat → Nat
  | 0 => k + 1
  | j + 1 => min (min (prev (j + 1) + 1) (lvRow x y k prev j + 1)) (prev j + if x[k]? = y[j]? then 0 else 1)
def lv (x y : List Nat) : Nat → Nat → Nat
  | 0 => fun j => j
  | k + 1 => lvRow x y k (lv x y k)
inductive Lang (C : List (List Nat)) : List Nat → Prop
  | nil : Lang C []
  | snoc {m w : List Nat} : Lang C m → w ∈ C → Lang C (m ++ w)
def allS : Nat → List (List Nat)
  | 0 => [[]]
  | n + 1 => [] :: [97, 98, 99].flatMap fun c => (allS n).map (c :: ·)
theorem mem_allS : ∀ {n : Nat} {m : List Nat}, m.length ≤ n → (∀ c ∈ m, c = 97 ∨ c = 98 ∨ c = 99) → m ∈ allS n
  | 0, [], _, _ => by simp [allS]
  | n + 1, [], _, _ => by simp [allS]
  | n + 1, c :: m, h1, h2 => by
    have h3 : m ∈ allS n := mem_allS (by simpa using h1) fun d hd => h2 d (List.mem_cons_of_mem _ hd)
    rw [allS, List.mem_cons, List.mem_flatMap]
    refine .inr ⟨c, ?_, List.mem_map.mpr ⟨m, h3, rfl⟩⟩
    have := h2 c List.mem_cons_self
    simp
    omega
theorem allS_len : ∀ n : Nat, (allS (n + 1)).length = 1 + 3 * (allS n).length := by
  intro n
  simp [allS]
  omega
theorem allS6 : (allS 6).length = 1093 := by
  rw [allS_len, allS_len, allS_len, allS_len, allS_len, allS_len]
  rfl
structure Grow (C : List (List Nat)) (t : Nat) (fs fs' ls : List (List Nat)) : Prop where
  nd : fs'.Nodup
  ln : ls.Nodup
  sub : ∀ l ∈ ls, l ∈ fs'
  old : ∀ m ∈ fs, m ∈ fs'
  lang : ∀ m ∈ fs', Lang C m ∧ m.length ≤ 6
  deep : ∀ l ∈ ls, t + 1 ≤ l.length
  new : ∀ m ∈ fs', m ∈ ls ∨ m ∈ fs
theorem Lang.abc {C : List (List Nat)} (h : ∀ w ∈ C, ∀ c ∈ w, c = 97 ∨ c = 98 ∨ c = 99) {m : List Nat} (l : Lang C m) : ∀ c ∈ m, c = 97 ∨ c = 98 ∨ c = 99 := by
  induction l with
  | nil => intro c hc; simp at hc
  | snoc _ hw ih => intro c hc; exact (List.mem_append.mp hc).elim (ih c) (h _ hw c)
theorem Grow.len {C : List (List Nat)} {t : Nat} {fs fs' ls : List (List Nat)} (g : Grow C t fs fs' ls) (h : ∀ w ∈ C, ∀ c ∈ w, c = 97 ∨ c = 98 ∨ c = 99) : fs'.length ≤ 1093 ∧ ls.length ≤ 1093 := by
  have h1 : fs'.length ≤ 1093 := by
    rw [← allS6]
    exact nd_len g.nd fun m hm => mem_allS (g.lang m hm).2 ((g.lang m hm).1.abc h)
  exact ⟨h1, Nat.le_trans (nd_len g.ln g.sub) h1⟩
end K59
namespace K59
/-! ### pairs, by the first and then the second -/
def le2 (a b : Nat × Nat) : Prop := a.1 < b.1 ∨ (a.1 = b.1 ∧ a.2 ≤ b.2)
theorem le2_refl (a : Nat × Nat) : le2 a a := .inr ⟨rfl, Nat.le_refl _⟩
theorem le2_trans {a b c : Nat × Nat} (h1 : le2 a b) (h2 : le2 b c) : le2 a c := by unfold le2 at *; omega
theorem le2_anti {a b : Nat × Nat} (h1 : le2 a b) (h2 : le2 b a) : a = b := by
  obtain ⟨a1, a2⟩ := a
  obtain ⟨b1, b2⟩ := b
  unfold le2 at *
  simp only at h1 h2
  rw [show a1 = b1 by omega, show a2 = b2 by omega]
theorem pmin_left (a b : Nat × Nat) : le2 (pmin a b) a := by unfold pmin; split <;> unfold le2 <;> omega
theorem pmin_right (a b : Nat × Nat) : le2 (pmin a b) b := by unfold pmin; split <;> unfold le2 <;> omega
theorem pmin_or (a b : Nat × Nat) : pmin a b = a ∨ (pmin a b = b ∧ ¬ le2 a b) := by
  unfold pmin
  split
  · right; exact ⟨rfl, by unfold le2; omega⟩
  · exact .inl rfl
def addP (a : Nat × Nat) (j : Nat) : Nat × Nat := (a.1 + j, a.2 + j)
theorem le2_add {a b : Nat × Nat} {i j : Nat} (h : le2 a b) (hij : i ≤ j) : le2 (addP a i) (addP b j) := by unfold le2 addP at *; simp only; omega
/-! ### the letter graph -/
def Eg (C : List (List Nat)) (s l : St) : Prop := ∃ c ∈ ABC, l ∈ nexts C s c
theorem Eg.mem {C : List (List Nat)} {s l : St} (h : Eg C s l) (hs : s ∈ states C) : l ∈ states C := let ⟨_, _, h⟩ := h; nexts_in hs h
/-- a walk through the vertices vs -/
inductive Pv (C : List (List Nat)) : St → List St → St → Prop
  | nil (t : St) : Pv C t [t] t
  | cons {s s' t : St} {vs : List St} : Eg C s s' → Pv C s' vs t → Pv C s (s :: vs) t
theorem Pv.suffix {C : List (List Nat)} {s' s t : St} {vs : List St} (p : Pv C s' vs t) (h : s ∈ vs) : ∃ ws, Pv C s ws t ∧ ws.Sublist vs := by
  induction p with
  | nil t =>
    rw [List.mem_singleton] at h
    subst h
    exact ⟨_, .nil _, List.Sublist.refl _⟩
  | cons e p ih =>
    rcases List.mem_cons.mp h with rfl | h
    · exact ⟨_, .cons e p, List.Sublist.refl _⟩
    · obtain ⟨ws, h1, h2⟩ := ih h
      exact ⟨ws, h1, h2.cons _⟩
theorem Pv.mem {C : List (List Nat)} {s t : St} {vs : List St} (p : Pv C s vs t) (hs : s ∈ states C) : ∀ v ∈ vs, v ∈ states C := by
  induction p with
  | nil t => intro v hv; rw [List.mem_singleton.mp hv]; exact hs
  | cons e p ih =>
    intro v hv
    rcases List.mem_cons.mp hv with rfl | hv
    · exact hs
    · exact ih (e.mem hs) v hv
theorem Pv.short {C : List (List Nat)} {s t : St} {vs : List St} (p : Pv C s vs t) : ∃ ws, Pv C s ws t ∧ ws.Nodup ∧ ws.length ≤ vs.length := by
  induction p with
  | nil t => exact ⟨_, .nil _, by simp, Nat.le_refl _⟩
  | cons e p ih =>
    rename_i s s' t vs
    obtain ⟨ws, h1, h2, h3⟩ := ih
    by_cases hm : s ∈ ws
    · obtain ⟨us, h4, h5⟩ := h1.suffix hm
      exact ⟨us, h4, h2.sublist h5, Nat.le_trans h5.length_le (Nat.le_trans h3 (by simp))⟩
    · exact ⟨s :: ws, .cons e h1, List.nodup_cons.mpr ⟨hm, h2⟩, by simp; omega⟩
/-! ### one turn -/
section
variable {C : List (List Nat)}
theorem fset_same (f : Row) (s : St) (v : Nat × Nat) : fset f s v s = v := if_pos rfl
theorem fset_ne {f : Row} {s t : St} {v : Nat × Nat} (h : t ≠ s) : fset f s v t = f t := if_neg h
/-- what a row keeps of the row it came from: it only falls, by walks -/
structure Fell (C : List (List Nat)) (f g : Row) : Prop where
  le : ∀ s, le2 (g s) (f s)
  or : ∀ s, ∃ vs t j, Pv C s vs t ∧ vs.length = j + 1 ∧ g s = addP (f t) j
theorem addP0 (a : Nat × Nat) : addP a 0 = a := rfl
theorem addP_add (a : Nat × Nat) (i j : Nat) : addP (addP a i) j = addP a (i + j) := by unfold addP; simp [Nat.add_assoc]
theorem Pv.trans {s t u : St} {vs ws : List St} (p : Pv C s vs t) (q : Pv C t ws u) : ∃ xs, Pv C s xs u ∧ xs.length + 1 = vs.length + ws.length := by
  induction p with
  | nil t => exact ⟨ws, q, by simp; omega⟩
  | cons e p ih =>
    obtain ⟨xs, h1, h2⟩ := ih q
    exact ⟨_, .cons e h1, by simp; omega⟩
theorem Fell.refl (f : Row) : Fell C f f := ⟨fun s => le2_refl _, fun s => ⟨[s], s, 0, .nil s, rfl, (addP0 _).symm⟩⟩
theorem Fell.trans {f g h : Row} (a : Fell C f g) (b : Fell C g h) : Fell C f h := ⟨fun s => le2_trans (b.le s) (a.le s), fun s => by
  obtain ⟨vs, t, j, p1, p2, p3⟩ := b.or s
  obtain ⟨ws, u, i, q1, q2, q3⟩ := a.or t
  obtain ⟨xs, r1, r2⟩ := p1.trans q1
  exact ⟨xs, u, i + j, r1, by omega, by rw [p3, q3, addP_add]⟩⟩
theorem relax_fell {f : Row} {s l : St} (e : Eg C s l) : Fell C f (relax f s l) := by
  refine ⟨fun t => ?_, fun t => ?_⟩
  · unfold relax
    by_cases h : t = s
    · subst h; rw [fset_same]; exact pmin_left _ _
    · rw [fset_ne h]; exact le2_refl _
  · unfold relax
    by_cases h : t = s
    · subst h
      rw [fset_same]
      rcases pmin_or (f t) ((f l).1 + 1, (f l).2 + 1) with h | ⟨h, _⟩
      · exact ⟨[t], t, 0, .nil t, rfl, by rw [h]; rfl⟩
      · exact ⟨[t, l], l, 1, .cons e (.nil l), rfl, by rw [h]; rfl⟩
    · rw [fset_ne h]
      exact ⟨[t], t, 0, .nil t, rfl, rfl⟩
theorem relax_le (f : Row) (s l : St) : le2 (relax f s l s) (addP (f l) 1) := by
  unfold relax
  rw [fset_same]
  exact pmin_right _ _
theorem foldE_fell {s : St} : ∀ (ls : List St) (f : Row), (∀ l ∈ ls, Eg C s l) → Fell C f (ls.foldl (fun g l => relax g s l) f) ∧ ∀ l ∈ ls, ∃ g, Fell C f g ∧ le2 (ls.foldl (fun g l => relax g s l) f s) (addP (g l) 1)
  | [], f, _ => ⟨.refl f, by simp⟩
  | l :: ls, f, h => by
    have e := h l List.mem_cons_self
    obtain ⟨h1, h2⟩ := foldE_fell ls (relax f s l) fun l hl => h l (List.mem_cons_of_mem _ hl)
    refine ⟨(relax_fell e).trans h1, fun l' hl => ?_⟩
    rw [List.foldl_cons]
    rcases List.mem_cons.mp hl with rfl | hl
    · exact ⟨f, .refl f, le2_trans (h1.le s) (relax_le f s l')⟩
    · obtain ⟨g, h3, h4⟩ := h2 l' hl
      exact ⟨g, (relax_fell e).trans h3, h4⟩
theorem foldC_fell {s : St} : ∀ (cs : List Nat) (f : Row), (∀ c ∈ cs, c ∈ ABC) → Fell C f (cs.foldl (relaxC C s) f) ∧ ∀ c ∈ cs, ∀ l ∈ nexts C s c, le2 (cs.foldl (relaxC C s) f s) (addP (f l) 1)
  | [], f, _ => ⟨.refl f, by simp⟩
  | c :: cs, f, h => by
    obtain ⟨a1, a2⟩ := foldE_fell (C := C) (s := s) (nexts C s c) f fun l hl => ⟨c, h c List.mem_cons_self, hl⟩
    obtain ⟨h1, h2⟩ := foldC_fell cs (relaxC C s f c) fun c hc => h c (List.mem_cons_of_mem _ hc)
    have a1 : Fell C f (relaxC C s f c) := a1
    refine ⟨a1.trans h1, fun c' hc l hl => ?_⟩
    rw [List.foldl_cons]
    rcases List.mem_cons.mp hc with rfl | hc
    · obtain ⟨g, h3, h4⟩ := a2 l hl
      exact le2_trans (h1.le s) (le2_trans h4 (le2_add (h3.le l) (Nat.le_refl _)))
    · exact le2_trans (h2 c' hc l hl) (le2_add (a1.le l) (Nat.le_refl _))
theorem relaxS_fell (s : St) (f : Row) : Fell C f (relaxS C f s) ∧ ∀ l, Eg C s l → le2 (relaxS C f s s) (addP (f l) 1) := by
  obtain ⟨h1, h2⟩ := foldC_fell (C := C) (s := s) ABC f fun c hc => hc
  exact ⟨h1, fun l ⟨c, hc, hl⟩ => h2 c hc l hl⟩
theorem foldS_fell : ∀ (ss : List St) (f : Row), Fell C f (ss.foldl (relaxS C) f) ∧ ∀ s ∈ ss, ∀ l, Eg C s l → le2 (ss.foldl (relaxS C) f s) (addP (f l) 1)
  | [], f => ⟨.refl f, by simp⟩
  | s :: ss, f => by
    obtain ⟨a1, a2⟩ := relaxS_fell (C := C) s f
    obtain ⟨h1, h2⟩ := foldS_fell ss (relaxS C f s)
    refine ⟨a1.trans h1, fun s' hs l hl => ?_⟩
    rw [List.foldl_cons]
    rcases List.mem_cons.mp hs with rfl | hs
    · exact le2_trans (h1.le _) (a2 l hl)
    · exact le2_trans (h2 s' hs l hl) (le2_add (a1.le l) (Nat.le_refl _))
theorem iter_out {α : Type} (g : α → α) : ∀ (n : Nat) (x : α), iter g (n + 1) x = g (iter g n x)
  | 0, _ => rfl
  | n + 1, x => iter_out g n (g x)
theorem iter_fell : ∀ (n : Nat) (f : Row), Fell C f (iter (turnR C) n f) ∧ ∀ (vs : List St) (s t : St), Pv C s vs t → (∀ v ∈ vs, v ∈ states C) → vs.length ≤ n + 1 → le2 (iter (turnR C) n f s) (addP (f t) (vs.length - 1))
  | 0, f => ⟨.refl f, fun vs s t p _ hl => by
    cases p with
    | nil => exact le2_refl _
    | cons e p => cases p <;> simp at hl⟩
  | n + 1, f => by
    rw [iter_out]
    obtain ⟨h1, h2⟩ := iter_fell n f
    obtain ⟨a1, a2⟩ := foldS_fell (C := C) (states C) (iter (turnR C) n f)
    refine ⟨h1.trans a1, fun vs s t p hm hl => ?_⟩
    cases p with
    | nil => exact le2_trans (a1.le _) (h1.le _)
    | cons e p =>
      rename_i s' vs
      have q := h2 vs s' t p (fun v hv => hm v (List.mem_cons_of_mem _ hv)) (by simp at hl; omega)
      have hpos : 0 < vs.length := by cases p <;> simp
      have r := a2 s (hm s List.mem_cons_self) s' e
      have r2 := le2_add q (Nat.le_refl 1)
      rw [addP_add, show vs.length - 1 + 1 = (s :: vs).length - 1 by simp; omega] at r2
      exact le2_trans r r2
/-- behind the turns no letter makes a row fall -/
theorem settle_fell (f : Row) : Fell C f (settle C f) := (iter_fell _ f).1
theorem settle_shut (f : Row) {s l : St} (hs : s ∈ states C) (e : Eg C s l) : le2 (settle C f s) (addP (settle C f l) 1) := by
  obtain ⟨h1, h2⟩ := iter_fell (C := C) (states C).length f
  obtain ⟨vs, t, j, p, hj, ej⟩ := h1.or l
  have hvm := p.mem (e.mem hs)
  obtain ⟨ws, q1, q2, q3⟩ := (Pv.cons e p).short
  have hwm := q1.mem hs
  have hw := nd_len q2 hwm
  have := h2 ws s t q1 hwm (by omega)
  show le2 (iter (turnR C) (states C).length f s) (addP (iter (turnR C) (states C).length f l) 1)
  rw [ej, addP_add]
  refine le2_trans this (le2_add (le2_refl _) ?_)
  simp at q3
  omega
end
end K59
namespace K59
structure Cd (C : List (List Nat)) : Prop where
  pos : ∀ w ∈ C, 1 ≤ w.length
  short : ∀ w ∈ C, w.length ≤ 3
  abc : ∀ w ∈ C, ∀ c ∈ w, c ∈ ABC
/-- reading from the front -/
inductive Rdc (C : List (List Nat)) : St → List Nat → St → Prop
  | nil (s : St) : Rdc C s [] s
  | cons {s s' t : St} {c : Nat} {u : List Nat} : c ∈ ABC → s' ∈ nexts C s c → Rdc C s' u t → Rdc C s (c :: u) t
/-- from place i on, the text is turned to u at the cost k -/
inductive Bl (z : List Nat) : Nat → List Nat → Nat → Prop
  | nil : Bl z z.length [] 0
  | del {i k : Nat} {u : List Nat} : i < z.length → Bl z (i + 1) u k → Bl z i u (k + 1)
  | ins {i k c : Nat} {u : List Nat} : Bl z i u k → Bl z i (c :: u) (k + 1)
  | sub {i k c : Nat} {u : List Nat} : i < z.length → Bl z (i + 1) u k → Bl z i (c :: u) (k + if z[i]? = some c then 0 else 1)
theorem Bl.le {z : List Nat} {i k : Nat} {u : List Nat} (b : Bl z i u k) : i ≤ z.length := by
  induction b with
  | nil => exact Nat.le_refl _
  | del h _ _ => omega
  | ins _ ih => exact ih
  | sub h _ _ => omega
theorem bl_any {z : List Nat} : ∀ (n i : Nat) (u : List Nat), i + n = z.length → ∃ k, Bl z i u k ∧ k ≤ n + u.length
  | 0, i, [], h => ⟨0, by
    have e : i = z.length := by omega
    subst e
    exact .nil, by simp⟩
  | 0, i, c :: u, h => by
    obtain ⟨k, h1, h2⟩ := bl_any (z := z) 0 i u h
    exact ⟨k + 1, .ins h1, by simp at *; omega⟩
  | n + 1, i, u, h => by
    obtain ⟨k, h1, h2⟩ := bl_any (z := z) n (i + 1) u (by omega)
    exact ⟨k + 1, .del (show i < z.length by omega) h1, by omega⟩
section
variable {C : List (List Nat)} {z : List Nat}
theorem letter_abc (cd : Cd C) {s t : St} {c : Nat} (h : t ∈ nexts C s c) : c ∈ ABC := by
  rcases mem_nexts.mp h with ⟨_, n, u, h1, h2, _⟩ | ⟨n, r, _, h2, _⟩
  · exact cd.abc u (List.mem_of_getElem? h1) c (List.mem_of_getElem? h2)
  · unfold word at h2
    rw [List.getD_eq_getElem?_getD] at h2
    cases e : C[n]? with
    | none => rw [e] at h2; simp at h2
    | some u => rw [e] at h2; exact cd.abc u (List.mem_of_getElem? e) c (List.mem_of_getElem? h2)
/-- the rest of a word is read -/
theorem rest_read (cd : Cd C) {n : Nat} {u : List Nat} (h : C[n]? = some u) : ∀ (m r : Nat), r + m = u.length → Rdc C (behind C n r) (u.drop r) none
  | 0, r, e => by
    unfold behind
    rw [word_at h, if_pos (by omega), List.drop_eq_nil_of_le (by omega)]
    exact .nil _
  | m + 1, r, e => by
    have hr : r < u.length := by omega
    have hb : behind C n r = some (n, r) := by unfold behind; rw [word_at h, if_neg (by omega)]
    rw [hb, List.drop_eq_getElem_cons hr]
    refine .cons (cd.abc u (List.mem_of_getElem? h) _ (List.getElem_mem hr)) ?_ (rest_read cd h m (r + 1) (by omega))
    refine mem_nexts.mpr (.inr ⟨n, r, rfl, ?_, rfl⟩)
    rw [word_at h]
    exact List.getElem?_eq_getElem hr
theorem fin_ex (cd : Cd C) {q : St} (hq : q ∈ states C) : ∃ u, Rdc C q u none ∧ u.length ≤ 2 := by
  rcases mem_states.mp hq with rfl | ⟨n, r, u, rfl, h1, h2, h3⟩
  · exact ⟨[], .nil _, by simp⟩
  · have := rest_read cd h1 (u.length - r) r (by omega)
    unfold behind at this
    rw [word_at h1, if_neg (by omega)] at this
    have hs := cd.short u (List.mem_of_getElem? h1)
    exact ⟨_, this, by rw [List.length_drop]; omega⟩
/-! ### the moves ahead -/
def cand (nx : Row) (m : Move) : Nat × Nat := ((nx m.2.2.2).1 + m.1, (nx m.2.2.2).2 + m.2.1)
theorem stepM_facts {n : Nat} {nx : Row} {s : St} (Pd : St → Nat × Nat → Prop) : ∀ (ms : List Move) (f : Row), (∀ t, Pd t (f t)) → (∀ m ∈ ms, n < m.2.2.1 → Pd s (cand nx m)) →
    (∀ t, Pd t (ms.foldl (stepM n nx s) f t)) ∧ (∀ t, le2 (ms.foldl (stepM n nx s) f t) (f t)) ∧ ∀ m ∈ ms, n < m.2.2.1 → le2 (ms.foldl (stepM n nx s) f s) (cand nx m)
  | [], f, h, _ => ⟨h, fun t => le2_refl _, by simp⟩
  | m :: ms, f, h, hm => by
    have h0 : (∀ t, Pd t (stepM n nx s f m t)) ∧ (∀ t, le2 (stepM n nx s f m t) (f t)) ∧ (n < m.2.2.1 → le2 (stepM n nx s f m s) (cand nx m)) := by
      unfold stepM
      by_cases hc : n < m.2.2.1
      · rw [if_pos hc]
        refine ⟨fun t => ?_, fun t => ?_, fun _ => ?_⟩
        · by_cases e : t = s
          · subst e
            rw [fset_same]
            rcases pmin_or (f t) (cand nx m) with e | ⟨e, _⟩
            · show Pd t (pmin (f t) (cand nx m)); rw [e]; exact h t
            · show Pd t (pmin (f t) (cand nx m)); rw [e]; exact hm m List.mem_cons_self hc
          · rw [fset_ne e]; exact h t
        · by_cases e : t = s
          · subst e; rw [fset_same]; exact pmin_left _ _
          · rw [fset_ne e]; exact le2_refl _
        · rw [fset_same]; exact pmin_right _ _
      · rw [if_neg hc]
        exact ⟨h, fun t => le2_refl _, fun e => absurd e hc⟩
    obtain ⟨a1, a2, a3⟩ := stepM_facts Pd ms (stepM n nx s f m) h0.1 fun m hm' => hm m (List.mem_cons_of_mem _ hm')
    refine ⟨a1, fun t => le2_trans (a2 t) (h0.2.1 t), fun m' hm' hc => ?_⟩
    rcases List.mem_cons.mp hm' with rfl | hm'
    · exact le2_trans (a2 s) (h0.2.2 hc)
    · exact a3 m' hm' hc
theorem stepS_facts {n : Nat} {nx : Row} (Pd : St → Nat × Nat → Prop) : ∀ (ss : List St) (f : Row), (∀ t, Pd t (f t)) → (∀ s ∈ ss, ∀ m ∈ moves C z n s, n < m.2.2.1 → Pd s (cand nx m)) →
    (∀ t, Pd t (ss.foldl (stepS C z n nx) f t)) ∧ (∀ t, le2 (ss.foldl (stepS C z n nx) f t) (f t)) ∧ ∀ s ∈ ss, ∀ m ∈ moves C z n s, n < m.2.2.1 → le2 (ss.foldl (stepS C z n nx) f s) (cand nx m)
  | [], f, h, _ => ⟨h, fun t => le2_refl _, by simp⟩
  | s :: ss, f, h, hm => by
    obtain ⟨b1, b2, b3⟩ := stepM_facts (n := n) (nx := nx) (s := s) Pd (moves C z n s) f h (hm s List.mem_cons_self)
    obtain ⟨a1, a2, a3⟩ := stepS_facts Pd ss (stepS C z n nx f s) b1 fun s hs => hm s (List.mem_cons_of_mem _ hs)
    refine ⟨a1, fun t => le2_trans (a2 t) (b2 t), fun s' hs m' hm' hc => ?_⟩
    rcases List.mem_cons.mp hs with rfl | hs
    · exact le2_trans (a2 s') (b3 m' hm' hc)
    · exact a3 s' hs m' hm' hc
/-! ### complete -/
theorem rows_shut (n : Nat) {s l : St} (hs : s ∈ states C) (e : Eg C s l) : le2 (rows C z n s) (addP (rows C z n l) 1) := by
  cases n with
  | zero => exact settle_shut _ hs e
  | succ n => exact settle_shut _ hs e
theorem rows_base : le2 (rows C z 0 none) (0, 0) := by
  have := (settle_fell (C := C) (baseL z)).le none
  exact le2_trans this (by unfold baseL; rw [fset_same]; exact le2_refl _)
theorem rows_step (n : Nat) {s : St} (hs : s ∈ states C) {m : Move} (hm : m ∈ moves C z (z.length - (n + 1)) s) (hc : z.length - (n + 1) < m.2.2.1) : le2 (rows C z (n + 1) s) (cand (rows C z n) m) := by
  have h1 := (settle_fell (C := C) ((states C).foldl (stepS C z (z.length - (n + 1)) (rows C z n)) (base0 z))).le s
  have h2 := (stepS_facts (C := C) (z := z) (n := z.length - (n + 1)) (nx := rows C z n) (fun _ _ => True) (states C) (base0 z) (fun _ => True.intro) fun _ _ _ _ _ => True.intro).2.2 s hs m hm hc
  exact le2_trans h1 h2
theorem cst_shut (i : Nat) {s l : St} (hs : s ∈ states C) (e : Eg C s l) : le2 (cst C z i s) ((cst C z i l).1 + 1, (cst C z i l).2 + 1) := rows_shut _ hs e
theorem cst_del {i : Nat} (hi : i < z.length) {s : St} (hs : s ∈ states C) : le2 (cst C z i s) ((cst C z (i + 1) s).1 + 1, (cst C z (i + 1) s).2) := by
  have e : z.length - i = (z.length - (i + 1)) + 1 := by omega
  unfold cst
  rw [e]
  have hp : z.length - (z.length - (i + 1) + 1) = i := by omega
  exact rows_step (C := C) (z := z) (z.length - (i + 1)) hs (m := (1, 0, i + 1, s)) (mem_moves.mpr (.inl ⟨by omega, by rw [hp]⟩)) (by rw [hp]; exact Nat.lt_succ_self i)
theorem cst_sub {i c : Nat} (hi : i < z.length) {s l : St} (hs : s ∈ states C) (hc : c ∈ ABC) (hl : l ∈ nexts C s c) : le2 (cst C z i s) ((cst C z (i + 1) l).1 + (if z[i]? = some c then 0 else 1), (cst C z (i + 1) l).2 + 1) := by
  have e : z.length - i = (z.length - (i + 1)) + 1 := by omega
  unfold cst
  rw [e]
  have hp : z.length - (z.length - (i + 1) + 1) = i := by omega
  exact rows_step (C := C) (z := z) (z.length - (i + 1)) hs (m := (if z[i]? = some c then 0 else 1, 1, i + 1, l)) (mem_moves.mpr (.inr ⟨c, hc, l, hl, .inr ⟨by omega, by rw [hp]⟩⟩)) (by rw [hp]; exact Nat.lt_succ_self i)
theorem complete {i k : Nat} {u : List Nat} (b : Bl z i u k) : ∀ q ∈ states C, Rdc C q u none → le2 (cst C z i q) (k, u.length) := by
  induction b with
  | nil =>
    intro q hq r
    cases r
    unfold cst
    rw [Nat.sub_self]
    exact rows_base
  | del h b ih =>
    intro q hq r
    have h1 := cst_del (C := C) h hq
    have h2 := ih q hq r
    unfold le2 at *
    simp only at *
    omega
  | ins b ih =>
    intro q hq r
    cases r with
    | cons hc hl r =>
      rename_i i k c u s'
      have h1 := cst_shut (C := C) (z := z) i hq ⟨_, hc, hl⟩
      have h2 := ih _ (nexts_in hq hl) r
      rw [List.length_cons]
      refine le2_trans h1 ?_
      unfold le2 at *
      simp only at *
      omega
  | sub h b ih =>
    intro q hq r
    cases r with
    | cons hc hl r =>
      have h1 := cst_sub (C := C) h hq hc hl
      have h2 := ih _ (nexts_in hq hl) r
      rw [List.length_cons]
      refine le2_trans h1 ?_
      unfold le2 at *
      simp only at *
      omega
/-! ### sound -/
def Real (C : List (List Nat)) (z : List Nat) (i : Nat) (q : St) (v : Nat × Nat) : Prop := ∃ u k, Bl z i u k ∧ Rdc C q u none ∧ v = (k, u.length)
def sent (z : List Nat) : Nat × Nat := (z.length + 100, 0)
theorem real_walk {i : Nat} {s t : St} {vs : List St} {v : Nat × Nat} {j : Nat} (p : Pv C s vs t) : vs.length = j + 1 → Real C z i t v → Real C z i s (addP v j) := by
  induction p generalizing j with
  | nil t =>
    intro e h
    simp at e
    subst e
    exact h
  | cons e p ih =>
    rename_i s s' t vs
    intro el h
    have hpos : 0 < vs.length := by cases p <;> simp
    obtain ⟨j', rfl⟩ : ∃ j', j = j' + 1 := ⟨j - 1, by simp at el; omega⟩
    obtain ⟨u, k, h1, h2, h3⟩ := ih (j := j') (by simp at el; omega) h
    obtain ⟨c, hc, hl⟩ := e
    refine ⟨c :: u, k + 1, .ins h1, .cons hc hl h2, ?_⟩
    rw [← addP_add, h3]
    rfl
theorem settle_good {i : Nat} {f : Row} (h1 : ∀ q, f q = sent z ∨ Real C z i q (f q)) (h2 : ∀ q, le2 (f q) (sent z)) : ∀ q, (settle C f q = sent z ∨ Real C z i q (settle C f q)) ∧ le2 (settle C f q) (sent z) := by
  intro q
  have F := settle_fell (C := C) f
  have hle := le2_trans (F.le q) (h2 q)
  refine ⟨?_, hle⟩
  obtain ⟨vs, t, j, p, hj, e⟩ := F.or q
  rcases h1 t with h | h
  · left
    rw [e, h] at hle ⊢
    unfold le2 addP sent at *
    simp only at hle ⊢
    rw [show j = 0 by omega]
  · right
    rw [e]
    exact real_walk p hj h
theorem sound (cd : Cd C) (hz : z.length ≤ 3) : ∀ n, n ≤ z.length → ∀ q ∈ states C, Real C z (z.length - n) q (rows C z n q) := by
  have notSent : ∀ n, n ≤ z.length → ∀ q ∈ states C, rows C z n q ≠ sent z := by
    intro n hn q hq e
    obtain ⟨u, h1, h2⟩ := fin_ex cd hq
    obtain ⟨k, h3, h4⟩ := bl_any (z := z) n (z.length - n) u (by omega)
    have := complete h3 q hq h1
    unfold cst at this
    rw [show z.length - (z.length - n) = n by omega, e] at this
    unfold le2 sent at this
    simp only at this
    omega
  intro n
  induction n with
  | zero =>
    intro hn q hq
    have g := settle_good (C := C) (z := z) (i := z.length) (f := baseL z) (fun q => by
      unfold baseL
      by_cases e : q = none
      · subst e
        rw [fset_same]
        exact .inr ⟨[], 0, .nil, .nil _, rfl⟩
      · rw [fset_ne e]
        exact .inl rfl) (fun q => by
      unfold baseL
      by_cases e : q = none
      · subst e
        rw [fset_same]
        unfold le2 sent
        simp
      · rw [fset_ne e]
        exact le2_refl _)
    rcases (g q).1 with h | h
    · exact absurd h (notSent 0 hn q hq)
    · exact h
  | succ n ih =>
    intro hn q hq
    have ih := ih (by omega)
    have hp : z.length - (n + 1) < z.length := by omega
    have facts := stepS_facts (C := C) (z := z) (n := z.length - (n + 1)) (nx := rows C z n) (fun s v => v = sent z ∨ Real C z (z.length - (n + 1)) s v) (states C) (base0 z) (fun _ => .inl rfl) (by
      intro s hs m hm hc
      right
      obtain ⟨hml, _⟩ := moves_ok hm hs
      obtain ⟨u, k, h1, h2, h3⟩ := ih m.2.2.2 hml
      have e : z.length - n = z.length - (n + 1) + 1 := by omega
      rw [e] at h1
      unfold cand
      rw [h3]
      rcases mem_moves.mp hm with ⟨h4, rfl⟩ | ⟨c, hcc, l, h5, rfl | ⟨h4, rfl⟩⟩
      · exact ⟨u, k + 1, .del hp h1, h2, rfl⟩
      · exact absurd hc (Nat.lt_irrefl _)
      · exact ⟨c :: u, _, .sub hp h1, .cons hcc h5 h2, rfl⟩)
    have g := settle_good (C := C) (z := z) (i := z.length - (n + 1)) facts.1 (fun q => le2_trans (facts.2.1 q) (le2_refl _))
    rcases (g q).1 with h | h
    · exact absurd h (notSent (n + 1) hn q hq)
    · exact h
theorem cst_real (cd : Cd C) (hz : z.length ≤ 3) {i : Nat} (hi : i ≤ z.length) {q : St} (hq : q ∈ states C) : Real C z i q (cst C z i q) := by
  have := sound cd hz (z.length - i) (by omega) q hq
  rw [show z.length - (z.length - i) = i by omega] at this
  exact this
end
end K59
namespace K59
/-- the first i letters of the text turned to p at the cost k -/
inductive Al (z : List Nat) : Nat → List Nat → Nat → Prop
  | nil : Al z 0 [] 0
  | del {i k : Nat} {p : List Nat} : i < z.length → Al z i p k → Al z (i + 1) p (k + 1)
  | ins {i k c : Nat} {p : List Nat} : Al z i p k → Al z i (p ++ [c]) (k + 1)
  | sub {i k c : Nat} {p : List Nat} : i < z.length → Al z i p k → Al z (i + 1) (p ++ [c]) (k + if z[i]? = some c then 0 else 1)
section
variable {C : List (List Nat)} {z : List Nat}
theorem Al.le {i k : Nat} {p : List Nat} (a : Al z i p k) : i ≤ z.length := by
  induction a with
  | nil => exact Nat.zero_le _
  | del h _ _ => omega
  | ins _ ih => exact ih
  | sub h _ _ => omega
/-- the two halves make a whole -/
theorem Al.bl {i k1 : Nat} {p : List Nat} (a : Al z i p k1) : ∀ {u : List Nat} {k2 : Nat}, Bl z i u k2 → Bl z 0 (p ++ u) (k1 + k2) := by
  induction a with
  | nil => intro u k2 b; simpa using b
  | del h a ih =>
    rename_i i k p
    intro u k2 b
    have := ih (.del h b)
    rw [show k + 1 + k2 = k + (k2 + 1) by omega]
    exact this
  | ins a ih =>
    rename_i i k c p
    intro u k2 b
    have := ih (.ins (c := c) b)
    rw [List.append_assoc, show k + 1 + k2 = k + (k2 + 1) by omega]
    exact this
  | sub h a ih =>
    rename_i i k c p
    intro u k2 b
    have := ih (.sub (c := c) h b)
    rw [List.append_assoc, show k + (if z[i]? = some c then 0 else 1) + k2 = k + (k2 + if z[i]? = some c then 0 else 1) by omega]
    exact this
theorem Bl.al {i k2 : Nat} {u : List Nat} (b : Bl z i u k2) : ∀ {p : List Nat} {k1 : Nat}, Al z i p k1 → Al z z.length (p ++ u) (k1 + k2) := by
  induction b with
  | nil => intro p k1 a; simpa using a
  | del h b ih =>
    rename_i i k u
    intro p k1 a
    have := ih (.del h a)
    rw [show k1 + (k + 1) = k1 + 1 + k by omega]
    exact this
  | ins b ih =>
    rename_i i k c u
    intro p k1 a
    have := ih (.ins (c := c) a)
    rw [List.append_assoc] at this
    rw [show k1 + (k + 1) = k1 + 1 + k by omega]
    exact this
  | sub h b ih =>
    rename_i i k c u
    intro p k1 a
    have := ih (.sub (c := c) h a)
    rw [List.append_assoc] at this
    rw [show k1 + (k + if z[i]? = some c then 0 else 1) = k1 + (if z[i]? = some c then 0 else 1) + k by omega]
    exact this
/-! ### reading, front and back -/
theorem Rds.trans {s t : St} {u : List Nat} {v : List Nat} {w : St} (a : Rds C s u t) (h : ∀ {c : Nat} {x y : St}, y ∈ nexts C x c → c ∈ ABC) (b : Rdc C t v w) : Rdc C s (u ++ v) w := by
  induction a generalizing v with
  | nil => exact b
  | snoc a hn ih =>
    rw [List.append_assoc]
    exact ih (.cons (h hn) hn b)
theorem Rdc.rds {s t : St} {v : List Nat} (b : Rdc C s v t) : ∀ {r : St} {u : List Nat}, Rds C r u s → Rds C r (u ++ v) t := by
  induction b with
  | nil => intro r u a; simpa using a
  | cons hc hn b ih =>
    intro r u a
    have := ih (.snoc a hn)
    rw [List.append_assoc] at this
    exact this
theorem Rds.mem {s t : St} {u : List Nat} (a : Rds C s u t) (hs : s ∈ states C) : t ∈ states C := by
  induction a with
  | nil => exact hs
  | snoc _ hn ih => exact nexts_in ih hn
theorem none_in : (none : St) ∈ states C := mem_states.mpr (.inl rfl)
/-! ### the places on a cheapest way -/
/-- p read from the start, the text's first letters spent, and the rest as cheap as can be -/
def On (C : List (List Nat)) (z : List Nat) (p : List Nat) (x : Node) : Prop := ∃ k1, Al z x.1 p k1 ∧ Rds C none p x.2 ∧ (cst C z x.1 x.2).1 + k1 = (cst C z 0 none).1 ∧ (cst C z x.1 x.2).2 + p.length = (cst C z 0 none).2
theorem low (cd : Cd C) (hz : z.length ≤ 3) {i k1 : Nat} {p : List Nat} {q : St} (a : Al z i p k1) (r : Rds C none p q) : le2 (cst C z 0 none) ((cst C z i q).1 + k1, (cst C z i q).2 + p.length) := by
  have hq := r.mem none_in
  obtain ⟨u, k, h1, h2, h3⟩ := cst_real cd hz a.le hq
  have h4 := complete (a.bl h1) none none_in (r.trans (fun h => letter_abc cd h) h2)
  rw [h3]
  rw [List.length_append] at h4
  unfold le2 at *
  simp only at *
  omega
theorem On.tight (cd : Cd C) (hz : z.length ≤ 3) {i k1 : Nat} {p : List Nat} {q : St} {v : Nat × Nat} {dc dl : Nat} (a : Al z i p k1) (r : Rds C none p q) (h : le2 (cst C z i q) (v.1 + dc, v.2 + dl)) (e1 : v.1 + (k1 + dc) = (cst C z 0 none).1) (e2 : v.2 + (p.length + dl) = (cst C z 0 none).2) :
    cst C z i q = (v.1 + dc, v.2 + dl) ∧ On C z p (i, q) := by
  have hl := low cd hz a r
  have e : cst C z i q = (v.1 + dc, v.2 + dl) := by
    refine le2_anti h ?_
    unfold le2 at *
    simp only at *
    omega
  refine ⟨e, k1, a, r, ?_, ?_⟩
  · show (cst C z i q).1 + k1 = _
    rw [e]
    simp only
    omega
  · show (cst C z i q).2 + p.length = _
    rw [e]
    simp only
    omega
theorem On.del {p : List Nat} {x y : Node} (h : On C z p x) (d : delS C z x y) : On C z p y := by
  obtain ⟨k, a, r, e1, e2⟩ := h
  obtain ⟨d1, rfl, d3⟩ := d
  rw [d3] at e1 e2
  simp only at e1 e2
  exact ⟨k + 1, .del d1 a, r, by show (cst C z (x.1 + 1) x.2).1 + (k + 1) = _; omega, e2⟩
theorem On.star {p : List Nat} {x y : Node} (s : Star (delS C z) x y) : On C z p x → On C z p y := by
  induction s with
  | refl => exact id
  | step _ d ih => exact fun h => (ih h).del d
theorem On.let {p : List Nat} {c : Nat} {x y : Node} (h : On C z p x) (d : letS C z c x y) : On C z (p ++ [c]) y := by
  obtain ⟨k, a, r, e1, e2⟩ := h
  obtain ⟨l, hl, e, ⟨d1, d2⟩ | ⟨d0, d1, d2⟩⟩ := d
  · rw [d2] at e1 e2
    simp only at e1 e2
    refine ⟨k + 1, by rw [d1]; exact .ins a, by rw [e]; exact .snoc r hl, ?_, ?_⟩
    · rw [d1, e]; omega
    · rw [d1, e, List.length_append, List.length_singleton]; omega
  · rw [d2] at e1 e2
    simp only at e1 e2
    refine ⟨_, by rw [d1]; exact .sub (c := c) d0 a, by rw [e]; exact .snoc r hl, ?_, ?_⟩
    · rw [d1, e]; omega
    · rw [d1, e, List.length_append, List.length_singleton]; omega
theorem on_nil (cd : Cd C) (hz : z.length ≤ 3) {i k : Nat} {p : List Nat} {q : St} (a : Al z i p k) : p = [] → Rds C none p q → (cst C z i q).1 + k = (cst C z 0 none).1 → (cst C z i q).2 + p.length = (cst C z 0 none).2 → Star (delS C z) (0, none) (i, q) := by
  induction a with
  | nil =>
    intro _ r _ _
    generalize hu : ([] : List Nat) = u at r
    cases r with
    | nil => exact .refl _
    | snoc _ _ => simp at hu
  | del h a ih =>
    rename_i i k p
    intro e r e1 e2
    have hq := r.mem none_in
    have t := On.tight (v := cst C z (i + 1) q) (dc := 1) (dl := 0) cd hz a r (cst_del h hq) (by omega) (by omega)
    obtain ⟨t1, k', _, _, t2, t3⟩ := t
    have t2' : (cst C z i q).1 + k = (cst C z 0 none).1 := by rw [t1]; simp only; omega
    exact .step (ih e r t2' t3) ⟨h, rfl, t1⟩
  | ins a ih => intro e; simp at e
  | sub h a ih => intro e; simp at e
theorem on_snoc (cd : Cd C) (hz : z.length ≤ 3) {i k : Nat} {p : List Nat} {q : St} (a : Al z i p k) : ∀ {p0 : List Nat} {c : Nat}, p = p0 ++ [c] → Rds C none p q → (cst C z i q).1 + k = (cst C z 0 none).1 → (cst C z i q).2 + p.length = (cst C z 0 none).2 →
    ∃ y, On C z p0 y ∧ ∃ x1, letS C z c y x1 ∧ Star (delS C z) x1 (i, q) := by
  induction a with
  | nil => intro p0 c e; simp at e
  | del h a ih =>
    rename_i i k p
    intro p0 c e r e1 e2
    have hq := r.mem none_in
    have t := On.tight (v := cst C z (i + 1) q) (dc := 1) (dl := 0) cd hz a r (cst_del h hq) (by omega) (by omega)
    obtain ⟨t1, k', _, _, t2, t3⟩ := t
    have t2' : (cst C z i q).1 + k = (cst C z 0 none).1 := by rw [t1]; simp only; omega
    obtain ⟨y, h1, x1, h2, h3⟩ := ih e r t2' t3
    exact ⟨y, h1, x1, h2, .step h3 ⟨h, rfl, t1⟩⟩
  | ins a ih =>
    rename_i i k c0 p
    intro p0 c e r e1 e2
    obtain ⟨rfl, e'⟩ := List.append_inj' e rfl
    cases e'
    generalize hu : p ++ [c0] = u at r
    cases r with
    | nil => simp at hu
    | snoc r hn =>
      obtain ⟨rfl, e'⟩ := List.append_inj' hu rfl
      cases e'
      have hq := r.mem none_in
      rw [List.length_append, List.length_singleton] at e2
      have t := On.tight (v := cst C z i q) (dc := 1) (dl := 1) cd hz a r (cst_shut i hq ⟨_, letter_abc cd hn, hn⟩) (by omega) (by omega)
      exact ⟨_, t.2, (i, q), ⟨q, hn, rfl, .inl ⟨rfl, t.1⟩⟩, .refl _⟩
  | sub h a ih =>
    rename_i i k c0 p
    intro p0 c e r e1 e2
    obtain ⟨rfl, e'⟩ := List.append_inj' e rfl
    cases e'
    generalize hu : p ++ [c0] = u at r
    cases r with
    | nil => simp at hu
    | snoc r hn =>
      obtain ⟨rfl, e'⟩ := List.append_inj' hu rfl
      cases e'
      have hq := r.mem none_in
      rw [List.length_append, List.length_singleton] at e2
      have t := On.tight (v := cst C z (i + 1) q) (dc := if z[i]? = some c0 then 0 else 1) (dl := 1) cd hz a r (cst_sub h hq (letter_abc cd hn) hn) (by omega) (by omega)
      exact ⟨_, t.2, (i + 1, q), ⟨q, hn, rfl, .inr ⟨h, rfl, t.1⟩⟩, .refl _⟩
/-- what the program holds are all places on a cheapest way -/
theorem run_on (cd : Cd C) (hz : z.length ≤ 3) {p : List Nat} {ns : List Node} (r : Run C z p ns) : ∀ x, x ∈ ns ↔ On C z p x := by
  induction r with
  | zero h =>
    intro x
    rw [h]
    constructor
    · intro s
      exact On.star s ⟨0, .nil, .nil, rfl, rfl⟩
    · rintro ⟨k, a, r, e1, e2⟩
      exact on_nil cd hz a rfl r e1 e2
  | next r hc hno hyes h ih =>
    intro x
    rw [h]
    constructor
    · rintro ⟨y, h1, x1, h2, h3⟩
      exact On.star h3 (((ih y).mp h1).let h2)
    · rintro ⟨k, a, rr, e1, e2⟩
      obtain ⟨y, h1, h2⟩ := on_snoc cd hz a rfl rr e1 e2
      exact ⟨y, (ih y).mpr h1, h2⟩
theorem run_some (cd : Cd C) (hz : z.length ≤ 3) {p : List Nat} {ns : List Node} (r : Run C z p ns) : ∃ x, x ∈ ns := by
  cases r with
  | zero h => exact ⟨(0, none), (h _).mpr (.refl _)⟩
  | next r hc hno hyes h =>
    obtain ⟨y, h1, x, h2⟩ := hyes
    exact ⟨x, (h x).mpr ⟨y, h1, x, h2, .refl _⟩⟩
/-- from a place on a cheapest way a letter leads on, so long as letters are left -/
theorem goes_on (cd : Cd C) (hz : z.length ≤ 3) {p : List Nat} {i k : Nat} {u : List Nat} (b : Bl z i u k) : ∀ {q : St} {c : Nat} {u' : List Nat}, u = c :: u' → Rdc C q u none → (∃ k1, Al z i p k1 ∧ Rds C none p q ∧ k + k1 = (cst C z 0 none).1 ∧ u.length + p.length = (cst C z 0 none).2) →
    ∃ y, On C z p y ∧ ∃ x, letS C z c y x := by
  induction b with
  | nil => intro q c u' e; simp at e
  | del h b ih =>
    rename_i i k u
    rintro q c u' e r ⟨k1, a, rr, e1, e2⟩
    exact ih e r ⟨k1 + 1, .del h a, rr, by omega, e2⟩
  | ins b ih =>
    rename_i i k c0 u
    rintro q c u' e r ⟨k1, a, rr, e1, e2⟩
    simp only [List.cons.injEq] at e
    obtain ⟨rfl, rfl⟩ := e
    cases r with
    | cons hc hl r =>
      rename_i s'
      have hq := rr.mem none_in
      have h1 := complete b s' (nexts_in hq hl) r
      have h2 := low cd hz (Al.ins (c := c0) a) (Rds.snoc rr hl)
      have h3 := cst_shut (C := C) (z := z) i hq ⟨_, hc, hl⟩
      rw [List.length_append, List.length_singleton] at h2
      rw [List.length_cons] at e2
      have t := On.tight (v := cst C z i s') (dc := 1) (dl := 1) cd hz a rr h3 (by unfold le2 at *; simp only at *; omega) (by unfold le2 at *; simp only at *; omega)
      exact ⟨_, t.2, (i, s'), s', hl, rfl, .inl ⟨rfl, t.1⟩⟩
  | sub h b ih =>
    rename_i i k c0 u
    rintro q c u' e r ⟨k1, a, rr, e1, e2⟩
    simp only [List.cons.injEq] at e
    obtain ⟨rfl, rfl⟩ := e
    cases r with
    | cons hc hl r =>
      rename_i s'
      have hq := rr.mem none_in
      have h1 := complete b s' (nexts_in hq hl) r
      have h2 := low cd hz (Al.sub (c := c0) h a) (Rds.snoc rr hl)
      have h3 := cst_sub (C := C) h hq hc hl
      rw [List.length_append, List.length_singleton] at h2
      rw [List.length_cons] at e2
      have t := On.tight (v := cst C z (i + 1) s') (dc := if z[i]? = some c0 then 0 else 1) (dl := 1) cd hz a rr h3 (by unfold le2 at *; simp only at *; omega) (by unfold le2 at *; simp only at *; omega)
      exact ⟨_, t.2, (i + 1, s'), s', hl, rfl, .inr ⟨h, rfl, t.1⟩⟩
theorem not_stuck (cd : Cd C) (hz : z.length ≤ 3) {p : List Nat} {ns : List Node} (r : Run C z p ns) (hl : p.length < (cst C z 0 none).2) : ¬ Stuck C z ns := by
  intro st
  obtain ⟨x, hx⟩ := run_some cd hz r
  obtain ⟨k1, a, rr, e1, e2⟩ := (run_on cd hz r x).mp hx
  have hq := rr.mem none_in
  obtain ⟨u, k, h1, h2, h3⟩ := cst_real cd hz a.le hq
  rw [h3] at e1 e2
  simp only at e1 e2
  cases u with
  | nil => simp at e2; omega
  | cons c u =>
    obtain ⟨y, h4, h5⟩ := goes_on cd hz (p := p) h1 rfl h2 ⟨k1, a, rr, e1, e2⟩
    cases h2 with
    | cons hc _ _ => exact st c hc ⟨y, (run_on cd hz r y).mpr h4, h5⟩
/-- the word found: it is read, it is as near as can be -/
theorem run_end (cd : Cd C) (hz : z.length ≤ 3) {p : List Nat} {ns : List Node} (r : Run C z p ns) (hl : p.length = (cst C z 0 none).2) : Rds C none p none ∧ Al z z.length p (cst C z 0 none).1 := by
  obtain ⟨x, hx⟩ := run_some cd hz r
  obtain ⟨k1, a, rr, e1, e2⟩ := (run_on cd hz r x).mp hx
  have hq := rr.mem none_in
  obtain ⟨u, k, h1, h2, h3⟩ := cst_real cd hz a.le hq
  rw [h3] at e1 e2
  simp only at e1 e2
  have : u = [] := List.length_eq_zero_iff.mp (by omega)
  subst this
  have h4 := h1.al a
  rw [List.append_nil, show k1 + k = (cst C z 0 none).1 by omega] at h4
  refine ⟨?_, h4⟩
  have := h2.rds rr
  rw [List.append_nil] at this
  exact this
/-- split a whole at p letters -/
theorem split_al {m : List Nat} {K : Nat} {i k2 : Nat} {u : List Nat} (b : Bl z i u k2) : ∀ {p0 : List Nat} {k1 : Nat} {p v : List Nat}, Al z i p0 k1 → p0 ++ u = p ++ v → p0.length ≤ p.length → ∃ j l1 l2, Al z j p l1 ∧ Bl z j v l2 ∧ l1 + l2 = k1 + k2 := by
  induction b with
  | nil =>
    intro p0 k1 p v a e hl
    rw [List.append_nil] at e
    have : v = [] := by
      have := congrArg List.length e
      rw [List.length_append] at this
      exact List.length_eq_zero_iff.mp (by omega)
    subst this
    rw [List.append_nil] at e
    subst e
    exact ⟨_, _, _, a, .nil, rfl⟩
  | del h b ih =>
    intro p0 k1 p v a e hl
    obtain ⟨j, l1, l2, h1, h2, h3⟩ := ih (.del h a) e hl
    exact ⟨j, l1, l2, h1, h2, by omega⟩
  | ins b ih =>
    rename_i i k c u
    intro p0 k1 p v a e hl
    by_cases he : p0.length = p.length
    · obtain ⟨rfl, rfl⟩ := List.append_inj e he
      exact ⟨_, _, _, a, .ins b, rfl⟩
    · obtain ⟨j, l1, l2, h1, h2, h3⟩ := ih (p := p) (v := v) (.ins (c := c) a) (by rw [List.append_assoc]; exact e) (by rw [List.length_append, List.length_singleton]; omega)
      exact ⟨j, l1, l2, h1, h2, by omega⟩
  | sub h b ih =>
    rename_i i k c u
    intro p0 k1 p v a e hl
    by_cases he : p0.length = p.length
    · obtain ⟨rfl, rfl⟩ := List.append_inj e he
      exact ⟨_, _, _, a, .sub h b, rfl⟩
    · obtain ⟨j, l1, l2, h1, h2, h3⟩ := ih (p := p) (v := v) (.sub (c := c) h a) (by rw [List.append_assoc]; exact e) (by rw [List.length_append, List.length_singleton]; omega)
      exact ⟨j, l1, l2, h1, h2, by omega⟩
end
end K59
namespace K59
section
variable {C : List (List Nat)} {z : List Nat}
theorem Rdc.split {s t : St} : ∀ {p v : List Nat}, Rdc C s (p ++ v) t → ∃ q, Rdc C s p q ∧ Rdc C q v t := by
  intro p
  induction p generalizing s with
  | nil => intro v r; exact ⟨s, .nil s, r⟩
  | cons c p ih =>
    intro v r
    cases r with
    | cons hc hl r =>
      obtain ⟨q, h1, h2⟩ := ih r
      exact ⟨q, .cons hc hl h1, h2⟩
theorem Rdc.trans {s t w : St} {u v : List Nat} (a : Rdc C s u t) : Rdc C t v w → Rdc C s (u ++ v) w := by
  induction a with
  | nil => exact id
  | cons hc hl a ih => exact fun b => .cons hc hl (ih b)
theorem Rdc.toRds {s t : St} {u : List Nat} (a : Rdc C s u t) : Rds C s u t := by
  have := a.rds (r := s) (u := []) .nil
  exact this
theorem Rds.toRdc (cd : Cd C) {s t : St} {u : List Nat} (a : Rds C s u t) : Rdc C s u t := by
  have := a.trans (fun h => letter_abc cd h) (.nil t)
  rw [List.append_nil] at this
  exact this
/-! ### messages are what is read from the start to the start -/
theorem word_read (cd : Cd C) {w : List Nat} (hw : w ∈ C) : Rdc C none w none := by
  obtain ⟨n, hn⟩ := List.mem_iff_getElem?.mp hw
  have hp := cd.pos w hw
  cases w with
  | nil => simp at hp
  | cons c w =>
    refine .cons (cd.abc _ hw c List.mem_cons_self) (mem_nexts.mpr (.inl ⟨rfl, n, _, hn, rfl, rfl⟩)) ?_
    have := rest_read cd hn w.length 1 (by simp; omega)
    exact this
theorem Lang.read (cd : Cd C) {m : List Nat} (l : Lang C m) : Rdc C none m none := by
  induction l with
  | nil => exact .nil _
  | snoc _ hw ih => exact ih.trans (word_read cd hw)
theorem rds_lang {m : List Nat} {t : St} (r : Rds C none m t) : (t = none → Lang C m) ∧ ∀ n k, t = some (n, k) → ∃ u m', C[n]? = some u ∧ k < u.length ∧ Lang C m' ∧ m = m' ++ u.take k := by
  induction r with
  | nil => exact ⟨fun _ => .nil, fun n k h => by cases h⟩
  | snoc r hn ih =>
    rename_i v t t' c
    have key : ∀ (n k : Nat) (u m' : List Nat), C[n]? = some u → Lang C m' → k < u.length → u[k]? = some c → t' = behind C n (k + 1) → v = m' ++ u.take k → (t' = none → Lang C (v ++ [c])) ∧ ∀ n k, t' = some (n, k) → ∃ u m', C[n]? = some u ∧ k < u.length ∧ Lang C m' ∧ v ++ [c] = m' ++ u.take k := by
      intro n k u m' h1 h2 h3 h4 h5 h6
      have e : v ++ [c] = m' ++ u.take (k + 1) := by
        rw [h6, List.append_assoc, List.take_add_one, h4]
        rfl
      unfold behind at h5
      rw [word_at h1] at h5
      by_cases hl : k + 1 = u.length
      · rw [if_pos hl] at h5
        refine ⟨fun _ => ?_, fun n k h => by rw [h5] at h; cases h⟩
        rw [e, List.take_of_length_le (by omega)]
        exact .snoc h2 (List.mem_of_getElem? h1)
      · rw [if_neg hl] at h5
        refine ⟨fun h => (by rw [h5] at h; cases h), fun n' k' h => ?_⟩
        rw [h5] at h
        cases h
        exact ⟨u, m', h1, by omega, h2, e⟩
    rcases mem_nexts.mp hn with ⟨rfl, n, u, h1, h2, h3⟩ | ⟨n, k, rfl, h1, h2⟩
    · exact key n 0 u v h1 (ih.1 rfl) (List.getElem?_eq_some_iff.mp h2).1 h2 h3 (by simp)
    · obtain ⟨u, m', h3, h4, h5, h6⟩ := ih.2 n k rfl
      rw [word_at h3] at h1
      exact key n k u m' h3 h5 h4 h1 h2 h6
theorem rds_pre {s t : St} {w : List Nat} (r : Rds C s w t) : ∀ k, ∃ t', Rds C s (w.take k) t' := by
  induction r with
  | nil => intro k; exact ⟨s, by rw [List.take_nil]; exact .nil⟩
  | snoc r hn ih =>
    rename_i u t t' c
    intro k
    by_cases hk : k ≤ u.length
    · rw [List.take_append_of_le_length hk]
      exact ih k
    · rw [List.take_of_length_le (by rw [List.length_append, List.length_singleton]; omega)]
      exact ⟨_, .snoc r hn⟩
/-! ### the law's distance is the cost of the cheapest turning -/
theorem lv_z (x y : List Nat) (k : Nat) : lv x y k 0 = k := by cases k <;> rfl
theorem lv_del (x y : List Nat) (k j : Nat) : lv x y (k + 1) j ≤ lv x y k j + 1 := by
  cases j with
  | zero => rw [lv_z, lv_z]; exact Nat.le_refl _
  | succ j =>
    show min (min (lv x y k (j + 1) + 1) (lvRow x y k (lv x y k) j + 1)) (lv x y k j + _) ≤ _
    omega
theorem lv_ins (x y : List Nat) (k j : Nat) : lv x y k (j + 1) ≤ lv x y k j + 1 := by
  cases k with
  | zero => exact Nat.le_refl _
  | succ k =>
    show min (min (lv x y k (j + 1) + 1) (lvRow x y k (lv x y k) j + 1)) (lv x y k j + _) ≤ lvRow x y k (lv x y k) j + 1
    omega
theorem lv_sub (x y : List Nat) (k j : Nat) : lv x y (k + 1) (j + 1) ≤ lv x y k j + if x[k]? = y[j]? then 0 else 1 := by
  show min (min (lv x y k (j + 1) + 1) (lvRow x y k (lv x y k) j + 1)) (lv x y k j + if x[k]? = y[j]? then 0 else 1) ≤ _
  omega
theorem lv_or (x y : List Nat) (k j : Nat) : lv x y (k + 1) (j + 1) = lv x y k (j + 1) + 1 ∨ lv x y (k + 1) (j + 1) = lv x y (k + 1) j + 1 ∨ lv x y (k + 1) (j + 1) = lv x y k j + if x[k]? = y[j]? then 0 else 1 := by
  have e : lv x y (k + 1) (j + 1) = min (min (lv x y k (j + 1) + 1) (lv x y (k + 1) j + 1)) (lv x y k j + if x[k]? = y[j]? then 0 else 1) := rfl
  rw [e]
  omega
theorem al_lv {i k : Nat} {p : List Nat} (a : Al z i p k) : ∀ {m : List Nat}, p <+: m → lv z m i p.length ≤ k := by
  induction a with
  | nil => intro m _; exact Nat.le_refl _
  | del h a ih =>
    intro m hp
    have := ih hp
    have h2 := lv_del z m ‹Nat› (List.length ‹List Nat›)
    exact Nat.le_trans (lv_del z m _ _) (by omega)
  | ins a ih =>
    rename_i i k c p
    intro m hp
    have := ih (List.IsPrefix.trans (List.prefix_append p [c]) hp)
    rw [List.length_append, List.length_singleton]
    exact Nat.le_trans (lv_ins z m _ _) (by omega)
  | sub h a ih =>
    rename_i i k c p
    intro m hp
    have h1 := ih (List.IsPrefix.trans (List.prefix_append p [c]) hp)
    rw [List.length_append, List.length_singleton]
    have hm : m[p.length]? = some c := by
      obtain ⟨r, rfl⟩ := hp
      simp
    have h2 := lv_sub z m i p.length
    rw [hm] at h2
    omega
theorem lv_al (z m : List Nat) : ∀ i, i ≤ z.length → ∀ j, j ≤ m.length → Al z i (m.take j) (lv z m i j) := by
  have hins : ∀ {i j k : Nat}, j + 1 ≤ m.length → Al z i (m.take j) k → Al z i (m.take (j + 1)) (k + 1) := by
    intro i j k hj a
    rw [List.take_add_one, List.getElem?_eq_getElem (show j < m.length by omega)]
    exact .ins a
  intro i
  induction i with
  | zero =>
    intro _ j
    induction j with
    | zero => intro _; exact .nil
    | succ j ih => intro hj; exact hins hj (ih (by omega))
  | succ i ihi =>
    intro hi j
    induction j with
    | zero =>
      intro _
      have := ihi (by omega) 0 (Nat.zero_le _)
      rw [lv_z] at this ⊢
      exact .del (by omega) this
    | succ j ih =>
      intro hj
      rcases lv_or z m i j with e | e | e
      · rw [e]; exact .del (by omega) (ihi (by omega) (j + 1) hj)
      · rw [e]; exact hins hj (ih (by omega))
      · rw [e]
        have hjm := List.getElem?_eq_getElem (show j < m.length by omega)
        rw [List.take_add_one, hjm]
        exact .sub (by omega) (ihi (by omega) j (by omega))
theorem al_len {i k : Nat} {p : List Nat} (a : Al z i p k) : p.length ≤ i + k := by
  induction a with
  | nil => simp
  | del _ _ ih => omega
  | ins _ ih => rw [List.length_append, List.length_singleton]; omega
  | sub _ _ ih => rw [List.length_append, List.length_singleton]; omega
abbrev dist (z m : List Nat) : Nat := lv z m z.length m.length
theorem dist_bl (z m : List Nat) : Bl z 0 m (dist z m) := by
  have a := lv_al z m z.length (Nat.le_refl _) m.length (Nat.le_refl _)
  rw [List.take_length] at a
  have := a.bl .nil
  rw [List.append_nil] at this
  exact this
/-- no message is nearer -/
theorem least_all (cd : Cd C) {m : List Nat} (l : Lang C m) : le2 (cst C z 0 none) (dist z m, m.length) := complete (dist_bl z m) none none_in (l.read cd)
theorem least_small (cd : Cd C) (hz : z.length ≤ 3) : (cst C z 0 none).1 ≤ z.length ∧ (cst C z 0 none).2 ≤ 2 * z.length := by
  have h1 := least_all (z := z) cd .nil
  have e : dist z [] = z.length := lv_z z [] z.length
  rw [e] at h1
  have h1' : (cst C z 0 none).1 ≤ z.length := by unfold le2 at h1; simp only at h1; omega
  obtain ⟨u, k, b, r, h3⟩ := cst_real cd hz (Nat.zero_le _) (none_in (C := C))
  have h4 := al_len (b.al .nil)
  rw [h3] at h1' ⊢
  simp only at *
  simp at h4
  exact ⟨h1', by omega⟩
def Before (p m : List Nat) : Prop := ∃ a c c' r r', p = a ++ c :: r ∧ m = a ++ c' :: r' ∧ c < c'
theorem run_min (cd : Cd C) (hz : z.length ≤ 3) {p : List Nat} {ns : List Node} (rn : Run C z p ns) {m : List Nat} (b : Bl z 0 m (cst C z 0 none).1) (rm : Rdc C none m none) (hm : m.length = (cst C z 0 none).2) : p.length ≤ (cst C z 0 none).2 → p <+: m ∨ Before p m := by
  induction rn with
  | zero h => intro _; exact .inl (List.nil_prefix)
  | next rn hc hno hyes h ih =>
    rename_i p ns ns' c
    intro hl
    rw [List.length_append, List.length_singleton] at hl
    rcases ih (by omega) with ⟨v, rfl⟩ | ⟨a, c1, c2, r, r', rfl, e2, hlt⟩
    · rw [List.length_append] at hm
      cases v with
      | nil => simp at hm; omega
      | cons c' v =>
        obtain ⟨j, l1, l2, s1, s2, s3⟩ := split_al (m := p ++ c' :: v) (K := 0) b (p0 := []) (p := p) (v := c' :: v) .nil rfl (by simp)
        obtain ⟨q, r1, r2⟩ := rm.split
        obtain ⟨y, g1, g2⟩ := goes_on cd hz (p := p) s2 rfl r2 ⟨l1, s1, r1.toRds, by omega, by omega⟩
        have hc' : c' ∈ ABC := by cases r2 with | cons hc _ _ => exact hc
        have hge : ¬ c' < c := fun hlt => hno c' hc' hlt ⟨y, (run_on cd hz rn y).mpr g1, g2⟩
        by_cases e : c = c'
        · subst e
          exact .inl ⟨v, by simp⟩
        · exact .inr ⟨p, c, c', [], v, rfl, rfl, by omega⟩
    · exact .inr ⟨a, c1, c2, r ++ [c], r', by simp, e2, hlt⟩
/-- the program's word against every message -/
theorem near_best (cd : Cd C) (hz : z.length ≤ 3) {p : List Nat} {ns : List Node} (rn : Run C z p ns) (h : p.length = (cst C z 0 none).2 ∨ (p.length ≤ (cst C z 0 none).2 ∧ Stuck C z ns)) :
    Lang C p ∧ p.length ≤ 2 * z.length ∧ dist z p = (cst C z 0 none).1 ∧ ∀ m, Lang C m → dist z p < dist z m ∨ (dist z p = dist z m ∧ (p.length < m.length ∨ (p.length = m.length ∧ (p = m ∨ Before p m)))) := by
  have hl : p.length = (cst C z 0 none).2 := by
    rcases h with h | ⟨h1, h2⟩
    · exact h
    · by_cases e : p.length = (cst C z 0 none).2
      · exact e
      · exact absurd h2 (not_stuck cd hz rn (by omega))
  obtain ⟨r, a⟩ := run_end cd hz rn hl
  have lp : Lang C p := (rds_lang r).1 rfl
  have h1 := least_all (z := z) cd lp
  have h2 : dist z p ≤ (cst C z 0 none).1 := al_lv a (List.prefix_refl p)
  have e1 : dist z p = (cst C z 0 none).1 := by unfold le2 at h1; simp only at h1; omega
  refine ⟨lp, by have := (least_small (z := z) cd hz).2; omega, e1, fun m lm => ?_⟩
  have h3 := least_all (z := z) cd lm
  unfold le2 at h3
  simp only at h3
  by_cases hlt : dist z p < dist z m
  · exact .inl hlt
  · right
    refine ⟨by omega, ?_⟩
    by_cases hll : p.length < m.length
    · exact .inl hll
    · right
      have hml : m.length = (cst C z 0 none).2 := by omega
      refine ⟨by omega, ?_⟩
      have hb := dist_bl z m
      rw [show dist z m = (cst C z 0 none).1 by omega] at hb
      rcases run_min cd hz rn hb (lm.read cd) hml (by omega) with hp | hp
      · exact .inl (hp.eq_of_length (by omega))
      · exact .inr hp
/-! ### prefixes -/
theorem viable (cd : Cd C) {u : List Nat} {t : St} (r : Rds C none u t) (hu : u.length ≤ 3) : ∃ m, Lang C m ∧ m.length ≤ 6 ∧ m.take u.length = u := by
  obtain ⟨v, h1, h2⟩ := fin_ex cd (r.mem none_in)
  have h3 := h1.rds r
  exact ⟨u ++ v, (rds_lang h3).1 rfl, by rw [List.length_append]; omega, by simp⟩
theorem viable_of (cd : Cd C) {m : List Nat} (l : Lang C m) (k : Nat) : ∃ t, Rds C none (m.take k) t := rds_pre (l.read cd).toRds k
end
end K59
namespace K59
/-! ### the least of the law's rows -/
def TL (z y a : List Nat) : Prop := dist z y < dist z a ∨ (dist z y = dist z a ∧ (y.length < a.length ∨ (y.length = a.length ∧ y < a)))
instance (z y a : List Nat) : Decidable (TL z y a) := by unfold TL; infer_instance
theorem before_lt {p m : List Nat} (h : Before p m) : p < m := by
  obtain ⟨a, c, c', r, r', rfl, rfl, hlt⟩ := h
  induction a with
  | nil => exact List.Lex.rel hlt
  | cons b a ih => exact List.Lex.cons ih
theorem TL.asymm {z y a : List Nat} (h : TL z y a) : ¬ TL z a y := by
  unfold TL at *
  intro h2
  rcases h with h | ⟨h, h | ⟨h3, h4⟩⟩
  · rcases h2 with h2 | ⟨h2, _⟩ <;> omega
  · rcases h2 with h2 | ⟨h2, h5 | ⟨h5, _⟩⟩ <;> omega
  · rcases h2 with h2 | ⟨h2, h5 | ⟨h5, h6⟩⟩
    · omega
    · omega
    · exact absurd h6 (List.lt_asymm h4)
theorem TL.irrefl {z y : List Nat} : ¬ TL z y y := fun h => h.asymm h
def bestOf (z : List Nat) (m : List Nat) (ms : List (List Nat)) : List Nat := ms.foldl (fun a y => if TL z y a then y else a) m
theorem bestOf_eq {z p : List Nat} : ∀ {ms : List (List Nat)} {m : List Nat}, (p = m ∨ p ∈ ms) → (∀ y, y = m ∨ y ∈ ms → y = p ∨ TL z p y) → bestOf z m ms = p
  | [], m, h, _ => by
    rcases h with h | h
    · exact h.symm
    · simp at h
  | y :: ms, m, h, hall => by
    unfold bestOf
    rw [List.foldl_cons]
    refine bestOf_eq (ms := ms) ?_ ?_
    · by_cases e : p ∈ ms
      · exact .inr e
      · left
        rcases h with rfl | h
        · rcases hall y (.inr List.mem_cons_self) with rfl | h
          · rw [if_neg TL.irrefl]
          · rw [if_neg h.asymm]
        · rcases List.mem_cons.mp h with rfl | h
          · rcases hall m (.inl rfl) with rfl | h
            · rw [if_neg TL.irrefl]
            · rw [if_pos h]
          · exact absurd h e
    · intro y' hy'
      rcases hy' with rfl | hy'
      · split
        · exact hall y (.inr List.mem_cons_self)
        · exact hall m (.inl rfl)
      · exact hall y' (.inr (List.mem_cons_of_mem _ hy'))
section
variable {C : List (List Nat)} {z : List Nat}
theorem near_TL (cd : Cd C) (hz : z.length ≤ 3) {p : List Nat} {ns : List Node} (rn : Run C z p ns) (h : p.length = (cst C z 0 none).2 ∨ (p.length ≤ (cst C z 0 none).2 ∧ Stuck C z ns)) :
    Lang C p ∧ p.length ≤ 2 * z.length ∧ dist z p = (cst C z 0 none).1 ∧ ∀ m, Lang C m → m = p ∨ TL z p m := by
  obtain ⟨h1, h2, h3, h4⟩ := near_best cd hz rn h
  refine ⟨h1, h2, h3, fun m lm => ?_⟩
  unfold TL
  rcases h4 m lm with h | ⟨h, h5 | ⟨h5, rfl | h6⟩⟩
  · exact .inr (.inl h)
  · exact .inr (.inr ⟨h, .inl h5⟩)
  · exact .inl rfl
  · exact .inr (.inr ⟨h, .inr ⟨h5, before_lt h6⟩⟩)
/-! ### the first error that is due -/
def noPre (ms : List (List Nat)) (z : List Nat) (k : Nat) : Bool := !(ms.any fun m => decide (m.take k = z.take k))
def due (ms : List (List Nat)) (z : List Nat) : Nat → Option Nat
  | 0 => none
  | j + 1 => if noPre ms z (z.length - j) = true then some (z.length - j) else due ms z j
theorem due_none {ms : List (List Nat)} : ∀ j, (∀ i, i < j → noPre ms z (z.length - i) = false) → due ms z j = none
  | 0, _ => rfl
  | j + 1, h => by
    unfold due
    rw [h j (Nat.lt_succ_self j), if_neg Bool.false_ne_true]
    exact due_none j fun i hi => h i (by omega)
theorem due_some {ms : List (List Nat)} {k : Nat} (hk : noPre ms z k = true) (hkz : k ≤ z.length) : ∀ j, j ≤ z.length → z.length - j < k → (∀ i, z.length - j < i → i < k → noPre ms z i = false) → due ms z j = some k
  | 0, _, h, _ => by omega
  | j + 1, hj, h, hno => by
    unfold due
    by_cases e : z.length - j = k
    · rw [e, hk, if_pos rfl]
    · have : noPre ms z (z.length - j) = false := hno _ (by omega) (by omega)
      rw [this, if_neg Bool.false_ne_true]
      exact due_some hk hkz j (by omega) (by omega) fun i h1 h2 => hno i (by omega) h2
theorem pre_yes (cd : Cd C) (hz : z.length ≤ 3) {ms : List (List Nat)} (hms : ∀ m, m ∈ ms ↔ Lang C m ∧ m.length ≤ 6) {k i : Nat} {t : St} (r : Rds C none (z.take k) t) (hi : i ≤ k) (hk : k ≤ z.length) : noPre ms z i = false := by
  obtain ⟨t', r'⟩ := rds_pre r i
  rw [List.take_take, Nat.min_eq_left hi] at r'
  have hl : (z.take i).length = i := by rw [List.length_take]; omega
  obtain ⟨m, h1, h2, h3⟩ := viable cd r' (by omega)
  rw [hl] at h3
  unfold noPre
  rw [Bool.not_eq_false', List.any_eq_true]
  exact ⟨m, (hms m).mpr ⟨h1, h2⟩, decide_eq_true h3⟩
theorem pre_no (cd : Cd C) {ms : List (List Nat)} (hms : ∀ m, m ∈ ms ↔ Lang C m ∧ m.length ≤ 6) {k : Nat} (r : ∀ t, ¬ Rds C none (z.take k) t) : noPre ms z k = true := by
  unfold noPre
  rw [Bool.not_eq_true', List.any_eq_false]
  intro m hm
  rw [decide_eq_true_eq]
  intro e
  obtain ⟨t, ht⟩ := viable_of cd ((hms m).mp hm).1 k
  rw [e] at ht
  exact r t ht
theorem due_first (cd : Cd C) (hz : z.length ≤ 3) {ms : List (List Nat)} (hms : ∀ m, m ∈ ms ↔ Lang C m ∧ m.length ≤ 6) {k : Nat} (hk : k < z.length) {t : St} (r : Rds C none (z.take k) t) (n : ∀ t, ¬ Rds C none (z.take (k + 1)) t) : due ms z z.length = some (k + 1) :=
  due_some (pre_no cd hms n) hk z.length (Nat.le_refl _) (by omega) fun i _ h2 => pre_yes cd hz hms r (by omega) (by omega)
theorem due_all (cd : Cd C) (hz : z.length ≤ 3) {ms : List (List Nat)} (hms : ∀ m, m ∈ ms ↔ Lang C m ∧ m.length ≤ 6) {t : St} (r : Rds C none z t) : due ms z z.length = none :=
  due_none z.length fun i _ => pre_yes cd hz hms (k := z.length) (t := t) (by rw [List.take_length]; exact r) (by omega) (Nat.le_refl _)
end
end K59
namespace K59
open PySem PySem.Spec PyProof.Rows L2
abbrev topS (i : Nat) : Stmt := PySem.Challenge.pw_syncedwords_k59_whole_corrections.main.body.getD i (.Pass ⟨0, 0, 0, 0⟩)
structure Tx (mg : Str → Option Value) : Prop where
  isi : mg "isinstance" = none
  str : mg "str" = none
  tup : mg "tuple" = none
  len : mg "len" = none
  all : mg "all" = none
  any : mg "any" = none
  rng : mg "range" = none
  enm : mg "enumerate" = none
  lst : mg "list" = none
  int : mg "int" = none
  abs : mg "abs" = none
  min : mg "min" = none
  boo : mg "bool" = none
  letters : ∃ t, mg "LETTERS" = some (.str "abc" t)
  every : ∃ t, mg "EVERY" = some (.str "abc" t)
  mw : ∃ t, mg "MOST_WORDS" = some (.int 6 t)
  lw : ∃ t, mg "LONGEST_WORD" = some (.int 5 t)
  ls : ∃ t, mg "LONGEST_STRING" = some (.int 24 t)
/-! ### letters and words -/
theorem kit_ss : kitB "str" "str" = some true := by decide +kernel
def S (z : List Nat) : Str := ⟨z.toArray⟩
abbrev sD (z : List Nat) : D := .str (S z)
abbrev Abc (z : List Nat) : Prop := ∀ c ∈ z, c = 97 ∨ c = 98 ∨ c = 99
theorem S_len (z : List Nat) : (S z).length = z.length := rfl
theorem S_inj {y z : List Nat} (h : S y = S z) : y = z := by
  unfold S at h
  injection h with h
  have := congrArg Array.toList h
  simpa using this
theorem S_cat (y z : List Nat) : S y ++ S z = S (y ++ z) := by
  show (⟨_⟩ : Str) = ⟨_⟩
  simp [S]
theorem S_abc : ("abc" : Str) = S [97, 98, 99] := by decide +kernel
theorem S_signs (z : List Nat) : signs (S z) = z.map fun c => sD [c] := rfl
theorem hu_r {k : Nat} {A : Around} (hr : Room k A) : A.units + 65 < cLine := by have := hr.un; omega
theorem hu9 {k : Nat} {A : Around} (hr : Room k A) : A.units + 9 < cLine := by have := hr.un; omega
theorem de_chain {X : Cx} {Γ : Gam} {M : Mem} {a b c : Expr} {i j k : Int} {pos : Pos} (ha : DE X Γ M a (Is (.int i))) (hb : DE X Γ M b (Is (.int j))) (hc : DE X Γ M c (Is (.int k))) (hm : lastMarks [.LtE, .LtE] [b, c] = false := by with_unfolding_all rfl) :
    DE X Γ M (.Compare a [.LtE, .LtE] [b, c] pos) (Is (.bool (decide (i ≤ j) && decide (j ≤ k)))) := de_of (pe_chain op_le op_le pe_max pe_max pe_max hm) fun G F H σ Q ok sl q => ha G F H σ _ ok sl fun v1 d1 F1 H1 r1 s1 k1 p1 => hb G F1 H1 σ _ k1 (sl.mono s1) fun v2 d2 F2 H2 r2 s2 k2 p2 => by
  cases (show d1 = .int i from r1)
  cases (show d2 = .int j from r2)
  cases p1
  cases p2
  refine ⟨i, j, rfl, rfl, _, rfl, ?_⟩
  cases h : decide (i ≤ j) with
  | false =>
    rw [if_neg Bool.false_ne_true]
    exact q _ _ F2 H2 (by rw [h]; rfl) (s1.trans s2) k2 (.bl false)
  | true =>
    rw [if_pos rfl]
    refine hc G F2 H2 σ _ k2 ((sl.mono s1).mono s2) fun v3 d3 F3 H3 r3 s3 k3 p3 => ?_
    cases (show d3 = .int k from r3)
    cases p3
    exact ⟨j, k, rfl, rfl, q _ _ F3 H3 (by rw [h, Bool.true_and]) ((s1.trans s2).trans s3) k3 (.bl _)⟩
section
variable {P : Program} {w : World} {K : PySem.W.Frag} {mg : Str → Option Value} {base : Heap}
abbrev NSpelled : List Str := ["value", "low", "high", "letter"]
theorem sc8 : FnScope NSpelled ["value", "low", "high"] (defScope (topS 8)) := ⟨rfl, rfl, rfl, by decide +kernel, rfl, by decide +kernel, by decide +kernel⟩
theorem Fun.b3 {x qual : Str} {st : Stmt} {f : Addr} {fd : FuncData} {a b c : Str} (F : Fun K x qual st f fd) (h : ∀ (kV doc pm : Value) (an : Option Addr) (cdv ct : Value) (us : List Value), us.length = 3 → bindArgs (PySem.W.fnOf x qual (defArgs st) (defBody st) (defScope st) .none kV doc pm an cdv ct) ⟨us, []⟩ = pure ([a, b, c].zip us)) : Binds K fd [a, b, c] [] :=
  F.binds (ps := [a, b, c]) h
/-- the letters spelled -/
def ASpelled : List D → (D → Prop) → Prop := fun ds R => ∃ z lo hi, ds = [sD z, .int lo, .int hi] ∧ Abc z ∧ lo ≤ z.length ∧ (z.length : Int) ≤ hi ∧ z.length ≤ 100 ∧ R = Is (.bool true)
theorem d_spelled {f : Addr} {fd : FuncData} (T : Tx mg) (F : Fun K "is_spelled" "is_spelled" (topS 8) f fd) (hmg : mg "is_spelled" = some (.ref f)) : Dn P w K mg base "is_spelled" 1 (PrP ASpelled) := by
  refine fn_D F sc8 hmg (F.binds (ps := ["value", "low", "high"]) fun _ _ _ _ _ _ us hl => match us, hl with | [_, _, _], _ => rfl) (by decide) ?_ ?_
  · rintro as M R M' ⟨rfl, rfl, ds, rfl, z, lo, hi, rfl, _⟩
    exact ⟨rfl, List.nodup_nil⟩
  · rintro cdv A outer s H E as M R M' hr ⟨rfl, rfl, ds, rfl, z, lo, hi, rfl, ha, h1, h2, h3, rfl⟩
    obtain ⟨tl, hl⟩ := T.letters
    refine db_one (ds_ret (R := Is (.bool true)) ?_ fun d r => ⟨r, by simp⟩)
    refine (de_and (p := true) (q := true) (de_isi (d := sD z) (T := "str") (k := true) (dv 0) T.isi T.str (hk := kit_ss)) fun _ => de_and (p := true) (q := true) ?_ fun _ => de_one ?_).is rfl
    · refine (de_chain (dv 1) (de_lenS (z := S z) (by rw [S_len]; omega) (dv 0) T.len) (dv 2)).is ?_
      rw [S_len, decide_eq_true h1, decide_eq_true h2]
      rfl
    · refine (de_all (bs := z.map fun _ => true) rfl (de_lc (RL := IsL (signs (S z))) rfl sc8.nd (di_str (dv 0)) (own := [("letter", 3)]) (blkOk_by (show blkC NSpelled (defScope (topS 8)) _ _ = true by decide +kernel)) fun ds e => ?_) T.all).is (by simp)
      cases e
      refine ⟨fun k acc => acc = (z.take k).map fun _ => D.bool true, rfl, fun k d acc q hd hI => ⟨?_, _, IsT true, fun s0 H0 C cl fp => ⟨dgc_name 3 sc8.nd, dts_nil, fun _ => ?_, fun h => by cases h⟩⟩, fun acc hI => ?_⟩
      · rw [hI, List.length_map, List.length_take]; omega
      · rw [S_signs, List.getElem?_map] at hd
        obtain ⟨c, hc, rfl⟩ := Option.map_eq_some_iff.mp hd
        refine (de_inSign (c' := c) (z := "abc") (dv 3) (de_gstr hl)).imp fun d r => ?_
        rw [show d = _ from r]
        have hm := ha c (List.mem_of_getElem? hc)
        have hin : c ∈ ("abc" : Str).cps.toList := by
          rw [S_abc]
          show c ∈ [97, 98, 99]
          simpa using hm
        show _ = _
        rw [hI, decide_eq_true hin, List.take_add_one, hc]
        simp
      · show Is _ _
        rw [hI]
        show D.list _ = D.list _
        rw [List.map_map, S_signs, List.length_map, List.take_length]
        rfl
end
end K59
namespace K59
open PySem PySem.Spec PyProof.Rows L2
structure CodeOk (C : List (List Nat)) : Prop where
  few : C.length ≤ 4
  pos : ∀ w ∈ C, 1 ≤ w.length
  short : ∀ w ∈ C, w.length ≤ 3
  abc : ∀ w ∈ C, Abc w
  nd : C.Nodup
abbrev cD (C : List (List Nat)) : D := .tup (C.map sD)
structure TextOk (z : List Nat) : Prop where
  abc : Abc z
  short : z.length ≤ 3
theorem kit_tt : kitB "tuple" "tuple" = some true := by decide +kernel
theorem noD_strs : ∀ C : List (List Nat), noDict (cD C) = true := fun C => rfl
section
variable {P : Program} {w : World} {K : PySem.W.Frag} {mg : Str → Option Value} {base : Heap}
abbrev NCode : List Str := ["value", "word", "at"]
theorem sc9 : FnScope NCode ["value"] (defScope (topS 9)) := ⟨rfl, rfl, rfl, by decide +kernel, rfl, by decide +kernel, by decide +kernel⟩
def ACode : List D → (D → Prop) → Prop := fun ds R => ∃ C, ds = [cD C] ∧ CodeOk C ∧ R = Is (.bool true)
theorem all_true {α : Type} (l : List α) : (l.map fun _ => true).all id = true := by simp
theorem d_code {f : Addr} {fd : FuncData} (T : Tx mg) (F : Fun K "is_code" "is_code" (topS 9) f fd) (hmg : mg "is_code" = some (.ref f)) (F8 : Dn P w K mg base "is_spelled" 1 (PrP ASpelled)) : Dn P w K mg base "is_code" 2 (PrP ACode) := by
  refine fn_D F sc9 hmg (F.binds (ps := ["value"]) fun _ _ _ _ _ _ us hl => match us, hl with | [_], _ => rfl) (by decide) ?_ ?_
  · rintro as M R M' ⟨rfl, rfl, ds, rfl, C, rfl, _⟩
    exact ⟨rfl, List.nodup_nil⟩
  · rintro cdv A outer s H E as M R M' hr ⟨rfl, rfl, ds, rfl, C, rfl, ok, rfl⟩
    obtain ⟨t1, h1⟩ := T.mw
    obtain ⟨t2, h2⟩ := T.lw
    have few := ok.few
    refine db_cons (ds_if (RB := IsT false) ((dt_or (p := false) (q := false) ((dt_not (p := true) (dt_val (de_isi (d := cD C) (T := "tuple") (k := true) (dv 0) T.isi T.tup (hk := kit_tt) (hd := rfl)))).imp fun b r => r) fun _ => ?_).imp fun b r => r) (fun h => by cases h) fun _ => db_nil ?_)
    · refine (dt_gt (de_lenT (dv 0) T.len) (de_gint h1)).imp fun b r => ?_
      rw [show b = _ from r]
      show decide _ = false
      rw [List.length_map]
      exact decide_eq_false (by omega)
    refine db_cons (ds_if (RB := IsT false) ((dt_not (p := true) (dt_val ((de_all (bs := C.map fun _ => true) rfl ?_ T.all).is (by simp)))).imp fun b r => r) (fun h => by cases h) fun _ => db_nil ?_)
    · refine de_lc (RL := IsL (C.map sD)) rfl sc9.nd (di_tup (dv 0)) (own := [("word", 1)]) (blkOk_by (show blkC NCode (defScope (topS 9)) _ _ = true by decide +kernel)) fun ds e => ?_
      cases e
      refine ⟨fun k acc => acc = (C.take k).map fun _ => D.bool true, rfl, fun k d acc q hd hI => ⟨?_, _, IsT true, fun s0 H0 C' cl fp => ⟨dgc_name 1 sc9.nd, dts_nil, fun _ => ?_, fun h => by cases h⟩⟩, fun acc hI => ?_⟩
      · rw [hI, List.length_map, List.length_take]; omega
      · rw [List.getElem?_map] at hd
        obtain ⟨u, hu, rfl⟩ := Option.map_eq_some_iff.mp hd
        have hm := List.mem_of_getElem? hu
        have p1 := ok.pos u hm
        have p2 := ok.short u hm
        refine (de_callF [sD u, .int 1, .int 5] F8 (hr.mono (by decide)) (da_cons (dv 1) (da_cons de_int (da_cons (de_gint h2) da_nil))) ⟨u, 1, 5, rfl, ok.abc u hm, by omega, by omega, by omega, rfl⟩).imp fun d r => ?_
        rw [show d = _ from r]
        show _ = _
        rw [hI, List.take_add_one, hu]
        simp
      · show D.list _ = D.list _
        rw [hI, List.length_map, List.take_length, List.map_map]
        rfl
    refine db_one (ds_ret (R := Is (.bool true)) ((de_all (bs := C.map fun _ => true) rfl ?_ T.all).is (by simp)) fun d r => ⟨r, by simp⟩)
    refine de_lc (RL := IsL (enumD 0 (C.map sD))) rfl sc9.nd (di_enumT (dv 0) T.enm) (own := [("at", 2), ("word", 1)]) (blkOk_by (show blkC NCode (defScope (topS 9)) _ _ = true by decide +kernel)) fun ds e => ?_
    cases e
    refine ⟨fun k acc => acc = (C.take k).map fun _ => D.bool true, rfl, fun k d acc q hd hI => ?_, fun acc hI => ?_⟩
    · obtain ⟨x, hx, rfl⟩ := enumD_get hd
      rw [List.getElem?_map] at hx
      obtain ⟨u, hu, rfl⟩ := Option.map_eq_some_iff.mp hx
      have hk := (List.getElem?_eq_some_iff.mp hu).1
      refine ⟨?_, _, IsT true, fun s0 H0 C' cl fp => ⟨dgc_two rfl (dgc_name 2 sc9.nd) (dgc_name 1 sc9.nd), dts_nil, fun _ => ?_, fun h => by cases h⟩⟩
      · rw [hI, List.length_map, List.length_take]; omega
      · refine (de_notInT (z := S u) (zs := (C.take k).map S) (dv 1) ((de_slT (l := none) (u := some ((0 + k : Nat) : Int)) ?_ (dv 0) do_none (do_some (dv 2))).is ?_)).imp fun d r => ?_
        · rw [HT.sIx_nat, HT.sIx_none, List.length_map]
          omega
        · rw [HT.sIx_nat, HT.sIx_none, List.drop_zero, List.length_map, List.map_map, show min (0 + k) C.length - 0 = k by omega, ← List.map_take]
          rfl
        · rw [show d = _ from r]
          show _ = _
          have hn : S u ∉ (C.take k).map S := fun hm => by
            obtain ⟨v, hv, e⟩ := List.mem_map.mp hm
            have := S_inj e
            subst this
            obtain ⟨j, hj⟩ := List.mem_iff_getElem?.mp hv
            have hjk : j < k := by
              have := (List.getElem?_eq_some_iff.mp hj).1
              rw [List.length_take] at this
              omega
            rw [List.getElem?_take, if_pos hjk] at hj
            have := (List.getElem?_inj (List.getElem?_eq_some_iff.mp hj).1 ok.nd).mp (hj.trans hu.symm)
            omega
          rw [decide_eq_false hn, hI, List.take_add_one, hu]
          simp
    · show D.list _ = D.list _
      rw [hI, enumD_len, List.length_map, List.take_length, List.map_map]
      rfl
abbrev NStr : List Str := ["value"]
theorem sc10 : FnScope NStr ["value"] (defScope (topS 10)) := ⟨rfl, rfl, rfl, by decide +kernel, rfl, by decide +kernel, by decide +kernel⟩
def AStr : List D → (D → Prop) → Prop := fun ds R => ∃ z, ds = [sD z] ∧ TextOk z ∧ R = Is (.bool true)
theorem d_string {f : Addr} {fd : FuncData} (T : Tx mg) (F : Fun K "is_string" "is_string" (topS 10) f fd) (hmg : mg "is_string" = some (.ref f)) (F8 : Dn P w K mg base "is_spelled" 1 (PrP ASpelled)) : Dn P w K mg base "is_string" 2 (PrP AStr) := by
  refine fn_D F sc10 hmg (F.binds (ps := ["value"]) fun _ _ _ _ _ _ us hl => match us, hl with | [_], _ => rfl) (by decide) ?_ ?_
  · rintro as M R M' ⟨rfl, rfl, ds, rfl, z, rfl, _⟩
    exact ⟨rfl, List.nodup_nil⟩
  · rintro cdv A outer s H E as M R M' hr ⟨rfl, rfl, ds, rfl, z, rfl, ok, rfl⟩
    obtain ⟨t2, h2⟩ := T.ls
    have sh := ok.short
    exact db_one (ds_ret (R := Is (.bool true)) (de_callF [sD z, .int 0, .int 24] F8 (hr.mono (by decide)) (da_cons (dv 0) (da_cons de_int (da_cons (de_gint h2) da_nil))) ⟨z, 0, 24, rfl, ok.abc, by omega, by omega, by omega, rfl⟩) fun d r => ⟨r, by simp⟩)
abbrev NCC : List Str := ["code"]
theorem sc14 : FnScope NCC ["code"] (defScope (topS 14)) := ⟨rfl, rfl, rfl, by decide +kernel, rfl, by decide +kernel, by decide +kernel⟩
def ACheck : List D → (D → Prop) → Prop := fun ds R => ∃ C, ds = [cD C] ∧ CodeOk C ∧ R = Is .none
theorem d_checkc {f : Addr} {fd : FuncData} (F : Fun K "check_code" "check_code" (topS 14) f fd) (hmg : mg "check_code" = some (.ref f)) (F9 : Dn P w K mg base "is_code" 2 (PrP ACode)) : Dn P w K mg base "check_code" 3 (PrP ACheck) := by
  refine fn_D F sc14 hmg (F.binds (ps := ["code"]) fun _ _ _ _ _ _ us hl => match us, hl with | [_], _ => rfl) (by decide) ?_ ?_
  · rintro as M R M' ⟨rfl, rfl, ds, rfl, C, rfl, _⟩
    exact ⟨rfl, List.nodup_nil⟩
  · rintro cdv A outer s H E as M R M' hr ⟨rfl, rfl, ds, rfl, C, rfl, ok, rfl⟩
    exact db_one (ds_if (RB := IsT false) ((dt_not (p := true) (dt_val (de_callF [cD C] F9 hr (da_cons (dv 0) da_nil) ⟨C, rfl, ok, rfl⟩))).imp fun b r => r) (fun h => by cases h) fun _ => db_nil ⟨rfl, by simp⟩)
abbrev NCS : List Str := ["code", "string"]
theorem sc15 : FnScope NCS ["code", "string"] (defScope (topS 15)) := ⟨rfl, rfl, rfl, by decide +kernel, rfl, by decide +kernel, by decide +kernel⟩
def ACheckS : List D → (D → Prop) → Prop := fun ds R => ∃ C z, ds = [cD C, sD z] ∧ CodeOk C ∧ TextOk z ∧ R = Is .none
theorem d_checks {f : Addr} {fd : FuncData} (F : Fun K "check_string" "check_string" (topS 15) f fd) (hmg : mg "check_string" = some (.ref f)) (F14 : Dn P w K mg base "check_code" 3 (PrP ACheck)) (F10 : Dn P w K mg base "is_string" 2 (PrP AStr)) : Dn P w K mg base "check_string" 4 (PrP ACheckS) := by
  refine fn_D F sc15 hmg (F.binds (ps := ["code", "string"]) fun _ _ _ _ _ _ us hl => match us, hl with | [_, _], _ => rfl) (by decide) ?_ ?_
  · rintro as M R M' ⟨rfl, rfl, ds, rfl, C, z, rfl, _⟩
    exact ⟨rfl, List.nodup_nil⟩
  · rintro cdv A outer s H E as M R M' hr ⟨rfl, rfl, ds, rfl, C, z, rfl, ok, zk, rfl⟩
    refine db_cons (ds_expr (R := Is .none) (de_callF [cD C] F14 hr (da_cons (dv 0) da_nil) ⟨C, rfl, ok, rfl⟩) ?_)
    exact db_one (ds_if (RB := IsT false) ((dt_not (p := true) (dt_val (de_callF [sD z] F10 (hr.mono (by decide)) (da_cons (dv 1) da_nil) ⟨z, rfl, zk, rfl⟩))).imp fun b r => r) (fun h => by cases h) fun _ => db_nil ⟨rfl, by simp⟩)
end
end K59
namespace K59
open PySem PySem.Spec PyProof.Rows L2
def stD : St → D
  | none => .none
  | some (n, r) => .tup [.int (n : Nat), .int (r : Nat)]
def stK : St → NestedKey
  | none => .none
  | some (n, r) => .tup [.num (n : Nat), .num (r : Nat)]
theorem st_kd (s : St) : stD s = kd (stK s) := by
  cases s with
  | none => rfl
  | some p => rfl
theorem stK_inj {s t : St} (h : stK s = stK t) : s = t := by
  cases s with
  | none => cases t with
    | none => rfl
    | some q => cases h
  | some p => cases t with
    | none => cases h
    | some q =>
      obtain ⟨a, b⟩ := p
      obtain ⟨c, d⟩ := q
      simp only [stK, NestedKey.tup.injEq, List.cons.injEq, NestedKey.num.injEq, and_true] at h
      rw [show a = c by omega, show b = d by omega]
theorem stK_depth (s : St) : (stK s).depth ≤ 8 := by
  cases s with
  | none => decide
  | some p => simp [stK, NestedKey.depth, NestedKey.depthAll]
theorem st_none (s : St) : (stD s).isNone = s.isNone := by
  cases s with
  | none => rfl
  | some p => rfl
theorem de_pair {X : Cx} {Γ : Gam} {M : Mem} {a b : Expr} {d1 d2 : D} {k : Nat} {pos : Pos} (ha : DE X Γ M a (Is d1)) (hb : DE X Γ M b (Is d2)) (hs : starEach [a, b] X.env = (false, eval a X.env) :: starEach [b] X.env := by rfl) (hs2 : starEach [b] X.env = (false, eval b X.env) :: starEach [] X.env := by rfl) : DE X Γ M (.Tuple [a, b] k pos) (Is (.tup [d1, d2])) :=
  de_tup (da_cons ha (da_cons hb da_nil hs2) hs) rfl (by show 2 ≤ 100000; decide)
theorem de_triple {X : Cx} {Γ : Gam} {M : Mem} {a b c : Expr} {d1 d2 d3 : D} {k : Nat} {pos : Pos} (ha : DE X Γ M a (Is d1)) (hb : DE X Γ M b (Is d2)) (hc : DE X Γ M c (Is d3)) (hs : starEach [a, b, c] X.env = (false, eval a X.env) :: starEach [b, c] X.env := by rfl) (hs2 : starEach [b, c] X.env = (false, eval b X.env) :: starEach [c] X.env := by rfl) (hs3 : starEach [c] X.env = (false, eval c X.env) :: starEach [] X.env := by rfl) : DE X Γ M (.Tuple [a, b, c] k pos) (Is (.tup [d1, d2, d3])) :=
  de_tup (da_cons ha (da_cons hb (da_cons hc da_nil hs3) hs2) hs) rfl (by show 3 ≤ 100000; decide)
section
variable {P : Program} {w : World} {K : PySem.W.Frag} {mg : Str → Option Value} {base : Heap}
abbrev NSts : List Str := ["code", "found", "number", "word", "read"]
theorem sc11 : FnScope NSts ["code"] (defScope (topS 11)) := ⟨rfl, rfl, rfl, by decide +kernel, rfl, by decide +kernel, by decide +kernel⟩
def AStates : List D → (D → Prop) → Prop := fun ds R => ∃ C, ds = [cD C] ∧ CodeOk C ∧ R = Is (.list ((states C).map stD))
theorem inners_len : ∀ (l : List (List Nat)) (n : Nat), (∀ w ∈ l, w.length ≤ 3) → ((l.zipIdx n).flatMap inner).length ≤ 2 * l.length := by
  intro l
  induction l with
  | nil => intro n _; simp
  | cons u l ih =>
    intro n hh
    rw [List.zipIdx_cons, List.flatMap_cons, List.length_append, List.length_cons]
    have h1 := ih (n + 1) fun w hw => hh w (List.mem_cons_of_mem _ hw)
    have h2 := hh u List.mem_cons_self
    have h3 : (inner (u, n)).length = u.length - 1 := by simp [inner]
    omega
theorem states_len {C : List (List Nat)} (h : CodeOk C) : (states C).length ≤ 9 := by
  unfold states
  have h1 := inners_len C 0 h.short
  have h2 := h.few
  rw [List.length_cons]
  omega
theorem d_states {f : Addr} {fd : FuncData} (T : Tx mg) (F : Fun K "states_of" "states_of" (topS 11) f fd) (hmg : mg "states_of" = some (.ref f)) : Dn P w K mg base "states_of" 1 (PrP AStates) := by
  refine fn_D F sc11 hmg (F.binds (ps := ["code"]) fun _ _ _ _ _ _ us hl => match us, hl with | [_], _ => rfl) (by decide) ?_ ?_
  · rintro as M R M' ⟨rfl, rfl, ds, rfl, C, rfl, _⟩
    exact ⟨rfl, List.nodup_nil⟩
  · rintro cdv A outer s H E as M R M' hr ⟨rfl, rfl, ds, rfl, C, rfl, ok, rfl⟩
    refine db_cons (ds_setM 1 (dm_list (da_cons de_non da_nil)) (fun q o ho => ?_) sc11.nd)
    cases ho
    refine db_cons (ds_for (di_enumT (dv 0) T.enm) (fun ds e => ?_) rfl PassesOwn.never)
    cases e
    refine ⟨fun k Γ M => ∃ x y, Γ = [.dat (cD C), .ptr q, x, y, .any] ∧ M = [(q, .ls ((none :: (C.take k).zipIdx.flatMap inner).map stD))], ⟨_, _, rfl, rfl⟩, ?_, ?_⟩
    · rintro k d Γ1 M1 hd ⟨x, y, rfl, rfl⟩
      obtain ⟨v, hv, rfl⟩ := enumD_get hd
      rw [List.getElem?_map] at hv
      obtain ⟨u, hu, rfl⟩ := Option.map_eq_some_iff.mp hv
      have hsh := ok.short u (List.mem_of_getElem? hu)
      refine ⟨_, dg_two rfl (dg_name 2 sc11.nd) (dg_name 3 sc11.nd), db_one (ds_extend 0 (Rl := Is (.list ((inner (u, k)).map stD))) (dp 1) ?_ fun d hd => ⟨_, hd, ?_, ?_⟩)⟩
      · refine de_lc (RL := IsL (rgD 1 u.length)) rfl sc11.nd (di_rg2 de_int (de_lenS (z := S u) (by rw [S_len]; omega) (dv 3) T.len) (RgOk.of_le (by decide) (by show (u.length : Int) ≤ _; omega) (by decide) (by show (0 : Int) ≤ u.length; omega)) T.rng) (own := [("read", 4)]) (blkOk_by (show blkC NSts (defScope (topS 11)) _ _ = true by decide +kernel)) fun ds e => ?_
        cases e
        refine ⟨fun j acc => acc = ((inner (u, k)).map stD).take j, rfl, fun j d acc q' hd hI => ?_, fun acc hI => ?_⟩
        · unfold rgD at hd
          rw [List.getElem?_map] at hd
          obtain ⟨i, h1, rfl⟩ := Option.map_eq_some_iff.mp hd
          obtain ⟨h2, h3⟩ := List.getElem?_eq_some_iff.mp h1
          rw [List.length_range] at h2
          rw [List.getElem_range] at h3
          subst h3
          refine ⟨?_, _, IsT true, fun s0 H0 C' cl fp => ⟨dgc_name 4 sc11.nd, dts_nil, fun _ => ?_, fun h => by cases h⟩⟩
          · rw [hI, List.length_take]; omega
          · refine (de_pair (dv 2) (dv 4)).imp fun d r => ?_
            rw [show d = _ from r]
            show _ = _
            rw [hI, List.take_add_one]
            have : ((inner (u, k)).map stD)[j]? = some (.tup [.int ((0 + k : Nat) : Int), .int (1 + (j : Nat))]) := by
              rw [List.getElem?_map, inner, List.getElem?_map, List.getElem?_range' (by show j < u.length - 1; omega)]
              show some (stD (some (k, 1 + 1 * j))) = _
              simp only [stD]
              rw [show ((1 + 1 * j : Nat) : Int) = 1 + (j : Int) by omega, show 0 + k = k by omega]
            rw [this]
            rfl
        · show D.list _ = D.list _
          rw [hI, List.take_of_length_le]
          simp [rgD, inner, S_len]
      · simp only [List.length_map, List.length_cons]
        have h1 := inners_len (C.take k) 0 fun w hw => ok.short w (List.mem_of_mem_take hw)
        have h2 := ok.few
        rw [List.length_take] at h1
        have h3 : (inner (u, k)).length = u.length - 1 := by simp [inner]
        omega
      · refine ⟨_, _, rfl, ?_⟩
        rw [zip_snoc C k u hu, List.flatMap_append, List.flatMap_singleton]
        simp
    · rintro Γ1 M1 ⟨x, y, rfl, rfl⟩
      refine db_one (ds_retL 1 0 (dp 1) ⟨?_, by simp⟩)
      rw [enumD_len, List.length_map, List.take_length]
      rfl
end
end K59
namespace K59
open PySem PySem.Spec PyProof.Rows L2
def pst : St → PyData
  | none => .none
  | some (n, r) => .tuple [.int (n : Nat), .int (r : Nat)]
theorem py_st (s : St) : py (stD s) = some (pst s) := by
  cases s with
  | none => rfl
  | some p => rfl
theorem pys_st : ∀ l : List St, pys (l.map stD) = some (l.map pst)
  | [] => rfl
  | s :: l => by
    rw [List.map_cons, pys, py_st, pys_st l]
    rfl
theorem pst_shape (s : St) : (pst s).canLay0 = true ∧ (pst s).depth ≤ 1 := by
  cases s with
  | none => exact ⟨rfl, by decide⟩
  | some p => exact ⟨by simp [pst, PyData.canLay0, PyData.canLayAll0], by simp [pst, PyData.depth, PyData.depthAll]⟩
theorem psts_shape : ∀ l : List St, PyData.canLayAll0 (l.map pst) = true ∧ PyData.depthAll (l.map pst) ≤ 1
  | [] => ⟨rfl, by simp [PyData.depthAll]⟩
  | s :: l => by
    obtain ⟨h1, h2⟩ := pst_shape s
    obtain ⟨h3, h4⟩ := psts_shape l
    refine ⟨by rw [List.map_cons, PyData.canLayAll0, h1, h3]; rfl, ?_⟩
    rw [List.map_cons, PyData.depthAll]
    omega
theorem shaped_sts (l : List St) : SeqAt.shaped (.list (l.map pst)) = true := by
  obtain ⟨h3, h4⟩ := psts_shape l
  unfold SeqAt.shaped
  rw [PyData.canLay0, h3, PyData.depth, decide_eq_true (by omega)]
  rfl
theorem any_none (l : List St) : ((l.map pst).any fun z => PyData.eqv z .none) = decide (none ∈ l) := by
  induction l with
  | nil => rfl
  | cons s l ih =>
    rw [List.map_cons, List.any_cons, ih]
    cases s with
    | none => simp [pst, PyData.eqv]
    | some p => simp [pst, PyData.eqv]
section
variable {P : Program} {w : World} {K : PySem.W.Frag} {mg : Str → Option Value} {base : Heap}
abbrev NBeh : List Str := ["code", "number", "read"]
theorem sc12 : FnScope NBeh ["code", "number", "read"] (defScope (topS 12)) := ⟨rfl, rfl, rfl, by decide +kernel, rfl, by decide +kernel, by decide +kernel⟩
def ABehind : List D → (D → Prop) → Prop := fun ds R => ∃ C n r u, ds = [cD C, .int ((n : Nat) : Int), .int ((r : Nat) : Int)] ∧ C[n]? = some u ∧ u.length ≤ 3 ∧ R = Is (stD (behind C n r))
theorem cD_at {C : List (List Nat)} {n : Nat} {u : List Nat} (h : C[n]? = some u) : atI (C.map sD) (n : Int) = some (sD u) := atI_nat (by rw [List.getElem?_map, h]; rfl)
theorem S_at {u : List Nat} {n c : Nat} (h : u[n]? = some c) : atI (S u).cps.toList (n : Int) = some c := atI_nat (by simpa [S] using h)
theorem d_behind {f : Addr} {fd : FuncData} (T : Tx mg) (F : Fun K "behind" "behind" (topS 12) f fd) (hmg : mg "behind" = some (.ref f)) : Dn P w K mg base "behind" 1 (PrP ABehind) := by
  refine fn_D F sc12 hmg (F.binds (ps := ["code", "number", "read"]) fun _ _ _ _ _ _ us hl => match us, hl with | [_, _, _], _ => rfl) (by decide) ?_ ?_
  · rintro as M R M' ⟨rfl, rfl, ds, rfl, C, n, r, u, rfl, _⟩
    exact ⟨rfl, List.nodup_nil⟩
  · rintro cdv A outer s H E as M R M' hr ⟨rfl, rfl, ds, rfl, C, n, r, u, rfl, hu, hl, rfl⟩
    refine db_one (ds_ret (R := Is (stD (behind C n r))) (de_if (dt_eqI (dv 2) (de_lenS (z := S u) (by rw [S_len]; omega) (de_ixT (cD_at hu) (dv 0) (dv 1)) T.len)) (fun h => de_non.is ?_) fun h => (de_pair (dv 1) (dv 2)).is ?_) fun d r => ⟨r, by simp⟩)
    · have h := of_decide_eq_true h
      rw [S_len] at h
      unfold behind
      rw [word_at hu, if_pos (by omega)]
      rfl
    · have h := of_decide_eq_false h
      rw [S_len] at h
      unfold behind
      rw [word_at hu, if_neg (by omega)]
      rfl
abbrev NNext : List Str := ["code", "state", "letter", "number", "read", "found", "word", "one"]
theorem sc13 : FnScope NNext ["code", "state", "letter"] (defScope (topS 13)) := ⟨rfl, rfl, rfl, by decide +kernel, rfl, by decide +kernel, by decide +kernel⟩
def ANext : List D → (D → Prop) → Prop := fun ds R => ∃ C s c, ds = [cD C, stD s, sD [c]] ∧ CodeOk C ∧ s ∈ states C ∧ R = Is (.list ((nexts C s c).map stD))
theorem sign_eq {a c : Nat} : ((⟨#[a]⟩ : Str) = S [c]) ↔ a = c := ⟨fun h => by
  have := S_inj (y := [a]) h
  simpa using this, fun h => by rw [h]; rfl⟩
theorem filter_snoc (l : List St) (k : Nat) (s : St) (h : l[k]? = some s) : (l.take (k + 1)).filter Option.isSome = (l.take k).filter Option.isSome ++ if s.isSome then [s] else [] := by
  rw [List.take_add_one, h, List.filter_append]
  cases s <;> rfl
theorem d_next {f : Addr} {fd : FuncData} (T : Tx mg) (F : Fun K "next_states" "next_states" (topS 13) f fd) (hmg : mg "next_states" = some (.ref f)) (F12 : Dn P w K mg base "behind" 1 (PrP ABehind)) : Dn P w K mg base "next_states" 2 (PrP ANext) := by
  refine fn_D F sc13 hmg (F.binds (ps := ["code", "state", "letter"]) fun _ _ _ _ _ _ us hl => match us, hl with | [_, _, _], _ => rfl) (by decide) ?_ ?_
  · rintro as M R M' ⟨rfl, rfl, ds, rfl, C, n, c, rfl, _⟩
    exact ⟨rfl, List.nodup_nil⟩
  · rintro cdv A outer s H E as M R M' hr ⟨rfl, rfl, ds, rfl, C, st, c, rfl, ok, hs, rfl⟩
    have few := ok.few
    refine db_cons (ds_if (RB := IsT (!(stD st).isNone)) (dt_notN (dv 1) de_non) (fun h => ?_) fun h => db_nil ?_)
    · rcases mem_states.mp hs with e | ⟨n, r, u, rfl, hu, h1, h2⟩
      · subst e
        cases h
      refine db_cons (ds_asg (d := .tup [.int (n : Nat), .int (r : Nat)]) (dv 1) (dg_two rfl (dg_name 3 sc13.nd) (dg_name 4 sc13.nd)) ?_)
      have hsh := ok.short u (List.mem_of_getElem? hu)
      have hcr : u[r]? = some u[r] := List.getElem?_eq_getElem h2
      refine db_one (ds_ret (R := Is (.list ((nexts C (some (n, r)) c).map stD))) (de_if (dt_eqS (de_ixS (z := S u) (by rw [S_len]; omega) (S_at hcr) (de_ixT (cD_at hu) (dv 0) (dv 3)) (dv 4)) (dv 2)) (fun h => (de_list (da_cons (de_callF (R := Is (stD (behind C n (r + 1)))) [cD C, .int (n : Nat), .int ((r + 1 : Nat) : Int)] F12 hr (da_cons (dv 0) (da_cons (dv 3) (da_cons ((de_add (dv 4) de_int).is (by simp)) da_nil))) ⟨C, n, r + 1, u, rfl, hu, hsh, rfl⟩) da_nil) rfl (by show 1 ≤ 100000; decide)).is ?_) fun h => (de_list da_nil rfl (by show 0 ≤ 100000; decide)).is ?_) fun d r => ⟨r, by simp⟩)
      · have h := sign_eq.mp (of_decide_eq_true h)
        rw [nexts_some, word_at hu, if_pos (by rw [hcr, h])]
        rfl
      · have h := fun e => of_decide_eq_false h (sign_eq.mpr e)
        rw [nexts_some, word_at hu, if_neg (fun e => h (by rw [hcr] at e; exact Option.some.inj e))]
        rfl
    · have e : st = none := by
        cases st with
        | none => rfl
        | some p =>
          have h : false = !(stD (some p)).isNone := h
          simp [stD, D.isNone] at h
      subst e
      refine db_cons (ds_setLc 5 (RL := IsL (enumD 0 (C.map sD))) rfl sc13.nd (di_enumT (dv 0) T.enm) (own := [("number", 3), ("word", 6)]) (blkOk_by (show blkC NNext (defScope (topS 13)) _ _ = true by decide +kernel)) fun ds e => ?_)
      cases e
      refine ⟨fun k acc => acc = ((C.take k).zipIdx.flatMap (opens C c)).map stD, rfl, fun k d acc q hd hI => ?_, fun acc hI => ?_⟩
      · obtain ⟨v, hv, rfl⟩ := enumD_get hd
        rw [List.getElem?_map] at hv
        obtain ⟨u, hu, rfl⟩ := Option.map_eq_some_iff.mp hv
        have hm := List.mem_of_getElem? hu
        have hsh := ok.short u hm
        have hps := ok.pos u hm
        have h0 : u[0]? = some u[0] := List.getElem?_eq_getElem (by omega)
        rw [show 0 + k = k by omega]
        refine ⟨?_, _, _, fun s0 H0 C' cl fp => ⟨dgc_two rfl (dgc_name 3 sc13.nd) (dgc_name 6 sc13.nd), dts_one (dt_eqS (de_ixS (z := S u) (by rw [S_len]; omega) (S_at (n := 0) h0) (dv 6) de_int) (dv 2)), fun h => ?_, fun h => ?_⟩⟩
        · have : ∀ l : List (List Nat × Nat), (l.flatMap (opens C c)).length ≤ l.length := by
            intro l
            induction l with
            | nil => exact Nat.le_refl _
            | cons p l ih =>
              rw [List.flatMap_cons, List.length_append, List.length_cons]
              have : (opens C c p).length ≤ 1 := by
                unfold opens
                split
                · exact Nat.le_refl _
                · exact Nat.zero_le _
              omega
          have h1 := this (C.take k).zipIdx
          rw [List.length_zipIdx, List.length_take] at h1
          rw [hI, List.length_map]
          omega
        · have h := sign_eq.mp (of_decide_eq_true h.symm)
          refine (de_callF (R := Is (stD (behind C k 1))) [cD C, .int (k : Nat), .int ((1 : Nat) : Int)] F12 hr (da_cons (dv 0) (da_cons (dv 3) (da_cons de_int da_nil))) ⟨C, k, 1, u, rfl, hu, hsh, rfl⟩).imp fun d r => ?_
          rw [show d = _ from r]
          show _ = _
          rw [hI, zip_snoc C k u hu, List.flatMap_append, List.flatMap_singleton, opens, if_pos (by rw [h0, h])]
          simp
        · have h := fun e => of_decide_eq_false h.symm (sign_eq.mpr e)
          show _ = _
          rw [hI, zip_snoc C k u hu, List.flatMap_append, List.flatMap_singleton, opens, if_neg (fun e => h (by rw [h0] at e; exact Option.some.inj e))]
          simp
      · rw [enumD_len, List.length_map, List.take_length] at hI
        have hI : acc = (firsts C c).map stD := hI
        subst hI
        have fl := firsts_len (C := C) (c := c)
        refine db_one (ds_ret (R := Is (.list ((nexts C none c).map stD))) ?_ fun d r => ⟨r, by simp⟩)
        refine (de_cat ?_ (de_rep (k := if none ∈ firsts C c then 1 else 0) ?_ ?_ (dm_list (da_cons de_non da_nil)) fun M => ?_) (de_lc (R := Is (.list (((firsts C c).filter Option.isSome).map stD))) (RL := IsL ((firsts C c).map stD)) rfl sc13.nd (di_L (dv 5)) (own := [("one", 7)]) (blkOk_by (show blkC NNext (defScope (topS 13)) _ _ = true by decide +kernel)) fun ds e => ?_)).is ?_
        · have h2 := List.length_filter_le Option.isSome (firsts C c)
          rw [List.length_map]
          split
          · simp; omega
          · simp; omega
        · show 1 * _ ≤ _
          split <;> omega
        · split <;> omega
        · refine (de_intB ((de_inD (p1 := .none) (ps := (firsts C c).map pst) (hu_r hr) rfl (pys_st _) (by decide) (shaped_sts _) de_non (dv 5)).is (congrArg D.bool (any_none _))) T.int).is ?_
          by_cases h : none ∈ firsts C c
          · rw [decide_eq_true h, if_pos h]; rfl
          · rw [decide_eq_false h, if_neg h]; rfl
        · cases e
          refine ⟨fun k acc => acc = (((firsts C c).take k).filter Option.isSome).map stD, rfl, fun k d acc q hd hI => ?_, fun acc hI => ?_⟩
          · rw [List.getElem?_map] at hd
            obtain ⟨t, ht, rfl⟩ := Option.map_eq_some_iff.mp hd
            refine ⟨?_, _, _, fun s0 H0 C' cl fp => ⟨dgc_name 7 sc13.nd, dts_one (dt_notN (dv 7) de_non), fun h => ?_, fun h => ?_⟩⟩
            · have h2 := List.length_filter_le Option.isSome ((firsts C c).take k)
              rw [List.length_take] at h2
              rw [hI, List.length_map]
              omega
            · refine (dv 7).imp fun d r => ?_
              rw [show d = _ from r]
              show _ = _
              rw [hI, filter_snoc _ _ _ ht]
              have h : true = !(stD t).isNone := h
              rw [st_none] at h
              cases t with
              | none => cases h
              | some p => simp
            · show _ = _
              rw [hI, filter_snoc _ _ _ ht]
              have h : false = !(stD t).isNone := h
              rw [st_none] at h
              cases t with
              | none => simp
              | some p => cases h
          · show D.list _ = D.list _
            rw [hI, List.length_map, List.take_length]
        · rw [nexts_none]
          show D.list _ = D.list _
          rw [List.map_append]
          split <;> rfl
end
end K59
namespace K59
open PySem PySem.Spec PyProof.Rows L2
/-! ### rows as dicts -/
def pD (v : Nat × Nat) : D := .tup [.int (v.1 : Nat), .int (v.2 : Nat)]
def rowK (Q : List St) (f : Row) : List (NestedKey × D) := Q.map fun s => (stK s, pD (f s))
theorem rowK_keys (Q : List St) (f : Row) : (rowK Q f).map (·.1) = Q.map stK := by unfold rowK; rw [List.map_map]; rfl
theorem row_put {f : Row} {s : St} {v : Nat × Nat} : ∀ {Q : List St}, s ∈ Q → Q.Nodup → dput (stK s) (pD v) (rowK Q f) = rowK Q (fset f s v)
  | [], h, _ => by simp at h
  | t :: Q, h, nd => by
    obtain ⟨n1, n2⟩ := List.nodup_cons.mp nd
    show dput (stK s) (pD v) ((stK t, pD (f t)) :: rowK Q f) = (stK t, pD (fset f s v t)) :: rowK Q (fset f s v)
    unfold dput
    by_cases e : t = s
    · subst e
      rw [if_pos rfl]
      have e1 : fset f t v t = v := if_pos rfl
      have e2 : rowK Q (fset f t v) = rowK Q f := by
        unfold rowK
        apply List.map_congr_left
        intro a ha
        have : fset f t v a = f a := if_neg fun (z : a = t) => n1 (by rw [← z]; exact ha)
        rw [this]
      rw [e1, e2]
    · rw [if_neg (fun z => e (stK_inj z)), row_put ((List.mem_cons.mp h).elim (fun z => absurd z.symm e) id) n2]
      have e1 : fset f s v t = f t := if_neg e
      rw [e1]
theorem row_look {f : Row} {s : St} : ∀ {Q : List St}, s ∈ Q → dlook (stK s) (rowK Q f) = some (pD (f s))
  | [], h => by simp at h
  | t :: Q, h => by
    show dlook (stK s) ((stK t, pD (f t)) :: rowK Q f) = _
    unfold dlook
    by_cases e : t = s
    · subst e
      rw [if_pos rfl]
    · rw [if_neg (fun z => e (stK_inj z)), row_look ((List.mem_cons.mp h).elim (fun z => absurd z.symm e) id)]
theorem row_new {f : Row} {Q : List St} {k : Nat} {s : St} (h : Q[k]? = some s) (nd : Q.Nodup) : dput (stK s) (pD (f s)) (rowK (Q.take k) f) = rowK (Q.take (k + 1)) f := by
  rw [dput_new, List.take_add_one, h]
  · simp [rowK]
  · rw [rowK_keys]
    intro hm
    obtain ⟨t, ht, e⟩ := List.mem_map.mp hm
    have := stK_inj e
    subst this
    obtain ⟨j, hj⟩ := List.mem_iff_getElem?.mp ht
    have hjk : j < k := by
      have := (List.getElem?_eq_some_iff.mp hj).1
      rw [List.length_take] at this
      omega
    rw [List.getElem?_take, if_pos hjk] at hj
    have := (List.getElem?_inj (List.getElem?_eq_some_iff.mp hj).1 nd).mp (hj.trans h.symm)
    omega
theorem states_nd (C : List (List Nat)) : (states C).Nodup := by
  unfold states
  have key : ∀ (l : List (List Nat)) (n : Nat), ((l.zipIdx n).flatMap inner).Nodup ∧ ∀ s ∈ (l.zipIdx n).flatMap inner, ∃ m r, s = some (m, r) ∧ n ≤ m := by
    intro l
    induction l with
    | nil => intro n; exact ⟨by simp, fun s hs => by simp at hs⟩
    | cons u l ih =>
      intro n
      obtain ⟨h1, h2⟩ := ih (n + 1)
      rw [List.zipIdx_cons, List.flatMap_cons]
      refine ⟨List.nodup_append.mpr ⟨?_, h1, fun a ha b hb e => ?_⟩, fun s hs => ?_⟩
      · unfold inner
        exact (List.nodup_range' (step := 1)).map _ (fun a b hab h => hab (by cases h; rfl))
      · obtain ⟨r, h3, _⟩ := mem_inner.mp ha
        obtain ⟨m, r', h4, h5⟩ := h2 b hb
        subst e
        rw [h3] at h4
        cases h4
        exact absurd h5 (by show ¬ n + 1 ≤ n; omega)
      · rcases List.mem_append.mp hs with h | h
        · obtain ⟨r, h3, _⟩ := mem_inner.mp h
          exact ⟨n, r, h3, Nat.le_refl _⟩
        · obtain ⟨m, r, h3, h4⟩ := h2 s h
          exact ⟨m, r, h3, by omega⟩
  obtain ⟨h1, h2⟩ := key C 0
  refine List.nodup_cons.mpr ⟨fun h => ?_, h1⟩
  obtain ⟨m, r, h3, _⟩ := h2 _ h
  cases h3
theorem rowK_len (Q : List St) (f : Row) : (rowK Q f).length = Q.length := by simp [rowK]
section
variable {X : Cx} {Γ : Gam} {M : Mem} {a b : Expr} {x : Str} {pos p : Pos}
theorem de_minP {u v : Nat × Nat} (hc : X.calm = true) (hu : X.A.units + 64 < cLine) (ha : DE X Γ M a (Is (pD u))) (hb : DE X Γ M b (Is (pD v))) (hm : X.mg x = none)
    (hg : Gl X x := by rfl) (hv : bootBuiltins x = some (.builtin "min") := by decide +kernel) (hn : x ≠ "__name__" := by decide) (hdb : (x == ("__debug__" : Str)) = false := by decide) (hs1 : starEach [a, b] X.env = (false, eval a X.env) :: starEach [b] X.env := by rfl) (hs2 : starEach [b] X.env = (false, eval b X.env) :: starEach [] X.env := by rfl) (hpl : (backTo pos (starEach [b] X.env)).any (·.1) = false := by rfl) :
    DE X Γ M (.Call (.Name x p) [a, b] [] pos) (Is (pD (pmin u v))) :=
  (de_min2 (p1 := .tuple [.int (u.1 : Nat), .int (u.2 : Nat)]) (p2 := .tuple [.int (v.1 : Nat), .int (v.2 : Nat)]) hc hu rfl rfl ⟨fun x hx y hy => by
    simp only [List.mem_cons, List.not_mem_nil, or_false] at hx hy
    rcases hx with rfl | rfl <;> rcases hy with rfl | rfl <;> simp [PySem.W.alike, PySem.W.alikeAll], fun x hx => by
    simp only [List.mem_cons, List.not_mem_nil, or_false] at hx
    rcases hx with rfl | rfl <;> simp⟩ (by simp [PyData.depthAll, PyData.depth]) ha hb hm hg hv hn hdb hs1 hs2 hpl).is (by
    rw [PySem.W.dataLt_ii]
    unfold pmin
    by_cases h : v.1 < u.1 ∨ (v.1 = u.1 ∧ v.2 < u.2)
    · rw [if_pos h, if_pos (decide_eq_true (by omega))]
    · rw [if_neg h, if_neg (by rw [decide_eq_true_eq]; omega)])
end
theorem db_seq {X : Cx} {Γ : Gam} {M : Mem} {st : Stmt} {sts : List Stmt} {P : Post} (mid : Gam → Mem → Prop) (h : DS X Γ M st { P with nx := mid }) (k : ∀ Γ' M', mid Γ' M' → DB X Γ' M' sts P) : DB X Γ M (st :: sts) P :=
  db_cons fun G F H σ D ok sl W => h G F H σ D ok sl ⟨fun Γ' M' F' H' σ' p => W.nx Γ' M' F' H' σ' (k Γ' M' p), W.rt, W.bk, W.ct⟩
def mvD (m : Move) : D := .tup [.int (m.1 : Nat), .int (m.2.1 : Nat), .tup [.int (m.2.2.1 : Nat), stD m.2.2.2]]
theorem movesBy_len {C : List (List Nat)} {z : List Nat} {at_ c : Nat} (l : St) : (movesBy C z at_ c l).length ≤ 2 := by
  unfold movesBy
  split <;> simp
theorem movesOf_len {C : List (List Nat)} {z : List Nat} {at_ c : Nat} (l : List St) : (l.flatMap (movesBy C z at_ c)).length ≤ 2 * l.length := by
  induction l with
  | nil => simp
  | cons s l ih =>
    have := movesBy_len (C := C) (z := z) (at_ := at_) (c := c) s
    rw [List.flatMap_cons, List.length_append, List.length_cons]
    omega
section
variable {P : Program} {w : World} {K : PySem.W.Frag} {mg : Str → Option Value} {base : Heap}
abbrev NMov : List Str := ["code", "string", "at", "state", "found", "letter", "later"]
theorem sc19 : FnScope NMov ["code", "string", "at", "state"] (defScope (topS 19)) := ⟨rfl, rfl, rfl, by decide +kernel, rfl, by decide +kernel, by decide +kernel⟩
def AMoves : List D → (D → Prop) → Prop := fun ds R => ∃ C z n s, ds = [cD C, sD z, .int ((n : Nat) : Int), stD s] ∧ CodeOk C ∧ TextOk z ∧ s ∈ states C ∧ R = Is (.list ((moves C z n s).map mvD))
theorem d_moves {f : Addr} {fd : FuncData} (T : Tx mg) (F : Fun K "moves_at" "moves_at" (topS 19) f fd) (hmg : mg "moves_at" = some (.ref f)) (F13 : Dn P w K mg base "next_states" 2 (PrP ANext)) : Dn P w K mg base "moves_at" 3 (PrP AMoves) := by
  refine fn_D F sc19 hmg (F.binds (ps := ["code", "string", "at", "state"]) fun _ _ _ _ _ _ us hl => match us, hl with | [_, _, _, _], _ => rfl) (by decide) ?_ ?_
  · rintro as M R M' ⟨rfl, rfl, ds, rfl, C, z, n, st, rfl, _⟩
    exact ⟨rfl, List.nodup_nil⟩
  · rintro cdv A outer s H E as M R M' hr ⟨rfl, rfl, ds, rfl, C, z, n, st, rfl, ok, zk, hs, rfl⟩
    obtain ⟨tl, hl⟩ := T.every
    have zs := zk.short
    have few := ok.few
    refine db_cons (ds_setM 4 (dm_list da_nil) (fun q o ho => ?_) sc19.nd)
    cases ho
    have hlt : ∀ {Γ : Gam} {M : Mem} {p1 p2 p3 p4 p5 : Pos} (h1 : Γ[1]? = some (.dat (sD z))) (h2 : Γ[2]? = some (.dat (.int (n : Nat)))), DT (FX P w K mg base NMov "moves_at" (defScope (topS 19)) f cdv A outer s H E) Γ M (.Compare (.Name "at" p1) [.Lt] [.Call (.Name "len" p2) [.Name "string" p3] [] p4] p5) (IsT (decide (n < z.length))) := by
      intro Γ M p1 p2 p3 p4 p5 h1 h2
      refine (dt_lt (dv 2 h2) (de_lenS (z := S z) (by rw [S_len]; omega) (dv 1 h1) T.len)).imp fun b r => ?_
      rw [show b = _ from r, S_len]
      show decide _ = decide _
      simp
    refine db_seq (fun Γ M => Γ = [.dat (cD C), .dat (sD z), .dat (.int (n : Nat)), .dat (stD st), .ptr q, .any, .any] ∧ M = [(q, .ls ((if n < z.length then [((1, 0, n + 1, st) : Move)] else []).map mvD))]) (ds_if (hlt rfl rfl) (fun h => ?_) fun h => ?_) ?_
    · have h := of_decide_eq_true h.symm
      refine db_one (ds_append (ds := []) 0 (dp 4) (de_triple de_int de_int (de_pair (de_add (dv 2) de_int) (dv 3))) (by show 0 < 100000; decide) fun d hd => ⟨rfl, ?_⟩)
      rw [show d = _ from hd, if_pos h]
      rfl
    · have h := of_decide_eq_false h.symm
      refine db_nil ⟨rfl, ?_⟩
      rw [if_neg h]
      rfl
    rintro _ _ ⟨rfl, rfl⟩
    refine db_cons (ds_for (di_str (z := "abc") (de_gstr hl)) (fun ds e => ?_) rfl PassesOwn.never)
    cases e
    rw [S_abc, S_signs]
    refine ⟨fun k Γ M => ∃ x y, Γ = [.dat (cD C), .dat (sD z), .dat (.int (n : Nat)), .dat (stD st), .ptr q, x, y] ∧ M = [(q, .ls (((if n < z.length then [((1, 0, n + 1, st) : Move)] else []) ++ (ABC.take k).flatMap (movesOf C z n st)).map mvD))], ⟨_, _, rfl, by simp⟩, ?_, ?_⟩
    · rintro k d Γ1 M1 hd ⟨x, y, rfl, rfl⟩
      rw [List.getElem?_map] at hd
      obtain ⟨c, hc, rfl⟩ := Option.map_eq_some_iff.mp hd
      have hk : k < 3 := (List.getElem?_eq_some_iff.mp hc).1
      refine ⟨_, dg_name 5 sc19.nd, db_one (ds_for (RL := IsL ((nexts C st c).map stD)) (di_L (de_callF [cD C, stD st, sD [c]] F13 hr (da_cons (dv 0) (da_cons (dv 3) (da_cons (dv 5) da_nil))) ⟨C, st, c, rfl, ok, hs, rfl⟩)) (fun ds e => ?_) rfl PassesOwn.never)⟩
      cases e
      have l0 : ∀ k, ((ABC.take k).flatMap (movesOf C z n st)).length ≤ 10 * (ABC.take k).length := by
        intro k
        generalize ABC.take k = l
        induction l with
        | nil => simp
        | cons a l ih =>
          have h1 := movesOf_len (C := C) (z := z) (at_ := n) (c := a) (nexts C st a)
          have h2 := nexts_len (C := C) (c := a) st
          have h3 : (movesOf C z n st a).length = ((nexts C st a).flatMap (movesBy C z n a)).length := rfl
          rw [List.flatMap_cons, List.length_append, List.length_cons]
          omega
      have l1 := l0 k
      rw [List.length_take] at l1
      have l2 : (if n < z.length then [((1, 0, n + 1, st) : Move)] else []).length ≤ 1 := by split <;> simp
      have l3 := nexts_len (C := C) (c := c) st
      refine ⟨fun j Γ M => ∃ y, Γ = [.dat (cD C), .dat (sD z), .dat (.int (n : Nat)), .dat (stD st), .ptr q, .dat (sD [c]), y] ∧ M = [(q, .ls (((if n < z.length then [((1, 0, n + 1, st) : Move)] else []) ++ (ABC.take k).flatMap (movesOf C z n st) ++ ((nexts C st c).take j).flatMap (movesBy C z n c)).map mvD))], ⟨_, rfl, by simp⟩, ?_, ?_⟩
      · rintro j d Γ1 M1 hd ⟨y, rfl, rfl⟩
        rw [List.getElem?_map] at hd
        obtain ⟨l, hl2, rfl⟩ := Option.map_eq_some_iff.mp hd
        have l4 := movesOf_len (C := C) (z := z) (at_ := n) (c := c) ((nexts C st c).take j)
        rw [List.length_take] at l4
        have ej : ((nexts C st c).take (j + 1)).flatMap (movesBy C z n c) = ((nexts C st c).take j).flatMap (movesBy C z n c) ++ movesBy C z n c l := by
          rw [List.take_add_one, hl2, List.flatMap_append]
          simp
        generalize hA : (if n < z.length then [((1, 0, n + 1, st) : Move)] else []) ++ (ABC.take k).flatMap (movesOf C z n st) ++ ((nexts C st c).take j).flatMap (movesBy C z n c) = A at *
        have lA : A.length ≤ 100 := by
          rw [← hA]
          simp only [List.length_append]
          omega
        refine ⟨_, dg_name 6 sc19.nd, db_cons (ds_append (ds := A.map mvD) 0 (dp 4) (de_triple de_int de_int (de_pair (dv 2) (dv 6))) (by rw [List.length_map]; omega) fun d hd => ?_)⟩
        cases hd
        refine db_one (ds_if (hlt rfl rfl) (fun h => ?_) fun h => ?_)
        · have h := of_decide_eq_true h.symm
          have hz : z[n]? = some z[n] := List.getElem?_eq_getElem h
          refine db_one (ds_append (ds := A.map mvD ++ [mvD (1, 1, n, l)]) 0 (dp 4) (de_triple (de_intB (de_neS (dv 5) (de_ixS (z := S z) (by rw [S_len]; omega) (S_at hz) (dv 1) (dv 2))) T.int) de_int (de_pair (de_add (dv 2) de_int) (dv 6))) (by rw [List.length_append, List.length_map]; simp; omega) fun d hd => ⟨_, rfl, ?_⟩)
          rw [show d = _ from hd, ej, ← List.append_assoc, hA, movesBy, if_pos h, hz]
          show [(q, MO.ls _)] = [(q, MO.ls _)]
          rw [List.map_append]
          have e3 : (if (!decide (S [c] = ⟨#[z[n]]⟩)) = true then (1 : Int) else 0) = ((if some z[n] = some c then 0 else 1 : Nat) : Int) := by
            by_cases e : z[n] = c
            · rw [decide_eq_true (sign_eq.mpr e).symm, e, if_pos rfl]; rfl
            · rw [decide_eq_false (fun h => e (sign_eq.mp h.symm)), if_neg (c := some z[n] = some c) (fun h => e (Option.some.inj h))]; rfl
          rw [e3]
          simp [mvD]
        · have h := of_decide_eq_false h.symm
          refine db_nil ⟨_, rfl, ?_⟩
          rw [ej, ← List.append_assoc, hA, movesBy, if_neg h]
          simp [mvD]
      · rintro Γ1 M1 ⟨y, rfl, rfl⟩
        refine ⟨_, _, rfl, ?_⟩
        rw [List.length_map, List.take_length, List.take_add_one, hc, List.flatMap_append]
        simp [movesOf]
    · rintro Γ1 M1 ⟨x, y, rfl, rfl⟩
      exact db_one (ds_retL 4 0 (dp 4) ⟨rfl, by simp⟩)
end
end K59
namespace K59
open PySem PySem.Spec PyProof.Rows L2
theorem iter_succ {α : Type} (g : α → α) : ∀ (n : Nat) (x : α), iter g (n + 1) x = g (iter g n x)
  | 0, _ => rfl
  | n + 1, x => iter_succ g n (g x)
theorem foldl_take {α β : Type} {f : β → α → β} {x : β} {l : List α} {k : Nat} {a : α} (h : l[k]? = some a) : (l.take (k + 1)).foldl f x = f ((l.take k).foldl f x) a := by
  rw [List.take_add_one, h, List.foldl_append]
  rfl
theorem keys_sts (Q : List St) (f : Row) : ((rowK Q f).map fun p => kd p.1) = Q.map stD := by
  unfold rowK
  rw [List.map_map]
  apply List.map_congr_left
  intro s _
  exact (st_kd s).symm
theorem de_neg {X : Cx} {Γ : Gam} {M : Mem} {a : Expr} {pos : Pos} {i : Int} (ha : DE X Γ M a (Is (.int i))) : DE X Γ M (.UnaryOp .USub a pos) (Is (.int (-i))) := de_of (pe_un un_neg pe_max) fun G F H σ Q ok sl q => ha G F H σ _ ok sl fun v d F1 H1 r s k rp => by
  cases (show d = .int i from r)
  cases rp
  exact ⟨i, rfl, q _ _ F1 H1 rfl s k (.int _)⟩
section
variable {P : Program} {w : World} {K : PySem.W.Frag} {mg : Str → Option Value} {base : Heap}
abbrev NSet : List Str := ["code", "row", "turn", "state", "letter", "later"]
theorem sc20 : FnScope NSet ["code", "row"] (defScope (topS 20)) := ⟨rfl, rfl, rfl, by decide +kernel, rfl, by decide +kernel, by decide +kernel⟩
def PrSettle : Prm := fun as M R M' => ∃ C f q, as = [.dat (cD C), .ptr q] ∧ CodeOk C ∧ M = [(q, .dc (rowK (states C) f))] ∧ R = Is .none ∧ M' = [(q, .dc (rowK (states C) (settle C f)))]
theorem d_settle {f : Addr} {fd : FuncData} (T : Tx mg) (F : Fun K "settle" "settle" (topS 20) f fd) (hmg : mg "settle" = some (.ref f)) (F13 : Dn P w K mg base "next_states" 2 (PrP ANext)) : Dn P w K mg base "settle" 3 PrSettle := by
  refine fn_D F sc20 hmg (F.binds (ps := ["code", "row"]) fun _ _ _ _ _ _ us hl => match us, hl with | [_, _], _ => rfl) (by decide) ?_ ?_
  · rintro as M R M' ⟨C, f, q, rfl, ok, rfl, rfl, rfl⟩
    exact ⟨rfl, by simp⟩
  · rintro cdv A outer s H E as M R M' hr ⟨C, f0, q, rfl, ok, rfl, rfl, rfl⟩
    obtain ⟨tl, hl⟩ := T.every
    have ql := states_len ok
    have nd := states_nd C
    have rl : ∀ g : Row, (rowK (states C) g).length ≤ 100000 := fun g => by rw [rowK_len]; omega
    refine db_one (ds_for (di_rg1 (de_lenPD (rl f0) List.mem_cons_self (dp 1) T.len) (RgOk.of_le (by decide) (by have := rl f0; omega) (by decide) (by omega)) T.rng) (fun ds e => ?_) rfl PassesOwn.never)
    cases e
    refine ⟨fun k Γ M => ∃ x y u v, Γ = [.dat (cD C), .ptr q, x, y, u, v] ∧ M = [(q, .dc (rowK (states C) (iter (turnR C) k f0)))], ⟨_, _, _, _, rfl, rfl⟩, ?_, ?_⟩
    · rintro k d Γ1 M1 hd ⟨x, y, u, v, rfl, rfl⟩
      generalize iter_succ (turnR C) k f0 = hit
      generalize iter (turnR C) k f0 = g0 at hit ⊢
      refine ⟨_, dg_name 2 sc20.nd, db_one (ds_for (RL := IsL ((states C).map stD)) (di_L ((de_ofM (dm_listPD rfl (rl g0) List.mem_cons_self (dp 1) T.lst)).is (congrArg D.list (keys_sts _ _)))) (fun ds e => ?_) rfl PassesOwn.never)⟩
      cases e
      refine ⟨fun k Γ M => ∃ x y u v, Γ = [.dat (cD C), .ptr q, x, y, u, v] ∧ M = [(q, .dc (rowK (states C) (((states C).take k).foldl (relaxS C) g0)))], ⟨_, _, _, _, rfl, rfl⟩, ?_, ?_⟩
      · rintro k d Γ1 M1 hd ⟨x, y, u, v, rfl, rfl⟩
        rw [List.getElem?_map] at hd
        obtain ⟨st, hs, rfl⟩ := Option.map_eq_some_iff.mp hd
        have hsm := List.mem_of_getElem? hs
        have hf1 := foldl_take (f := relaxS C) (x := g0) hs
        generalize ((states C).take k).foldl (relaxS C) g0 = g1 at hf1 ⊢
        refine ⟨_, dg_name 3 sc20.nd, db_one (ds_for (di_str (z := "abc") (de_gstr hl)) (fun ds e => ?_) rfl PassesOwn.never)⟩
        cases e
        rw [S_abc, S_signs]
        refine ⟨fun k Γ M => ∃ x u v, Γ = [.dat (cD C), .ptr q, x, .dat (stD st), u, v] ∧ M = [(q, .dc (rowK (states C) ((ABC.take k).foldl (relaxC C st) g1)))], ⟨_, _, _, rfl, rfl⟩, ?_, ?_⟩
        · rintro k d Γ1 M1 hd ⟨x, u, v, rfl, rfl⟩
          rw [List.getElem?_map] at hd
          obtain ⟨c, hc, rfl⟩ := Option.map_eq_some_iff.mp hd
          have hf2 := foldl_take (l := ABC) (f := relaxC C st) (x := g1) hc
          generalize (ABC.take k).foldl (relaxC C st) g1 = g2 at hf2 ⊢
          refine ⟨_, dg_name 4 sc20.nd, db_one (ds_for (RL := IsL ((nexts C st c).map stD)) (di_L (de_callF [cD C, stD st, sD [c]] F13 hr (da_cons (dv 0) (da_cons (dv 3) (da_cons (dv 4) da_nil))) ⟨C, st, c, rfl, ok, hsm, rfl⟩)) (fun ds e => ?_) rfl PassesOwn.never)⟩
          cases e
          refine ⟨fun k Γ M => ∃ x v, Γ = [.dat (cD C), .ptr q, x, .dat (stD st), .dat (sD [c]), v] ∧ M = [(q, .dc (rowK (states C) (((nexts C st c).take k).foldl (fun g l => relax g st l) g2)))], ⟨_, _, rfl, rfl⟩, ?_, ?_⟩
          · rintro k d Γ1 M1 hd ⟨x, v, rfl, rfl⟩
            rw [List.getElem?_map] at hd
            obtain ⟨l, hl2, rfl⟩ := Option.map_eq_some_iff.mp hd
            have hlm := nexts_in hsm (List.mem_of_getElem? hl2)
            have hf3 := foldl_take (f := fun g l => relax g st l) (x := g2) hl2
            generalize ((nexts C st c).take k).foldl (fun g l => relax g st l) g2 = g3 at hf3 ⊢
            refine ⟨_, dg_name 5 sc20.nd, db_one (ds_put (kvs := rowK (states C) g3) (k := stK st) 0 (hu9 hr) (de_minP (u := g3 st) (v := ((g3 l).1 + 1, (g3 l).2 + 1)) rfl (by have := hu_r hr; exact Nat.lt_of_succ_lt this) (de_ixPV (hu9 hr) List.mem_cons_self (st_kd st) (stK_depth st) (row_look hsm) (dp 1) (dv 3)) ((de_pair (de_add (de_ixT (i := 0) (d := .int ((g3 l).1 : Nat)) rfl (de_ixPV (hu9 hr) List.mem_cons_self (st_kd l) (stK_depth l) (row_look hlm) (dp 1) (dv 5)) de_int) de_int) (de_add (de_ixT (i := 1) (d := .int ((g3 l).2 : Nat)) rfl (de_ixPV (hu9 hr) List.mem_cons_self (st_kd l) (stK_depth l) (row_look hlm) (dp 1) (dv 5)) de_int) de_int)).is (by simp [pD])) T.min) (dp 1) (dv 3) (st_kd st) (stK_depth st) (rl g3) fun d hd => ?_)⟩
            cases hd
            refine ⟨_, _, rfl, ?_⟩
            rw [row_put hsm nd, hf3]
            rfl
          · rintro Γ1 M1 ⟨x, v, rfl, rfl⟩
            refine ⟨_, _, _, rfl, ?_⟩
            rw [List.length_map, List.take_length, hf2]
            rfl
        · rintro Γ1 M1 ⟨x, u, v, rfl, rfl⟩
          refine ⟨_, _, _, _, rfl, ?_⟩
          rw [hf1]
          rfl
      · rintro Γ1 M1 ⟨x, y, u, v, rfl, rfl⟩
        refine ⟨_, _, _, _, rfl, ?_⟩
        rw [List.length_map, List.take_length, hit]
        rfl
    · rintro Γ1 M1 ⟨x, y, u, v, rfl, rfl⟩
      refine ⟨rfl, ?_⟩
      show ∀ p ∈ [(q, MO.dc (rowK (states C) (settle C f0)))], p ∈ [(q, MO.dc (rowK (states C) (iter (turnR C) _ f0)))]
      have e : (rgD 0 ((rowK (states C) f0).length : Nat)).length = (states C).length := by simp [rgD, rowK]
      rw [e]
      simp [settle]
end
end K59
namespace K59
open PySem PySem.Spec PyProof.Rows L2
theorem stepM_id {z : List Nat} {n : Nat} {nx : Row} {s : St} (hn : ¬ n < z.length) : ∀ (l : List Move) (f : Row), (∀ m ∈ l, n < m.2.2.1 → n < z.length) → l.foldl (stepM n nx s) f = f
  | [], f, _ => rfl
  | m :: l, f, h => by
    rw [List.foldl_cons]
    have e : stepM n nx s f m = f := if_neg fun q => hn (h m List.mem_cons_self q)
    rw [e]
    exact stepM_id hn l f fun m hm => h m (List.mem_cons_of_mem _ hm)
theorem stepS_id {C : List (List Nat)} {z : List Nat} {n : Nat} {nx : Row} (hn : ¬ n < z.length) : ∀ (l : List St) (f : Row), (∀ s ∈ l, s ∈ states C) → l.foldl (stepS C z n nx) f = f
  | [], f, _ => rfl
  | s :: l, f, h => by
    rw [List.foldl_cons]
    have e : stepS C z n nx f s = f := stepM_id hn _ f fun m hm => (moves_ok hm (h s List.mem_cons_self)).2
    rw [e]
    exact stepS_id hn l f fun m hm => h m (List.mem_cons_of_mem _ hm)
def row0 (z : List Nat) (k : Nat) : Row := if k = 0 then baseL z else base0 z
theorem rows_eq (C : List (List Nat)) (z : List Nat) (k : Nat) : settle C ((states C).foldl (stepS C z (z.length - k) (rows C z (k - 1))) (row0 z k)) = rows C z k := by
  cases k with
  | zero =>
    rw [stepS_id (by omega) _ _ fun s h => h]
    rfl
  | succ k => rfl
def rD (C : List (List Nat)) (f : Row) : D := .dict (rowK (states C) f)
theorem rowsDown_len (C : List (List Nat)) (z : List Nat) : ∀ k, (rowsDown C z k).length = k
  | 0 => rfl
  | k + 1 => by rw [rowsDown, List.length_cons, rowsDown_len]
section
variable {P : Program} {w : World} {K : PySem.W.Frag} {mg : Str → Option Value} {base : Heap}
abbrev NCost : List Str := ["code", "string", "states", "found", "at", "row", "state", "cost", "letters", "there", "behind"]
theorem sc18 : FnScope NCost ["code", "string"] (defScope (topS 18)) := ⟨rfl, rfl, rfl, by decide +kernel, rfl, by decide +kernel, by decide +kernel⟩
def ACosts : List D → (D → Prop) → Prop := fun ds R => ∃ C z, ds = [cD C, sD z] ∧ CodeOk C ∧ TextOk z ∧ R = Is (.list ((rowsDown C z (z.length + 1)).map (rD C)))
theorem d_costs {f : Addr} {fd : FuncData} (T : Tx mg) (F : Fun K "costs_from" "costs_from" (topS 18) f fd) (hmg : mg "costs_from" = some (.ref f)) (F11 : Dn P w K mg base "states_of" 1 (PrP AStates)) (F19 : Dn P w K mg base "moves_at" 3 (PrP AMoves)) (F20 : Dn P w K mg base "settle" 3 PrSettle) : Dn P w K mg base "costs_from" 4 (PrP ACosts) := by
  refine fn_D F sc18 hmg (F.binds (ps := ["code", "string"]) fun _ _ _ _ _ _ us hl => match us, hl with | [_, _], _ => rfl) (by decide) ?_ ?_
  · rintro as M R M' ⟨rfl, rfl, ds, rfl, C, z, rfl, _⟩
    exact ⟨rfl, List.nodup_nil⟩
  · rintro cdv A outer s H E as M R M' hr ⟨rfl, rfl, ds, rfl, C, z, rfl, ok, zk, rfl⟩
    have zs := zk.short
    have ql := states_len ok
    have nd := states_nd C
    have hu64 : (FX P w K mg base NCost "costs_from" (defScope (topS 18)) f cdv A outer s H E).A.units + 64 < cLine := Nat.lt_of_succ_lt (hu_r hr)
    have rl : ∀ g : Row, (rowK (states C) g).length ≤ 100000 := fun g => by rw [rowK_len]; omega
    refine db_cons (ds_set 2 (de_callF (R := Is (.list ((states C).map stD))) [cD C] F11 (hr.mono (by decide)) (da_cons (dv 0) da_nil) ⟨C, rfl, ok, rfl⟩) (fun d hd => ?_) sc18.nd)
    cases hd
    refine db_cons (ds_set 3 (de_list (ds := []) da_nil rfl (by show 0 ≤ 100000; decide)) (fun d hd => ?_) sc18.nd)
    cases hd
    refine db_cons (ds_for (di_rg3 (m := (z.length : Nat)) (n := -1) (z := -1) (de_lenS (z := S z) (by rw [S_len]; omega) (dv 1) T.len) (de_neg de_int) (de_neg de_int) rfl ⟨by omega, by omega, by omega, by omega, by omega⟩ T.rng) (fun ds e => ?_) rfl PassesOwn.never)
    cases e
    refine ⟨fun k Γ M => ∃ x4 x5 x6 x7 x8 x9 x10, Γ = [.dat (cD C), .dat (sD z), .dat (.list ((states C).map stD)), .dat (.list ((rowsDown C z k).map (rD C))), x4, x5, x6, x7, x8, x9, x10] ∧ M = [], ⟨_, _, _, _, _, _, _, rfl, rfl⟩, ?_, ?_⟩
    · rintro k d Γ1 M1 hd ⟨x4, x5, x6, x7, x8, x9, x10, rfl, rfl⟩
      unfold rgDn at hd
      rw [List.getElem?_map] at hd
      obtain ⟨i, h1, rfl⟩ := Option.map_eq_some_iff.mp hd
      obtain ⟨h2, h3⟩ := List.getElem?_eq_some_iff.mp h1
      rw [List.length_range] at h2
      rw [List.getElem_range] at h3
      subst h3
      have hk : k ≤ z.length := by omega
      rw [show ((z.length : Nat) : Int) - (k : Nat) = ((z.length - k : Nat) : Int) by omega]
      generalize hn : z.length - k = n
      refine ⟨_, dg_name 4 sc18.nd, db_cons (ds_setM 5 dm_new (fun q o ho => ?_) sc18.nd)⟩
      cases ho
      refine db_cons (ds_for (RL := IsL ((states C).map stD)) (di_L (dv 2)) (fun ds e => ?_) rfl PassesOwn.never)
      cases e
      refine ⟨fun j Γ M => ∃ x6, Γ = [.dat (cD C), .dat (sD z), .dat (.list ((states C).map stD)), .dat (.list ((rowsDown C z k).map (rD C))), .dat (.int (n : Nat)), .ptr q, x6, x7, x8, x9, x10] ∧ M = [(q, .dc (rowK ((states C).take j) (base0 z)))], ⟨_, rfl, rfl⟩, ?_, ?_⟩
      · rintro j d Γ1 M1 hd ⟨x6, rfl, rfl⟩
        rw [List.getElem?_map] at hd
        obtain ⟨st, hs, rfl⟩ := Option.map_eq_some_iff.mp hd
        refine ⟨_, dg_name 6 sc18.nd, db_one (ds_put (kvs := rowK ((states C).take j) (base0 z)) (k := stK st) 0 (hu9 hr) ((de_pair (de_add (de_lenS (z := S z) (by rw [S_len]; omega) (dv 1) T.len) de_int) de_int).is (d' := pD (base0 z st)) (by simp [pD, base0, S_len])) (dp 5) (dv 6) (st_kd st) (stK_depth st) (by rw [rowK_len, List.length_take]; omega) fun d hd => ?_)⟩
        cases hd
        refine ⟨_, rfl, ?_⟩
        rw [row_new hs nd]
        rfl
      rintro Γ1 M1 ⟨x6, rfl, rfl⟩
      rw [List.length_map, List.take_length]
      refine db_seq (fun Γ M => Γ = [.dat (cD C), .dat (sD z), .dat (.list ((states C).map stD)), .dat (.list ((rowsDown C z k).map (rD C))), .dat (.int (n : Nat)), .ptr q, x6, x7, x8, x9, x10] ∧ M = [(q, .dc (rowK (states C) (row0 z k)))]) (ds_if (dt_eqI (dv 4) (de_lenS (z := S z) (by rw [S_len]; omega) (dv 1) T.len)) (fun h => ?_) fun h => ?_) ?_
      · have h := of_decide_eq_true h.symm
        rw [S_len] at h
        have hk0 : k = 0 := by omega
        refine db_one (ds_put (kvs := rowK (states C) (base0 z)) (k := .none) 0 (hu9 hr) (de_pair de_int de_int) (dp 5) de_non rfl (by decide) (rl _) fun d hd => ⟨rfl, ?_⟩)
        cases hd
        have e := row_put (f := base0 z) (s := none) (v := (0, 0)) (mem_states.mpr (.inl rfl)) nd
        show [(q, MO.dc (dput (stK none) (pD (0, 0)) (rowK (states C) (base0 z))))] = _
        rw [e, row0, if_pos hk0]
        rfl
      · have h := of_decide_eq_false h.symm
        rw [S_len] at h
        refine db_nil ⟨rfl, ?_⟩
        rw [row0, if_neg (by omega)]
      rintro _ _ ⟨rfl, rfl⟩
      refine db_cons (ds_for (RL := IsL ((states C).map stD)) (di_L (dv 2)) (fun ds e => ?_) rfl PassesOwn.never)
      cases e
      refine ⟨fun j Γ M => ∃ x6 x7 x8 x9 x10, Γ = [.dat (cD C), .dat (sD z), .dat (.list ((states C).map stD)), .dat (.list ((rowsDown C z k).map (rD C))), .dat (.int (n : Nat)), .ptr q, x6, x7, x8, x9, x10] ∧ M = [(q, .dc (rowK (states C) (((states C).take j).foldl (stepS C z n (rows C z (k - 1))) (row0 z k))))], ⟨_, _, _, _, _, rfl, rfl⟩, ?_, ?_⟩
      · rintro j d Γ1 M1 hd ⟨x6, x7, x8, x9, x10, rfl, rfl⟩
        rw [List.getElem?_map] at hd
        obtain ⟨st, hs, rfl⟩ := Option.map_eq_some_iff.mp hd
        have hsm := List.mem_of_getElem? hs
        have hf := foldl_take (f := stepS C z n (rows C z (k - 1))) (x := row0 z k) hs
        generalize ((states C).take j).foldl (stepS C z n (rows C z (k - 1))) (row0 z k) = g1 at hf ⊢
        refine ⟨_, dg_name 6 sc18.nd, db_one (ds_for (RL := IsL ((moves C z n st).map mvD)) (di_L (de_callF [cD C, sD z, .int (n : Nat), stD st] F19 hr (da_cons (dv 0) (da_cons (dv 1) (da_cons (dv 4) (da_cons (dv 6) da_nil)))) ⟨C, z, n, st, rfl, ok, zk, hsm, rfl⟩)) (fun ds e => ?_) rfl PassesOwn.never)⟩
        cases e
        refine ⟨fun i Γ M => ∃ x7 x8 x9 x10, Γ = [.dat (cD C), .dat (sD z), .dat (.list ((states C).map stD)), .dat (.list ((rowsDown C z k).map (rD C))), .dat (.int (n : Nat)), .ptr q, .dat (stD st), x7, x8, x9, x10] ∧ M = [(q, .dc (rowK (states C) (((moves C z n st).take i).foldl (stepM n (rows C z (k - 1)) st) g1)))], ⟨_, _, _, _, rfl, rfl⟩, ?_, ?_⟩
        · rintro i d Γ1 M1 hd ⟨x7, x8, x9, x10, rfl, rfl⟩
          rw [List.getElem?_map] at hd
          obtain ⟨m, hm, rfl⟩ := Option.map_eq_some_iff.mp hd
          obtain ⟨hml, hmn⟩ := moves_ok (List.mem_of_getElem? hm) hsm
          have hf2 := foldl_take (f := stepM n (rows C z (k - 1)) st) (x := g1) hm
          generalize ((moves C z n st).take i).foldl (stepM n (rows C z (k - 1)) st) g1 = g2 at hf2 ⊢
          obtain ⟨mc, ml, mp, mt⟩ := m
          refine ⟨_, dg_three rfl (dg_name 7 sc18.nd) (dg_name 8 sc18.nd) (dg_name 9 sc18.nd), db_one (ds_if (dt_gt (de_ixT (i := 0) (d := .int ((mp : Nat) : Int)) rfl (dv 9) de_int) (dv 4)) (fun h => ?_) fun h => ?_)⟩
          · have h := of_decide_eq_true h.symm
            have hlt : n < mp := by omega
            have hz := hmn hlt
            obtain ⟨k', rfl⟩ : ∃ k', k = k' + 1 := ⟨k - 1, by omega⟩
            refine db_cons (ds_set 10 (de_ixV (kvs := rowK (states C) (rows C z k')) (hu9 hr) (st_kd mt) (stK_depth mt) (row_look hml) (de_ixL (i := 0) (atI_nat (j := 0) (show ((rowsDown C z (k' + 1)).map (rD C))[0]? = some (rD C (rows C z k')) from rfl)) (dv 3) de_int) (de_ixT (i := 1) (d := stD mt) rfl (dv 9) de_int)) (fun d hd => ?_) sc18.nd)
            cases hd
            refine db_one (ds_put (kvs := rowK (states C) g2) (k := stK st) 0 (hu9 hr) (de_minP (u := g2 st) (v := ((rows C z k' mt).1 + mc, (rows C z k' mt).2 + ml)) rfl hu64 (de_ixPV (hu9 hr) List.mem_cons_self (st_kd st) (stK_depth st) (row_look hsm) (dp 5) (dv 6)) ((de_pair (de_add (de_ixT (i := 0) (d := .int ((rows C z k' mt).1 : Nat)) rfl (dv 10) de_int) (dv 7)) (de_add (de_ixT (i := 1) (d := .int ((rows C z k' mt).2 : Nat)) rfl (dv 10) de_int) (dv 8))).is (by simp [pD])) T.min) (dp 5) (dv 6) (st_kd st) (stK_depth st) (rl g2) fun d hd => ?_)
            cases hd
            refine ⟨_, _, _, _, rfl, ?_⟩
            rw [row_put hsm nd, hf2, stepM, if_pos hlt]
            rfl
          · have h := of_decide_eq_false h.symm
            refine db_nil ⟨_, _, _, _, rfl, ?_⟩
            rw [hf2, stepM, if_neg (by show ¬ n < mp; omega)]
        · rintro Γ1 M1 ⟨x7, x8, x9, x10, rfl, rfl⟩
          refine ⟨_, _, _, _, _, rfl, ?_⟩
          rw [List.length_map, List.take_length, hf]
          rfl
      rintro Γ1 M1 ⟨x6, x7, x8, x9, x10, rfl, rfl⟩
      rw [List.length_map, List.take_length]
      refine db_cons (ds_callM 0 (o := .dc (rowK (states C) ((states C).foldl (stepS C z n (rows C z (k - 1))) (row0 z k)))) F20 hr (da_cons (dv 0) (da_ptr (dp 5) da_nil)) ⟨C, _, q, rfl, ok, rfl, rfl, rfl⟩ ?_)
      refine db_freezeD 5 0 ?_
      refine db_one (ds_set 3 (de_cat (ds := [rD C (rows C z k)]) (es := (rowsDown C z k).map (rD C)) (by rw [List.length_map, rowsDown_len]; simp; omega) ((de_list (da_cons (dv 5) da_nil) rfl (by show 1 ≤ 100000; decide)).is (by rw [← hn, rows_eq]; rfl)) (dv 3)) (fun d hd => ?_) sc18.nd)
      cases hd
      exact ⟨_, _, _, _, _, _, _, rfl, rfl⟩
    · rintro Γ1 M1 ⟨x4, x5, x6, x7, x8, x9, x10, rfl, rfl⟩
      refine db_one (ds_ret (R := Is (.list ((rowsDown C z (z.length + 1)).map (rD C)))) ((dv 3).is ?_) fun d r => ⟨r, by simp⟩)
      rw [show (rgDn (z.length : Nat) (-1)).length = z.length + 1 by simp [rgDn]]
end
end K59
namespace K59
open PySem PySem.Spec PyProof.Rows L2
/-! ### dicts of places, all True -/
def keysT {α : Type} (f : α → NestedKey) (l : List α) : List (NestedKey × D) := l.map fun a => (f a, .bool true)
theorem keysT_keys {α : Type} (f : α → NestedKey) (l : List α) : (keysT f l).map (·.1) = l.map f := by
  unfold keysT; rw [List.map_map]; rfl
theorem dput_same {k : NestedKey} {d : D} : ∀ {kvs : List (NestedKey × D)}, (k, d) ∈ kvs → (kvs.map (·.1)).Nodup → dput k d kvs = kvs
  | [], h, _ => by simp at h
  | (a, b) :: r, h, nd => by
    obtain ⟨n1, n2⟩ := List.nodup_cons.mp nd
    unfold dput
    by_cases e : a = k
    · subst e
      rw [if_pos rfl]
      rcases List.mem_cons.mp h with h | h
      · cases h; rfl
      · exact absurd (List.mem_map.mpr ⟨_, h, rfl⟩) n1
    · rw [if_neg e, dput_same ((List.mem_cons.mp h).elim (fun z => absurd (congrArg Prod.fst z).symm e) id) n2]
theorem mem_keysT {α : Type} {f : α → NestedKey} (hf : ∀ a b, f a = f b → a = b) {l : List α} {x : α} : f x ∈ (keysT f l).map (·.1) ↔ x ∈ l := by
  rw [keysT_keys, List.mem_map]
  exact ⟨fun ⟨y, h1, h2⟩ => by rw [← hf _ _ h2]; exact h1, fun h => ⟨x, h, rfl⟩⟩
theorem keysT_put {α : Type} [DecidableEq α] {f : α → NestedKey} (hf : ∀ a b, f a = f b → a = b) {l : List α} {x : α} (nd : l.Nodup) : dput (f x) (.bool true) (keysT f l) = keysT f (addN l x) := by
  unfold addN
  by_cases h : x ∈ l
  · rw [if_pos h, dput_same (show (f x, D.bool true) ∈ keysT f l from List.mem_map.mpr ⟨x, h, rfl⟩)]
    rw [keysT_keys]
    exact nd.map f fun a b hab e => hab (hf a b e)
  · rw [if_neg h, dput_new (fun q => h ((mem_keysT hf).mp q))]
    simp [keysT]
def ndD (x : Node) : D := .tup [.int (x.1 : Nat), stD x.2]
def ndK (x : Node) : NestedKey := .tup [.num (x.1 : Nat), stK x.2]
theorem nd_kd (x : Node) : ndD x = kd (ndK x) := by
  show D.tup _ = D.tup _
  rw [st_kd]
  rfl
theorem ndK_inj (a b : Node) (h : ndK a = ndK b) : a = b := by
  obtain ⟨p, s⟩ := a
  obtain ⟨q, t⟩ := b
  simp only [ndK, NestedKey.tup.injEq, List.cons.injEq, NestedKey.num.injEq, and_true] at h
  rw [show p = q by omega, stK_inj h.2]
theorem ndK_depth (x : Node) : (ndK x).depth ≤ 8 := by
  obtain ⟨p, s⟩ := x
  cases s with
  | none => simp [ndK, stK, NestedKey.depth, NestedKey.depthAll]
  | some v => simp [ndK, stK, NestedKey.depth, NestedKey.depthAll]
abbrev nsD (ns : List Node) : D := .dict (keysT ndK ns)
theorem ns_keys (ns : List Node) : ((keysT ndK ns).map fun p => kd p.1) = ns.map ndD := by
  unfold keysT
  rw [List.map_map]
  apply List.map_congr_left
  intro s _
  exact (nd_kd s).symm
abbrev csD (C : List (List Nat)) (z : List Nat) : D := .list ((rowsDown C z (z.length + 1)).map (rD C))
theorem cs_at {C : List (List Nat)} {z : List Nat} {i : Nat} (h : i ≤ z.length) : atI ((rowsDown C z (z.length + 1)).map (rD C)) ((i : Nat) : Int) = some (rD C (cst C z i)) := atI_nat (by rw [List.getElem?_map, cst_at C z h]; rfl)
theorem pair_shape (v : Nat × Nat) : SeqAt.shaped (.tuple [.int (v.1 : Nat), .int (v.2 : Nat)]) = true := by
  simp [SeqAt.shaped, PyData.canLay0, PyData.canLayAll0, PyData.depth, PyData.depthAll]
theorem dt_eqP {X : Cx} {Γ : Gam} {M : Mem} {a b : Expr} {pos : Pos} {u v : Nat × Nat} (hu : X.A.units + 64 < cLine) (ha : DE X Γ M a (Is (pD u))) (hb : DE X Γ M b (Is (pD v))) : DT X Γ M (.Compare a [.Eq] [b] pos) (IsT (decide (u = v))) :=
  (dt_eqD hu (p1 := .tuple [.int (u.1 : Nat), .int (u.2 : Nat)]) (p2 := .tuple [.int (v.1 : Nat), .int (v.2 : Nat)]) rfl rfl (pair_shape u) (pair_shape v) ha hb).imp fun b r => by
    rw [show b = _ from r]
    show _ = _
    obtain ⟨u1, u2⟩ := u
    obtain ⟨v1, v2⟩ := v
    simp only [PyData.eqv, PyData.eqvAll, Prod.mk.injEq]
    by_cases h1 : u1 = v1 <;> by_cases h2 : u2 = v2 <;> simp [h1, h2] <;> omega
section
variable {P : Program} {w : World} {K : PySem.W.Frag} {mg : Str → Option Value} {base : Heap}
abbrev NLeast : List Str := ["code", "string"]
theorem sc21 : FnScope NLeast ["code", "string"] (defScope (topS 21)) := ⟨rfl, rfl, rfl, by decide +kernel, rfl, by decide +kernel, by decide +kernel⟩
def ALeast : List D → (D → Prop) → Prop := fun ds R => ∃ C z, ds = [cD C, sD z] ∧ CodeOk C ∧ TextOk z ∧ R = Is (.int ((cst C z 0 none).1 : Nat))
theorem d_least {f : Addr} {fd : FuncData} (F : Fun K "least_errors" "least_errors" (topS 21) f fd) (hmg : mg "least_errors" = some (.ref f)) (F15 : Dn P w K mg base "check_string" 4 (PrP ACheckS)) (F18 : Dn P w K mg base "costs_from" 4 (PrP ACosts)) : Dn P w K mg base "least_errors" 5 (PrP ALeast) := by
  refine fn_D F sc21 hmg (F.binds (ps := ["code", "string"]) fun _ _ _ _ _ _ us hl => match us, hl with | [_, _], _ => rfl) (by decide) ?_ ?_
  · rintro as M R M' ⟨rfl, rfl, ds, rfl, C, z, rfl, _⟩
    exact ⟨rfl, List.nodup_nil⟩
  · rintro cdv A outer s H E as M R M' hr ⟨rfl, rfl, ds, rfl, C, z, rfl, ok, zk, rfl⟩
    refine db_cons (ds_expr (R := Is .none) (de_callF [cD C, sD z] F15 hr (da_cons (dv 0) (da_cons (dv 1) da_nil)) ⟨C, z, rfl, ok, zk, rfl⟩) ?_)
    refine db_one (ds_ret (R := Is (.int ((cst C z 0 none).1 : Nat))) (de_ixT (i := 0) (ds := [.int ((cst C z 0 none).1 : Nat), .int ((cst C z 0 none).2 : Nat)]) rfl (de_ixV (kvs := rowK (states C) (cst C z 0)) (k := .none) (hu9 hr) rfl (by decide) (row_look (s := none) (mem_states.mpr (.inl rfl))) (de_ixL (cs_at (i := 0) (Nat.zero_le _)) (de_callF (R := Is (csD C z)) [cD C, sD z] F18 hr (da_cons (dv 0) (da_cons (dv 1) da_nil)) ⟨C, z, rfl, ok, zk, rfl⟩) de_int) de_non) de_int) fun d r => ⟨r, by simp⟩)
abbrev NWo : List Str := ["nodes", "costs", "length", "found", "waiting", "place", "state", "there", "here", "later", "node"]
theorem sc22 : FnScope NWo ["nodes", "costs", "length"] (defScope (topS 22)) := ⟨rfl, rfl, rfl, by decide +kernel, rfl, by decide +kernel, by decide +kernel⟩
def AWo : List D → (D → Prop) → Prop := fun ds R => ∃ C z ns, ds = [nsD ns, csD C z, .int (z.length : Nat)] ∧ CodeOk C ∧ TextOk z ∧ NodesOk C z ns ∧ R = fun d => ∃ ns', d = nsD ns' ∧ NodesOk C z ns' ∧ ∀ x, x ∈ ns' ↔ ∃ y ∈ ns, Star (delS C z) y x
def wsum (z : List Nat) (ws : List Node) : Nat := (ws.map fun x => z.length + 1 - x.1).sum
theorem wsum_len {z : List Nat} : ∀ {ws : List Node}, (∀ x ∈ ws, x.1 ≤ z.length) → ws.length ≤ wsum z ws ∧ wsum z ws ≤ (z.length + 1) * ws.length
  | [], _ => by simp [wsum]
  | x :: ws, h => by
    obtain ⟨h1, h2⟩ := wsum_len (ws := ws) fun y hy => h y (List.mem_cons_of_mem _ hy)
    have hx := h x List.mem_cons_self
    have e : wsum z (x :: ws) = (z.length + 1 - x.1) + wsum z ws := by simp [wsum]
    rw [e, List.length_cons, Nat.mul_add]
    omega
theorem wsum_snoc {z : List Nat} {ws : List Node} {x : Node} : wsum z (ws ++ [x]) = wsum z ws + (z.length + 1 - x.1) := by simp [wsum]
theorem d_without {f : Addr} {fd : FuncData} (T : Tx mg) (F : Fun K "without_letters" "without_letters" (topS 22) f fd) (hmg : mg "without_letters" = some (.ref f)) : Dn P w K mg base "without_letters" 1 (PrP AWo) := by
  refine fn_D F sc22 hmg (F.binds (ps := ["nodes", "costs", "length"]) fun _ _ _ _ _ _ us hl => match us, hl with | [_, _, _], _ => rfl) (by decide) ?_ ?_
  · rintro as M R M' ⟨rfl, rfl, ds, rfl, C, z, ns, rfl, _⟩
    exact ⟨rfl, List.nodup_nil⟩
  · rintro cdv A outer s H E as M R M' hr ⟨rfl, rfl, ds, rfl, C, z, ns, rfl, ok, zk, nk, rfl⟩
    have zs := zk.short
    have ql := states_len ok
    have nl := nk.len zs ql
    have hu64 : (FX P w K mg base NWo "without_letters" (defScope (topS 22)) f cdv A outer s H E).A.units + 64 < cLine := Nat.lt_of_succ_lt (hu_r hr)
    refine db_cons (ds_setDcM 3 (RL := IsL (ns.map ndD)) (RD := fun es => es = keysT ndK ns) (hu9 hr) rfl sc22.nd ((by rw [← ns_keys]; exact di_keys (dv 0)) : DI _ _ _ _ _ (IsL (ns.map ndD))) (own := [("node", 10)]) (blkOk_by (show blkC NWo (defScope (topS 22)) _ _ = true by decide +kernel)) (fun ds e => ?_) fun q es he => ?_)
    · cases e
      refine ⟨fun k acc => acc = keysT ndK (ns.take k), rfl, fun k d acc q hd hI => ?_, fun acc hI => ?_⟩
      · rw [List.getElem?_map] at hd
        obtain ⟨x, hx, rfl⟩ := Option.map_eq_some_iff.mp hd
        refine ⟨by rw [hI]; simp [keysT]; omega, _, ndK x, .bool true, ndK_depth x, ?_, fun s0 H0 C' cl fp => ⟨dgc_name 10 sc22.nd, (dv 10).is (nd_kd x), de_bl⟩⟩
        show dput (ndK x) (D.bool true) acc = keysT ndK (ns.take (k + 1))
        rw [hI, keysT_put ndK_inj (nk.nd.sublist (List.take_sublist _ _)), addN, if_neg, List.take_add_one, hx]
        · rfl
        · intro hm
          obtain ⟨j, hj⟩ := List.mem_iff_getElem?.mp hm
          have hjk : j < k := by
            have := (List.getElem?_eq_some_iff.mp hj).1
            rw [List.length_take] at this
            omega
          rw [List.getElem?_take, if_pos hjk] at hj
          have := (List.getElem?_inj (List.getElem?_eq_some_iff.mp hj).1 nk.nd).mp (hj.trans hx.symm)
          omega
      · rw [hI, List.length_map, List.take_length]
    · cases he
      refine db_cons (ds_setM 4 (dm_listD (kvs := keysT ndK ns) rfl (by simp [keysT]; omega) (dv 0) T.lst) (fun q' o ho => ?_) sc22.nd)
      cases ho
      rw [ns_keys]
      have h0 := wsum_len nk.pl
      refine db_cons (ds_while (I := fun m Γ M => ∃ fs ws x5 x6 x7 x8 x9, Γ = [.dat (nsD ns), .dat (csD C z), .dat (.int (z.length : Nat)), .ptr q, .ptr q', x5, x6, x7, x8, x9, .any] ∧ M = [(q', .ls (ws.map ndD)), (q, .dc (keysT ndK fs))] ∧ NodesOk C z fs ∧ (∀ x ∈ fs, ∃ y ∈ ns, Star (delS C z) y x) ∧ (∀ x ∈ ns, x ∈ fs) ∧ (∀ x ∈ ws, x ∈ fs) ∧ (∀ x ∈ fs, x ∈ ws ∨ ∀ y, delS C z x y → y ∈ fs) ∧ m = wsum z ws ∧ m ≤ 1000)
        (m0 := wsum z ns) ⟨ns, ns, _, _, _, _, _, rfl, rfl, nk, fun x hx => ⟨x, hx, .refl x⟩, fun x hx => hx, fun x hx => hx, fun x hx => .inl hx, rfl, ?_⟩ ?_ PassesOwn.never)
      · have : (z.length + 1) * ns.length ≤ 4 * 36 := Nat.mul_le_mul (by omega) nl
        omega
      rintro m Γ1 M1 ⟨fs, ws, x5, x6, x7, x8, x9, rfl, rfl, fk, h1, h2, h3, h4, rfl, h5⟩
      have fl := fk.len zs ql
      have wl := wsum_len (z := z) fun x hx => fk.pl x (h3 x hx)
      refine ⟨_, dt_gt (de_lenPL List.mem_cons_self (dp 4) T.len) de_int, fun h => ?_, fun h => ?_⟩
      · have h := of_decide_eq_true h.symm
        rw [List.length_map] at h
        rcases List.eq_nil_or_concat ws with e | ⟨ws', x, e⟩
        · rw [e] at h; simp at h
        rw [List.concat_eq_append] at e
        subst e
        have hxf := h3 x (by simp)
        have hxp := fk.pl x hxf
        have hxs := fk.st x hxf
        rw [wsum_snoc] at h5 wl ⊢
        have wl' := wsum_len (z := z) (ws := ws') fun y hy => fk.pl y (h3 y (by simp [hy]))
        refine db_cons (ds_asgPop (ds := (ws' ++ [x]).map ndD) (d := ndD x) 0 (dp 4) (by simp) (dg_two rfl (dg_name 5 sc22.nd) (dg_name 6 sc22.nd)) ?_)
        rw [List.map_append]
        show DB _ _ [(q', MO.ls ((ws'.map ndD ++ [ndD x]).dropLast)), _] _ _
        rw [List.dropLast_concat]
        refine db_cons (ds_set 7 ((de_pair (de_add (dv 5) de_int) (dv 6)).is (d' := ndD (x.1 + 1, x.2)) (by simp [ndD])) (fun d hd => ?_) sc22.nd)
        cases hd
        refine db_one (ds_if (dt_and (dt_lt (dv 5) (dv 2)) fun hp => dt_notInPD (k := ndK (x.1 + 1, x.2)) (kvs := keysT ndK fs) (q' := q) (hu9 hr) (List.mem_cons_of_mem _ List.mem_cons_self) (nd_kd _) (ndK_depth _) (dv 7) (dp 3)) (fun h => ?_) fun h => ?_)
        · have h : (decide ((x.1 : Int) < (z.length : Nat)) && !decide (ndK (x.1 + 1, x.2) ∈ (keysT ndK fs).map (·.1))) = true := h.symm
          rw [Bool.and_eq_true] at h
          have hlt := of_decide_eq_true h.1
          have hnf : (x.1 + 1, x.2) ∉ fs := fun hm => by
            have := h.2
            rw [decide_eq_true ((mem_keysT ndK_inj).mpr hm)] at this
            cases this
          refine db_cons (ds_set 8 (de_ixV (kvs := rowK (states C) (cst C z x.1)) (hu9 hr) (st_kd x.2) (stK_depth _) (row_look hxs) (de_ixL (cs_at (i := x.1) hxp) (dv 1) (dv 5)) (dv 6)) (fun d hd => ?_) sc22.nd)
          cases hd
          refine db_cons (ds_set 9 (de_ixV (kvs := rowK (states C) (cst C z (x.1 + 1))) (hu9 hr) (st_kd x.2) (stK_depth _) (row_look hxs) (de_ixL (cs_at (i := x.1 + 1) (by omega)) (dv 1) ((de_add (dv 5) de_int).is (by simp))) (dv 6)) (fun d hd => ?_) sc22.nd)
          cases hd
          refine db_one (ds_if (dt_eqP (u := cst C z x.1 x.2) (v := ((cst C z (x.1 + 1) x.2).1 + 1, (cst C z (x.1 + 1) x.2).2)) hu64 (dv 8) ((de_pair (de_add (de_ixT (i := 0) (d := .int ((cst C z (x.1 + 1) x.2).1 : Nat)) rfl (dv 9) de_int) de_int) (de_ixT (i := 1) (d := .int ((cst C z (x.1 + 1) x.2).2 : Nat)) rfl (dv 9) de_int)).is (by simp [pD]))) (fun h => ?_) fun h => ?_)
          · have he := of_decide_eq_true h.symm
            have hdel : delS C z x (x.1 + 1, x.2) := ⟨by omega, rfl, he⟩
            refine db_cons (ds_put (kvs := keysT ndK fs) (k := ndK (x.1 + 1, x.2)) 1 (hu9 hr) de_bl (dp 3) (dv 7) (nd_kd _) (ndK_depth _) (by simp [keysT]; omega) fun d hd => ?_)
            cases hd
            rw [keysT_put ndK_inj fk.nd]
            refine db_one (ds_append (ds := ws'.map ndD) 0 (dp 4) (dv 7) (by rw [List.length_map]; omega) fun d hd => ?_)
            cases hd
            refine ⟨wsum z (ws' ++ [(x.1 + 1, x.2)]), by rw [wsum_snoc]; show _ + (z.length + 1 - (x.1 + 1)) < _; omega, addN fs (x.1 + 1, x.2), ws' ++ [(x.1 + 1, x.2)], _, _, _, _, _, rfl, by simp, ⟨nd_addN fk.nd, fun y hy => ?_, fun y hy => ?_⟩, fun y hy => ?_, fun y hy => mem_addN.mpr (.inl (h2 y hy)), fun y hy => ?_, fun y hy => ?_, rfl, by rw [wsum_snoc]; show _ + (z.length + 1 - (x.1 + 1)) ≤ _; omega⟩
            · rcases mem_addN.mp hy with h | rfl
              · exact fk.pl y h
              · show x.1 + 1 ≤ _; omega
            · rcases mem_addN.mp hy with h | rfl
              · exact fk.st y h
              · exact hxs
            · rcases mem_addN.mp hy with h | rfl
              · exact h1 y h
              · obtain ⟨y0, hy0, hst⟩ := h1 x hxf
                exact ⟨y0, hy0, .step hst hdel⟩
            · rcases List.mem_append.mp hy with h | h
              · exact mem_addN.mpr (.inl (h3 y (by simp [h])))
              · exact mem_addN.mpr (.inr (List.mem_singleton.mp h))
            · rcases mem_addN.mp hy with h | rfl
              · rcases h4 y h with h | h
                · rcases List.mem_append.mp h with h | h
                  · exact .inl (by simp [h])
                  · rw [List.mem_singleton.mp h]
                    exact .inr fun y' hy' => mem_addN.mpr (.inr hy'.2.1)
                · exact .inr fun y' hy' => mem_addN.mpr (.inl (h y' hy'))
              · exact .inl (by simp)
          · have he := of_decide_eq_false h.symm
            refine db_nil ⟨wsum z ws', by omega, fs, ws', _, _, _, _, _, rfl, rfl, fk, h1, h2, fun y hy => h3 y (by simp [hy]), fun y hy => ?_, rfl, by omega⟩
            rcases h4 y hy with h | h
            · rcases List.mem_append.mp h with h | h
              · exact .inl h
              · rw [List.mem_singleton.mp h]
                exact .inr fun y' hy' => absurd hy'.2.2 he
            · exact .inr h
        · have h : (decide ((x.1 : Int) < (z.length : Nat)) && !decide (ndK (x.1 + 1, x.2) ∈ (keysT ndK fs).map (·.1))) = false := h.symm
          refine db_nil ⟨wsum z ws', by omega, fs, ws', _, _, _, _, _, rfl, rfl, fk, h1, h2, fun y hy => h3 y (by simp [hy]), fun y hy => ?_, rfl, by omega⟩
          rcases h4 y hy with h' | h'
          · rcases List.mem_append.mp h' with h' | h'
            · exact .inl h'
            · rw [List.mem_singleton.mp h']
              refine .inr fun y' hy' => ?_
              rw [hy'.2.1]
              rw [decide_eq_true (by have := hy'.1; omega), Bool.true_and, Bool.not_eq_false', decide_eq_true_eq] at h
              exact (mem_keysT ndK_inj).mp h
          · exact .inr h'
      · have h := of_decide_eq_false h.symm
        rw [List.length_map] at h
        have e : ws = [] := List.length_eq_zero_iff.mp (by omega)
        subst e
        refine db_one (ds_retD 3 1 (dp 3) ⟨⟨fs, rfl, fk, fun x => ⟨h1 x, ?_⟩⟩, by simp⟩)
        rintro ⟨y, hy, hst⟩
        have : ∀ a b, Star (delS C z) a b → a ∈ fs → b ∈ fs := by
          intro a b hab ha
          induction hab with
          | refl => exact ha
          | step _ hr ih => exact ((h4 _ ih).elim (fun h => by simp at h) id) _ hr
        exact this y x hst (h2 y hy)
end
end K59
namespace K59
open PySem PySem.Spec PyProof.Rows L2
section
variable {P : Program} {w : World} {K : PySem.W.Frag} {mg : Str → Option Value} {base : Heap}
abbrev NWi : List Str := ["code", "string", "nodes", "costs", "letter", "found", "place", "state", "here", "later", "behind"]
theorem sc23 : FnScope NWi ["code", "string", "nodes", "costs", "letter"] (defScope (topS 23)) := ⟨rfl, rfl, rfl, by decide +kernel, rfl, by decide +kernel, by decide +kernel⟩
def AWi : List D → (D → Prop) → Prop := fun ds R => ∃ C z ns c, ds = [cD C, sD z, nsD ns, csD C z, sD [c]] ∧ CodeOk C ∧ TextOk z ∧ NodesOk C z ns ∧ R = fun d => ∃ ns', d = nsD ns' ∧ NodesOk C z ns' ∧ ∀ x, x ∈ ns' ↔ ∃ y ∈ ns, letS C z c y x
theorem take_mem {α : Type} {l : List α} {k : Nat} {x : α} (h : l[k]? = some x) {y : α} : y ∈ l.take (k + 1) ↔ y ∈ l.take k ∨ y = x := by
  rw [List.take_add_one, h, List.mem_append]
  simp
theorem d_with {f : Addr} {fd : FuncData} (T : Tx mg) (F : Fun K "with_letter" "with_letter" (topS 23) f fd) (hmg : mg "with_letter" = some (.ref f)) (F13 : Dn P w K mg base "next_states" 2 (PrP ANext)) : Dn P w K mg base "with_letter" 3 (PrP AWi) := by
  refine fn_D F sc23 hmg (F.binds (ps := ["code", "string", "nodes", "costs", "letter"]) fun _ _ _ _ _ _ us hl => match us, hl with | [_, _, _, _, _], _ => rfl) (by decide) ?_ ?_
  · rintro as M R M' ⟨rfl, rfl, ds, rfl, C, z, ns, c, rfl, _⟩
    exact ⟨rfl, List.nodup_nil⟩
  · rintro cdv A outer s H E as M R M' hr ⟨rfl, rfl, ds, rfl, C, z, ns, c, rfl, ok, zk, nk, rfl⟩
    have zs := zk.short
    have ql := states_len ok
    have hu64 : (FX P w K mg base NWi "with_letter" (defScope (topS 23)) f cdv A outer s H E).A.units + 64 < cLine := Nat.lt_of_succ_lt (hu_r hr)
    refine db_cons (ds_setM 5 dm_new (fun q o ho => ?_) sc23.nd)
    cases ho
    refine db_cons (ds_for (RL := IsL (ns.map ndD)) ((by rw [← ns_keys]; exact di_keys (dv 2)) : DI _ _ _ _ _ (IsL (ns.map ndD))) (fun ds e => ?_) rfl PassesOwn.never)
    cases e
    refine ⟨fun k Γ M => ∃ fs x6 x7 x8 x9 x10, Γ = [.dat (cD C), .dat (sD z), .dat (nsD ns), .dat (csD C z), .dat (sD [c]), .ptr q, x6, x7, x8, x9, x10] ∧ M = [(q, .dc (keysT ndK fs))] ∧ NodesOk C z fs ∧ ∀ x, x ∈ fs ↔ ∃ y ∈ ns.take k, letS C z c y x, ⟨[], _, _, _, _, _, rfl, rfl, ⟨List.nodup_nil, by simp, by simp⟩, by simp⟩, ?_, ?_⟩
    · rintro k d Γ1 M1 hd ⟨fs, x6, x7, x8, x9, x10, rfl, rfl, fk, hfs⟩
      rw [List.getElem?_map] at hd
      obtain ⟨y, hy, rfl⟩ := Option.map_eq_some_iff.mp hd
      have hym := List.mem_of_getElem? hy
      have hyp := nk.pl y hym
      have hys := nk.st y hym
      refine ⟨_, dg_two rfl (dg_name 6 sc23.nd) (dg_name 7 sc23.nd), ?_⟩
      refine db_cons (ds_set 8 (de_ixV (kvs := rowK (states C) (cst C z y.1)) (hu9 hr) (st_kd y.2) (stK_depth _) (row_look hys) (de_ixL (cs_at (i := y.1) hyp) (dv 3) (dv 6)) (dv 7)) (fun d hd => ?_) sc23.nd)
      cases hd
      refine db_one (ds_for (RL := IsL ((nexts C y.2 c).map stD)) (di_L (de_callF [cD C, stD y.2, sD [c]] F13 hr (da_cons (dv 0) (da_cons (dv 7) (da_cons (dv 4) da_nil))) ⟨C, y.2, c, rfl, ok, hys, rfl⟩)) (fun ds e => ?_) rfl PassesOwn.never)
      cases e
      refine ⟨fun j Γ M => ∃ fs x9 x10, Γ = [.dat (cD C), .dat (sD z), .dat (nsD ns), .dat (csD C z), .dat (sD [c]), .ptr q, .dat (.int (y.1 : Nat)), .dat (stD y.2), .dat (pD (cst C z y.1 y.2)), x9, x10] ∧ M = [(q, .dc (keysT ndK fs))] ∧ NodesOk C z fs ∧ ∀ x, x ∈ fs ↔ (∃ y ∈ ns.take k, letS C z c y x) ∨ ∃ l ∈ (nexts C y.2 c).take j, letL C z c y l x, ⟨fs, _, _, rfl, rfl, fk, fun x => by rw [hfs]; simp⟩, ?_, ?_⟩
      · rintro j d Γ1 M1 hd ⟨fs, x9, x10, rfl, rfl, fk, hfs⟩
        rw [List.getElem?_map] at hd
        obtain ⟨l, hl, rfl⟩ := Option.map_eq_some_iff.mp hd
        have hlm := nexts_in hys (List.mem_of_getElem? hl)
        have fl := fk.len zs ql
        have hrow := fun i => row_look (f := cst C z i) hlm
        refine ⟨_, dg_name 9 sc23.nd, ?_⟩
        refine db_cons (ds_set 10 (de_ixV (kvs := rowK (states C) (cst C z y.1)) (hu9 hr) (st_kd l) (stK_depth _) (hrow _) (de_ixL (cs_at (i := y.1) hyp) (dv 3) (dv 6)) (dv 9)) (fun d hd => ?_) sc23.nd)
        cases hd
        -- the letter put in
        refine db_seq (fun Γ M => ∃ fs2, Γ = [.dat (cD C), .dat (sD z), .dat (nsD ns), .dat (csD C z), .dat (sD [c]), .ptr q, .dat (.int (y.1 : Nat)), .dat (stD y.2), .dat (pD (cst C z y.1 y.2)), .dat (stD l), .dat (pD (cst C z y.1 l))] ∧ M = [(q, .dc (keysT ndK fs2))] ∧ NodesOk C z fs2 ∧ fs2.length ≤ 37 ∧ ∀ x, x ∈ fs2 ↔ x ∈ fs ∨ (x = (y.1, l) ∧ cst C z y.1 y.2 = ((cst C z y.1 l).1 + 1, (cst C z y.1 l).2 + 1))) (ds_if (dt_eqP (u := cst C z y.1 y.2) (v := ((cst C z y.1 l).1 + 1, (cst C z y.1 l).2 + 1)) hu64 (dv 8) ((de_pair (de_add (de_ixT (i := 0) (d := .int ((cst C z y.1 l).1 : Nat)) rfl (dv 10) de_int) de_int) (de_add (de_ixT (i := 1) (d := .int ((cst C z y.1 l).2 : Nat)) rfl (dv 10) de_int) de_int)).is (by simp [pD]))) (fun h => ?_) fun h => ?_) ?_
        · have h := of_decide_eq_true h.symm
          refine db_one (ds_put (kvs := keysT ndK fs) (k := ndK (y.1, l)) 0 (hu9 hr) de_bl (dp 5) (de_pair (dv 6) (dv 9)) (nd_kd (y.1, l)) (ndK_depth _) (by simp [keysT]; omega) fun d hd => ?_)
          cases hd
          rw [keysT_put ndK_inj fk.nd]
          refine ⟨addN fs (y.1, l), rfl, rfl, ⟨nd_addN fk.nd, fun x hx => ?_, fun x hx => ?_⟩, ?_, fun x => ?_⟩
          · rcases mem_addN.mp hx with h | rfl
            · exact fk.pl x h
            · exact hyp
          · rcases mem_addN.mp hx with h | rfl
            · exact fk.st x h
            · exact hlm
          · have := len_addN (l := fs) (x := (y.1, l)); omega
          · rw [mem_addN]
            exact ⟨fun q => q.imp id fun e => ⟨e, h⟩, fun q => q.imp id fun e => e.1⟩
        · have h := of_decide_eq_false h.symm
          exact db_nil ⟨fs, rfl, rfl, fk, by omega, fun x => ⟨.inl, fun q => q.elim id fun e => absurd e.2 h⟩⟩
        rintro _ _ ⟨fs2, rfl, rfl, fk2, fl2, hfs2⟩
        -- the letter read
        have fin : ∀ fs3 : List Node, (∀ x, x ∈ fs3 ↔ x ∈ fs2 ∨ (y.1 < z.length ∧ x = (y.1 + 1, l) ∧ cst C z y.1 y.2 = ((cst C z (y.1 + 1) l).1 + (if z[y.1]? = some c then 0 else 1), (cst C z (y.1 + 1) l).2 + 1))) → ∀ x, x ∈ fs3 ↔ (∃ y ∈ ns.take k, letS C z c y x) ∨ ∃ l ∈ (nexts C y.2 c).take (j + 1), letL C z c y l x := by
          intro fs3 h3 x
          rw [h3, hfs2, hfs]
          constructor
          · rintro (((h | ⟨l', h1, h2⟩) | ⟨rfl, h2⟩) | ⟨h0, rfl, h2⟩)
            · exact .inl h
            · exact .inr ⟨l', (take_mem hl).mpr (.inl h1), h2⟩
            · exact .inr ⟨l, (take_mem hl).mpr (.inr rfl), rfl, .inl ⟨rfl, h2⟩⟩
            · exact .inr ⟨l, (take_mem hl).mpr (.inr rfl), rfl, .inr ⟨h0, rfl, h2⟩⟩
          · rintro (h | ⟨l', h1, h2⟩)
            · exact .inl (.inl (.inl h))
            · rcases (take_mem hl).mp h1 with h1 | rfl
              · exact .inl (.inl (.inr ⟨l', h1, h2⟩))
              · obtain ⟨e, ⟨e1, e2⟩ | ⟨e0, e1, e2⟩⟩ := h2
                · exact .inl (.inr ⟨Prod.ext e1 e, e2⟩)
                · exact .inr ⟨e0, Prod.ext e1 e, e2⟩
        refine db_one (ds_if (dt_lt (dv 6) (de_lenS (z := S z) (by rw [S_len]; omega) (dv 1) T.len)) (fun h => ?_) fun h => ?_)
        · have h := of_decide_eq_true h.symm
          rw [S_len] at h
          have hlt : y.1 < z.length := by omega
          have hz : z[y.1]? = some z[y.1] := List.getElem?_eq_getElem hlt
          refine db_cons (ds_set 10 (de_ixV (kvs := rowK (states C) (cst C z (y.1 + 1))) (hu9 hr) (st_kd l) (stK_depth _) (hrow _) (de_ixL (cs_at (i := y.1 + 1) hlt) (dv 3) ((de_add (dv 6) de_int).is (by simp))) (dv 9)) (fun d hd => ?_) sc23.nd)
          cases hd
          have e3 : (if (!decide (S [c] = ⟨#[z[y.1]]⟩)) = true then (1 : Int) else 0) = ((if z[y.1]? = some c then 0 else 1 : Nat) : Int) := by
            rw [hz]
            by_cases e : z[y.1] = c
            · rw [decide_eq_true (sign_eq.mpr e).symm, e, if_pos rfl]; rfl
            · rw [decide_eq_false (fun h => e (sign_eq.mp h.symm)), if_neg (c := some z[y.1] = some c) (fun h => e (Option.some.inj h))]; rfl
          refine db_one (ds_if (dt_eqP (u := cst C z y.1 y.2) (v := ((cst C z (y.1 + 1) l).1 + (if z[y.1]? = some c then 0 else 1), (cst C z (y.1 + 1) l).2 + 1)) hu64 (dv 8) ((de_pair (de_add (de_ixT (i := 0) (d := .int ((cst C z (y.1 + 1) l).1 : Nat)) rfl (dv 10) de_int) (de_intB (de_neS (dv 4) (de_ixS (z := S z) (by rw [S_len]; omega) (S_at hz) (dv 1) (dv 6))) T.int)) (de_add (de_ixT (i := 1) (d := .int ((cst C z (y.1 + 1) l).2 : Nat)) rfl (dv 10) de_int) de_int)).is (by rw [e3]; simp [pD]))) (fun h => ?_) fun h => ?_)
          · have h := of_decide_eq_true h.symm
            refine db_one (ds_put (kvs := keysT ndK fs2) (k := ndK (y.1 + 1, l)) 0 (hu9 hr) de_bl (dp 5) (de_pair (de_add (dv 6) de_int) (dv 9)) (by rw [← nd_kd]; simp [ndD]) (ndK_depth _) (by simp [keysT]; omega) fun d hd => ?_)
            cases hd
            rw [keysT_put ndK_inj fk2.nd]
            refine ⟨addN fs2 (y.1 + 1, l), _, _, rfl, rfl, ⟨nd_addN fk2.nd, fun x hx => ?_, fun x hx => ?_⟩, fin _ fun x => ?_⟩
            · rcases mem_addN.mp hx with h | rfl
              · exact fk2.pl x h
              · exact hlt
            · rcases mem_addN.mp hx with h | rfl
              · exact fk2.st x h
              · exact hlm
            · rw [mem_addN]
              exact ⟨fun q => q.imp id fun e => ⟨hlt, e, h⟩, fun q => q.imp id fun e => e.2.1⟩
          · have h := of_decide_eq_false h.symm
            exact db_nil ⟨fs2, _, _, rfl, rfl, fk2, fin _ fun x => ⟨.inl, fun q => q.elim id fun e => absurd e.2.2 h⟩⟩
        · have h := of_decide_eq_false h.symm
          rw [S_len] at h
          exact db_nil ⟨fs2, _, _, rfl, rfl, fk2, fin _ fun x => ⟨.inl, fun q => q.elim id fun e => absurd e.1 (by omega)⟩⟩
      · rintro Γ1 M1 ⟨fs, x9, x10, rfl, rfl, fk, hfs⟩
        rw [List.length_map, List.take_length] at hfs
        refine ⟨fs, _, _, _, _, _, rfl, rfl, fk, fun x => ?_⟩
        rw [hfs]
        constructor
        · rintro (⟨y', h1, h2⟩ | ⟨l, h1, h2⟩)
          · exact ⟨y', (take_mem hy).mpr (.inl h1), h2⟩
          · exact ⟨y, (take_mem hy).mpr (.inr rfl), l, h1, h2⟩
        · rintro ⟨y', h1, h2⟩
          rcases (take_mem hy).mp h1 with h1 | rfl
          · exact .inl ⟨y', h1, h2⟩
          · obtain ⟨l, h3, h4⟩ := h2
            exact .inr ⟨l, h3, h4⟩
    · rintro Γ1 M1 ⟨fs, x6, x7, x8, x9, x10, rfl, rfl, fk, hfs⟩
      rw [List.length_map, List.take_length] at hfs
      exact db_one (ds_retD 5 0 (dp 5) ⟨⟨fs, rfl, fk, hfs⟩, by simp⟩)
end
end K59
namespace K59
open PySem PySem.Spec PyProof.Rows L2
def n0 : Node := (0, none)
theorem nd0 : D.tup [.int 0, .none] = kd (ndK n0) := nd_kd (0, none)
theorem dep0 : (ndK n0).depth ≤ 8 := ndK_depth (0, none)
theorem tupA {X : Cx} {Γ : Gam} {M : Mem} {a b : Expr} {k : Nat} {p : Pos} (ha : DE X Γ M a (Is (.int 0))) (hb : DE X Γ M b (Is .none)) (hs : starEach [a, b] X.env = (false, eval a X.env) :: starEach [b] X.env) (hs2 : starEach [b] X.env = (false, eval b X.env) :: starEach [] X.env) : DE X Γ M (.Tuple [a, b] k p) (Is (kd (ndK n0))) :=
  DE.is (d := .tup [.int 0, .none]) (de_pair ha hb hs hs2) nd0
theorem dmA {X : Cx} {Γ : Gam} {M : Mem} {a b : Expr} {p : Pos} (hu : X.A.units + 9 < cLine) (ha : ∀ M, DE X Γ M a (Is (kd (ndK n0)))) (hb : ∀ M, DE X Γ M b (Is (.bool true))) : DE X Γ M (.Dict [some a] [b] p) (Is (.dict [(ndK n0, .bool true)])) :=
  de_ofMd (dm_disp1 hu dep0 ha hb)
theorem ns0 : D.dict [(ndK n0, .bool true)] = nsD [n0] := rfl
theorem dmB {X : Cx} {Γ : Gam} {M : Mem} {a b : Expr} {p : Pos} (hu : X.A.units + 9 < cLine) (ha : ∀ M, DE X Γ M a (Is (kd (ndK n0)))) (hb : ∀ M, DE X Γ M b (Is (.bool true))) : DE X Γ M (.Dict [some a] [b] p) (Is (nsD [n0])) := by
  rw [← ns0]
  exact dmA hu ha hb
theorem nok0 (C : List (List Nat)) (z : List Nat) : NodesOk C z [n0] := ⟨by simp, fun x hx => by rw [List.mem_singleton.mp hx]; exact Nat.zero_le _, fun x hx => by rw [List.mem_singleton.mp hx]; exact mem_states.mpr (.inl rfl)⟩
theorem de_dcD {X : Cx} {Γ : Gam} {M : Mem} {tg iter kx vx : Expr} {scope : Scope} {own : List (Str × Nat)} {pos : Pos} {RL : List D → Prop} {kvs : List (NestedKey × D)} (hu : X.A.units + 9 < cLine) (hc : X.calm = true) (hN : X.N.Nodup) (hi : DI X Γ M tg iter RL) (bk : BlkOk X.N X.env.scope scope own) (h : ∀ ds, RL ds → TurnsD X Γ M scope own tg kx vx ds (fun es => es = kvs)) (hs : ∀ x, foldedSetIterable iter X.env x = pure x := by intro _; rfl) :
    DE X Γ M (.DictComp kx vx [⟨tg, iter, [], 0⟩] scope pos) (Is (.dict kvs)) := de_ofMd fun G F H σ Q ok sl q => dm_dc hu hc hN hi bk h hs G F H σ Q ok sl fun a o F' H' r s k => by
  obtain ⟨es, rfl, rfl⟩ := r
  exact q a _ F' H' rfl s k
section
variable {P : Program} {w : World} {K : PySem.W.Frag} {mg : Str → Option Value} {base : Heap}
abbrev NNear : List Str := ["code", "string", "costs", "nodes", "found", "turn", "letter", "later"]
theorem sc24 : FnScope NNear ["code", "string"] (defScope (topS 24)) := ⟨rfl, rfl, rfl, by decide +kernel, rfl, by decide +kernel, by decide +kernel⟩
def NearR (C : List (List Nat)) (z : List Nat) : D → Prop := fun d => ∃ p ns, d = sD p ∧ Run C z p ns ∧ (p.length = (cst C z 0 none).2 ∨ (p.length ≤ (cst C z 0 none).2 ∧ Stuck C z ns))
def ANear : List D → (D → Prop) → Prop := fun ds R => ∃ C z, ds = [cD C, sD z] ∧ CodeOk C ∧ TextOk z ∧ (cst C z 0 none).2 ≤ 1000 ∧ R = NearR C z
theorem nodes_of {C : List (List Nat)} {z : List Nat} {ns : List Node} (h : ns.length > 0) : ∃ y, y ∈ ns := ⟨ns[0], List.getElem_mem h⟩
theorem d_nearest {f : Addr} {fd : FuncData} (T : Tx mg) (F : Fun K "nearest" "nearest" (topS 24) f fd) (hmg : mg "nearest" = some (.ref f)) (F18 : Dn P w K mg base "costs_from" 4 (PrP ACosts)) (F22 : Dn P w K mg base "without_letters" 1 (PrP AWo)) (F23 : Dn P w K mg base "with_letter" 3 (PrP AWi)) : Dn P w K mg base "nearest" 5 (PrP ANear) := by
  refine fn_D F sc24 hmg (F.binds (ps := ["code", "string"]) fun _ _ _ _ _ _ us hl => match us, hl with | [_, _], _ => rfl) (by decide) ?_ ?_
  · rintro as M R M' ⟨rfl, rfl, ds, rfl, C, z, rfl, _⟩
    exact ⟨rfl, List.nodup_nil⟩
  · rintro cdv A outer s H E as M R M' hr ⟨rfl, rfl, ds, rfl, C, z, rfl, ok, zk, hL, rfl⟩
    obtain ⟨tl, hl⟩ := T.every
    have zs := zk.short
    have ql := states_len ok
    refine db_cons (ds_set 2 (de_callF (R := Is (csD C z)) [cD C, sD z] F18 hr (da_cons (dv 0) (da_cons (dv 1) da_nil)) ⟨C, z, rfl, ok, zk, rfl⟩) (fun d hd => ?_) sc24.nd)
    cases hd
    refine db_cons (ds_set 3 (de_callF [nsD [n0], csD C z, .int (z.length : Nat)] F22 (hr.mono (by decide)) ?_ ⟨C, z, [n0], rfl, ok, zk, nok0 C z, rfl⟩) (fun d hd => ?_) sc24.nd)
    · show DA _ _ _ _ (IsA [.dat (nsD [n0]), .dat (csD C z), .dat (.int (z.length : Nat))])
      refine da_cons (d := nsD [n0]) (as := [.dat (csD C z), .dat (.int (z.length : Nat))]) ?_ ?_
      · exact dmB (hu9 hr) (fun M => tupA de_int de_non rfl rfl) fun M => de_bl
      · refine da_cons (d := csD C z) (dv 2) ?_
        · exact da_cons ((de_lenS (z := S z) (by rw [S_len]; omega) (dv 1) T.len).is (by rw [S_len])) da_nil
    obtain ⟨ns, rfl, nk, hns⟩ := hd
    have hrun : Run C z [] ns := .zero fun x => by rw [hns]; simp [n0]
    refine db_cons (ds_set 4 (de_str (x := "")) (fun d hd => ?_) sc24.nd)
    cases hd
    refine db_cons (ds_for (di_rg1 (n := ((cst C z 0 none).2 : Nat)) (de_ixT (i := 1) (ds := [.int ((cst C z 0 none).1 : Nat), .int ((cst C z 0 none).2 : Nat)]) rfl (de_ixV (kvs := rowK (states C) (cst C z 0)) (k := .none) (hu9 hr) rfl (by decide) (row_look (s := none) (mem_states.mpr (.inl rfl))) (de_ixL (cs_at (i := 0) (Nat.zero_le _)) (dv 2) de_int) de_non) de_int) (RgOk.of_le (by decide) (by omega) (by decide) (by omega)) T.rng) (fun ds e => ?_) rfl PassesOwn.never)
    cases e
    have el : (rgD 0 ((cst C z 0 none).2 : Nat)).length = (cst C z 0 none).2 := by simp [rgD]
    refine ⟨fun t Γ M => ∃ p ns x5 x6 x7, Γ = [.dat (cD C), .dat (sD z), .dat (csD C z), .dat (nsD ns), .dat (sD p), x5, x6, x7] ∧ M = [] ∧ NodesOk C z ns ∧ Run C z p ns ∧ (p.length = t ∨ (p.length ≤ t ∧ Stuck C z ns)), ⟨[], ns, _, _, _, rfl, rfl, nk, hrun, .inl rfl⟩, ?_, ?_⟩
    · rintro t d Γ1 M1 hd ⟨p, ns, x5, x6, x7, rfl, rfl, nk, hrun, hp⟩
      have ht : t < (cst C z 0 none).2 := by rw [← el]; exact (List.getElem?_eq_some_iff.mp hd).1
      have hpl : p.length ≤ t := hp.elim (fun e => Nat.le_of_eq e) fun e => e.1
      refine ⟨_, dg_name 5 sc24.nd, db_one (ds_for (di_str (z := "abc") (de_gstr hl)) (fun ds e => ?_) rfl PassesOwn.never)⟩
      cases e
      rw [S_abc, S_signs]
      refine ⟨fun j Γ M => ∃ x6 x7, Γ = [.dat (cD C), .dat (sD z), .dat (csD C z), .dat (nsD ns), .dat (sD p), .dat d, x6, x7] ∧ M = [] ∧ ∀ c ∈ ABC.take j, ¬ ∃ y ∈ ns, ∃ x, letS C z c y x, ⟨_, _, rfl, rfl, by simp⟩, ?_, ?_⟩
      · rintro j d2 Γ1 M1 hd2 ⟨x6, x7, rfl, rfl, hno⟩
        rw [List.getElem?_map] at hd2
        obtain ⟨c, hc, rfl⟩ := Option.map_eq_some_iff.mp hd2
        have hcm : c ∈ ABC := List.mem_of_getElem? hc
        refine ⟨_, dg_name 6 sc24.nd, db_cons (ds_set 7 (de_callF [cD C, sD z, nsD ns, csD C z, sD [c]] F23 (hr.mono (by decide)) (da_cons (dv 0) (da_cons (dv 1) (da_cons (dv 3) (da_cons (dv 2) (da_cons (dv 6) da_nil))))) ⟨C, z, ns, c, rfl, ok, zk, nk, rfl⟩) (fun d3 hd3 => ?_) sc24.nd)⟩
        obtain ⟨ns2, rfl, nk2, hns2⟩ := hd3
        have nl2 := nk2.len zs ql
        refine db_one (ds_if (dt_gt (de_lenD (kvs := keysT ndK ns2) (by simp [keysT]; omega) (dv 7) T.len) de_int) (fun h => ?_) fun h => ?_)
        · have h := of_decide_eq_true h.symm
          have hpos : 0 < ns2.length := by simp [keysT] at h; exact h
          refine db_cons (ds_set 4 (de_addS (i := S p) (j := S [c]) (by rw [S_len, S_len]; simp; omega) (dv 4) (dv 6)) (fun d hd => ?_) sc24.nd)
          cases hd
          refine db_cons (ds_set 3 (de_callF [nsD ns2, csD C z, .int (z.length : Nat)] F22 (hr.mono (by decide)) ?_ ⟨C, z, ns2, rfl, ok, zk, nk2, rfl⟩) (fun d hd => ?_) sc24.nd)
          · show DA _ _ _ _ (IsA [.dat (nsD ns2), .dat (csD C z), .dat (.int (z.length : Nat))])
            refine da_cons (d := nsD ns2) (as := [.dat (csD C z), .dat (.int (z.length : Nat))]) (dv 7) ?_
            refine da_cons (d := csD C z) (dv 2) ?_
            exact da_cons ((de_lenS (z := S z) (by rw [S_len]; omega) (dv 1) T.len).is (by rw [S_len])) da_nil
          obtain ⟨ns3, rfl, nk3, hns3⟩ := hd
          refine db_one (ds_break ⟨p ++ [c], ns3, _, _, _, by rw [S_cat]; rfl, rfl, nk3, ?_, ?_⟩)
          · refine .next hrun hcm (fun c' hc' hlt => ?_) ?_ fun x => ?_
            · refine hno c' ?_
              have hj : j < 3 := (List.getElem?_eq_some_iff.mp hc).1
              have e1 : c = 97 + j := by
                match j, hj with
                | 0, _ => simpa using hc.symm
                | 1, _ => simpa using hc.symm
                | 2, _ => simpa using hc.symm
              simp only [ABC, List.mem_cons, List.not_mem_nil, or_false] at hc'
              match j, hj with
              | 0, _ => omega
              | 1, _ => simp [ABC]; omega
              | 2, _ => simp [ABC]; omega
            · obtain ⟨x, hx⟩ := nodes_of (C := C) (z := z) hpos
              obtain ⟨y, h1, h2⟩ := (hns2 x).mp hx
              exact ⟨y, h1, x, h2⟩
            · rw [hns3]
              constructor
              · rintro ⟨x1, h1, h2⟩
                obtain ⟨y, h3, h4⟩ := (hns2 x1).mp h1
                exact ⟨y, h3, x1, h4, h2⟩
              · rintro ⟨y, h3, x1, h4, h2⟩
                exact ⟨x1, (hns2 x1).mpr ⟨y, h3, h4⟩, h2⟩
          · left
            rw [List.length_append, List.length_singleton]
            rcases hp with e | ⟨_, hst⟩
            · omega
            · obtain ⟨x, hx⟩ := nodes_of (C := C) (z := z) hpos
              obtain ⟨y, h1, h2⟩ := (hns2 x).mp hx
              exact absurd ⟨y, h1, x, h2⟩ (hst c hcm)
        · have h := of_decide_eq_false h.symm
          have hnil : ns2 = [] := by
            rw [← List.length_eq_zero_iff]
            simp [keysT] at h
            rw [h]; rfl
          subst hnil
          refine db_nil ⟨_, _, rfl, rfl, fun c' hc' => ?_⟩
          rcases (take_mem (l := ABC) hc).mp hc' with h1 | rfl
          · exact hno c' h1
          · rintro ⟨y, hy, x, hx⟩
            have := (hns2 x).mpr ⟨y, hy, hx⟩
            simp at this
      · rintro Γ1 M1 ⟨x6, x7, rfl, rfl, hno⟩
        exact ⟨p, ns, _, _, _, rfl, rfl, nk, hrun, .inr ⟨by omega, fun c hc => hno c hc⟩⟩
    · rintro Γ1 M1 ⟨p, ns, x5, x6, x7, rfl, rfl, nk, hrun, hp⟩
      rw [el] at hp
      refine db_one (ds_ret (R := Is (sD p)) (dv 4) fun d r => ⟨⟨p, ns, r, hrun, hp⟩, by simp⟩)
abbrev NCor : List Str := ["code", "string"]
theorem sc25 : FnScope NCor ["code", "string"] (defScope (topS 25)) := ⟨rfl, rfl, rfl, by decide +kernel, rfl, by decide +kernel, by decide +kernel⟩
theorem d_correction {f : Addr} {fd : FuncData} (F : Fun K "correction" "correction" (topS 25) f fd) (hmg : mg "correction" = some (.ref f)) (F15 : Dn P w K mg base "check_string" 4 (PrP ACheckS)) (F24 : Dn P w K mg base "nearest" 5 (PrP ANear)) : Dn P w K mg base "correction" 6 (PrP ANear) := by
  refine fn_D F sc25 hmg (F.binds (ps := ["code", "string"]) fun _ _ _ _ _ _ us hl => match us, hl with | [_, _], _ => rfl) (by decide) ?_ ?_
  · rintro as M R M' ⟨rfl, rfl, ds, rfl, C, z, rfl, _⟩
    exact ⟨rfl, List.nodup_nil⟩
  · rintro cdv A outer s H E as M R M' hr ⟨rfl, rfl, ds, rfl, C, z, rfl, ok, zk, hL, rfl⟩
    refine db_cons (ds_expr (R := Is .none) (de_callF [cD C, sD z] F15 (hr.mono (by decide)) (da_cons (dv 0) (da_cons (dv 1) da_nil)) ⟨C, z, rfl, ok, zk, rfl⟩) ?_)
    exact db_one (ds_ret (R := NearR C z) (de_callF [cD C, sD z] F24 hr (da_cons (dv 0) (da_cons (dv 1) da_nil)) ⟨C, z, rfl, ok, zk, hL, rfl⟩) fun d r => ⟨r, by simp⟩)
abbrev NFe : List Str := ["code", "string", "states", "at", "letter", "found", "state"]
theorem sc26 : FnScope NFe ["code", "string"] (defScope (topS 26)) := ⟨rfl, rfl, rfl, by decide +kernel, rfl, by decide +kernel, by decide +kernel⟩
def FirstR (C : List (List Nat)) (z : List Nat) : D → Prop := fun d => (∃ k, d = .int ((k + 1 : Nat) : Int) ∧ k < z.length ∧ (∃ t, Rds C none (z.take k) t) ∧ ∀ t, ¬ Rds C none (z.take (k + 1)) t) ∨ (d = .none ∧ ∃ t, Rds C none z t)
def AFirst : List D → (D → Prop) → Prop := fun ds R => ∃ C z, ds = [cD C, sD z] ∧ CodeOk C ∧ TextOk z ∧ R = FirstR C z
theorem d_first {f : Addr} {fd : FuncData} (T : Tx mg) (F : Fun K "first_error" "first_error" (topS 26) f fd) (hmg : mg "first_error" = some (.ref f)) (F15 : Dn P w K mg base "check_string" 4 (PrP ACheckS)) (F13 : Dn P w K mg base "next_states" 2 (PrP ANext)) : Dn P w K mg base "first_error" 5 (PrP AFirst) := by
  refine fn_D F sc26 hmg (F.binds (ps := ["code", "string"]) fun _ _ _ _ _ _ us hl => match us, hl with | [_, _], _ => rfl) (by decide) ?_ ?_
  · rintro as M R M' ⟨rfl, rfl, ds, rfl, C, z, rfl, _⟩
    exact ⟨rfl, List.nodup_nil⟩
  · rintro cdv A outer s H E as M R M' hr ⟨rfl, rfl, ds, rfl, C, z, rfl, ok, zk, rfl⟩
    have zs := zk.short
    have ql := states_len ok
    refine db_cons (ds_expr (R := Is .none) (de_callF [cD C, sD z] F15 hr (da_cons (dv 0) (da_cons (dv 1) da_nil)) ⟨C, z, rfl, ok, zk, rfl⟩) ?_)
    refine db_cons (ds_set 2 (de_list (ds := [.none]) (da_cons de_non da_nil) rfl (by show 1 ≤ 100000; decide)) (fun d hd => ?_) sc26.nd)
    cases hd
    refine db_cons (ds_for (di_enumS (z := S z) (dv 1) T.enm) (fun ds e => ?_) rfl PassesOwn.never)
    cases e
    rw [S_signs]
    refine ⟨fun k Γ M => ∃ ss x3 x4 x5 x6, Γ = [.dat (cD C), .dat (sD z), .dat (.list (ss.map stD)), x3, x4, x5, x6] ∧ M = [] ∧ ss.Nodup ∧ (∀ s ∈ ss, s ∈ states C) ∧ (∀ t, t ∈ ss ↔ Rds C none (z.take k) t) ∧ ss ≠ [], ⟨[none], _, _, _, _, rfl, rfl, by simp, fun s hs => by rw [List.mem_singleton.mp hs]; exact mem_states.mpr (.inl rfl), fun t => ?_, by simp⟩, ?_, ?_⟩
    · rw [List.mem_singleton, List.take_zero]
      exact ⟨fun e => by rw [e]; exact .nil, fun h => by generalize hu : ([] : List Nat) = u at h; cases h with | nil => rfl | snoc _ _ => simp at hu⟩
    · rintro k d Γ1 M1 hd ⟨ss, x3, x4, x5, x6, rfl, rfl, snd, sst, hss, hne⟩
      obtain ⟨v, hv, rfl⟩ := enumD_get hd
      rw [List.getElem?_map] at hv
      obtain ⟨c, hc, rfl⟩ := Option.map_eq_some_iff.mp hv
      have hk := (List.getElem?_eq_some_iff.mp hc).1
      have sl := nd_len snd sst
      rw [show 0 + k = k by omega]
      refine ⟨_, dg_two rfl (dg_name 3 sc26.nd) (dg_name 4 sc26.nd), ?_⟩
      refine db_cons (ds_setM 5 (dm_list da_nil) (fun q o ho => ?_) sc26.nd)
      cases ho
      refine db_cons (ds_for (RL := IsL (ss.map stD)) (di_L (dv 2)) (fun ds e => ?_) rfl PassesOwn.never)
      cases e
      refine ⟨fun j Γ M => ∃ x6, Γ = [.dat (cD C), .dat (sD z), .dat (.list (ss.map stD)), .dat (.int (k : Nat)), .dat (sD [c]), .ptr q, x6] ∧ M = [(q, .ls (((ss.take j).flatMap fun s => nexts C s c).map stD))], ⟨_, rfl, rfl⟩, ?_, ?_⟩
      · rintro j d Γ1 M1 hd2 ⟨x6, rfl, rfl⟩
        rw [List.getElem?_map] at hd2
        obtain ⟨st, hs, rfl⟩ := Option.map_eq_some_iff.mp hd2
        have hsm := sst st (List.mem_of_getElem? hs)
        refine ⟨_, dg_name 6 sc26.nd, db_one (ds_extend 0 (dp 5) (de_callF [cD C, stD st, sD [c]] F13 (hr.mono (by decide)) (da_cons (dv 0) (da_cons (dv 6) (da_cons (dv 4) da_nil))) ⟨C, st, c, rfl, ok, hsm, rfl⟩) fun d hd => ⟨(nexts C st c).map stD, hd, ?_, _, rfl, ?_⟩)⟩
        · have h1 : ∀ l : List St, (l.flatMap fun s => nexts C s c).length ≤ 5 * l.length := by
            intro l
            induction l with
            | nil => simp
            | cons s l ih =>
              have h2 := nexts_len (C := C) (c := c) s
              have h3 := ok.few
              rw [List.flatMap_cons, List.length_append, List.length_cons]
              omega
          have h2 := h1 (ss.take j)
          have h3 := nexts_len (C := C) (c := c) st
          have h4 := ok.few
          rw [List.length_take] at h2
          rw [List.length_map, List.length_map]
          omega
        · rw [List.take_add_one, hs, List.flatMap_append]
          simp
      rintro Γ1 M1 ⟨x6, rfl, rfl⟩
      rw [List.length_map, List.take_length]
      generalize hfd : (ss.flatMap fun s => nexts C s c) = fd
      have hmem : ∀ t, t ∈ fd ↔ Rds C none (z.take (k + 1)) t := by
        intro t
        rw [← hfd, List.mem_flatMap, List.take_add_one, hc]
        constructor
        · rintro ⟨s, h1, h2⟩
          exact .snoc ((hss s).mp h1) h2
        · intro h
          generalize hu : z.take k ++ (some c).toList = u at h
          cases h with
          | nil => simp at hu
          | snoc h1 h2 =>
            have := List.append_inj' hu rfl
            obtain ⟨e1, e2⟩ := this
            simp only [Option.toList, List.cons.injEq, and_true] at e2
            rw [← e1] at h1
            rw [← e2] at h2
            exact ⟨_, (hss _).mpr h1, h2⟩
      have fst : ∀ s ∈ fd, s ∈ states C := by
        intro s hs
        rw [← hfd, List.mem_flatMap] at hs
        obtain ⟨s', h1, h2⟩ := hs
        exact nexts_in (sst s' h1) h2
      refine db_freezeL 5 0 ?_
      refine db_cons (ds_if (dt_eqI (de_lenL (dv 5) T.len) de_int) (fun h => ?_) fun h => db_nil ?_)
      · have h := of_decide_eq_true h.symm
        rw [List.length_map] at h
        have hnil : fd = [] := List.length_eq_zero_iff.mp (by omega)
        subst hnil
        obtain ⟨s0, hs0⟩ := List.exists_mem_of_ne_nil ss hne
        refine db_one (ds_ret (R := Is (.int ((k + 1 : Nat) : Int))) ((de_add (dv 3) de_int).is (by simp)) fun d r => ⟨.inl ⟨k, r, hk, ⟨s0, (hss s0).mp hs0⟩, fun t ht => ?_⟩, by simp⟩)
        have := (hmem t).mpr ht
        simp at this
      · have h := of_decide_eq_false h.symm
        rw [List.length_map] at h
        have dn : (dedup fd).length ≤ 9 := by
          have := nd_len (nd_foldN fd [] List.nodup_nil) fun x hx => fst x (mem_dedup.mp hx)
          exact Nat.le_trans this ql
        refine db_one (ds_set 2 (R := Is (.list ((dedup fd).map stD))) ((de_ofM (dm_listD (kvs := keysT stK (dedup fd)) rfl (by simp [keysT]; omega) (de_dcD (RL := IsL (fd.map stD)) (hu9 hr) rfl sc26.nd (di_L (dv 5)) (own := [("state", 6)]) (blkOk_by (show blkC NFe (defScope (topS 26)) _ _ = true by decide +kernel)) fun ds e => ?_) T.lst)).is ?_) (fun d hd => ?_) sc26.nd)
        · cases e
          refine ⟨fun j acc => acc = keysT stK ((fd.take j).foldl addN []), rfl, fun j d acc q hd hI => ?_, fun acc hI => ?_⟩
          · rw [List.getElem?_map] at hd
            obtain ⟨t, ht, rfl⟩ := Option.map_eq_some_iff.mp hd
            have tn : ((fd.take j).foldl addN []).length ≤ 9 := Nat.le_trans (nd_len (nd_foldN _ [] List.nodup_nil) fun x hx => fst x (((mem_foldN _ _).mp hx).elim (fun h => by simp at h) List.mem_of_mem_take)) ql
            refine ⟨by rw [hI]; simp [keysT]; omega, _, stK t, .bool true, stK_depth t, ?_, fun s0 H0 C' cl fp => ⟨dgc_name 6 sc26.nd, (dv 6).is (st_kd t), de_bl⟩⟩
            show dput (stK t) (D.bool true) acc = keysT stK ((fd.take (j + 1)).foldl addN [])
            rw [hI, keysT_put (fun a b => stK_inj) (nd_foldN _ [] List.nodup_nil), foldl_take ht]
          · show acc = _
            rw [hI, List.length_map, List.take_length]
            rfl
        · show D.list _ = D.list _
          unfold keysT
          rw [List.map_map]
          congr 1
          apply List.map_congr_left
          intro s _
          exact (st_kd s).symm
        · cases hd
          refine ⟨dedup fd, _, _, _, _, rfl, rfl, nd_foldN _ [] List.nodup_nil, fun s hs => fst s (mem_dedup.mp hs), fun t => by rw [mem_dedup, hmem], fun e => h ?_⟩
          cases fd with
          | nil => rfl
          | cons a l =>
            have : a ∈ dedup (a :: l) := mem_dedup.mpr List.mem_cons_self
            rw [e] at this
            simp at this
    · rintro Γ1 M1 ⟨ss, x3, x4, x5, x6, rfl, rfl, snd, sst, hss, hne⟩
      rw [enumD_len, List.length_map, List.take_length] at hss
      obtain ⟨s0, hs0⟩ := List.exists_mem_of_ne_nil ss hne
      exact db_one (ds_ret (R := Is .none) de_non fun d r => ⟨.inr ⟨r, s0, (hss s0).mp hs0⟩, by simp⟩)
end
end K59
namespace K59
open PySem PySem.Spec PyProof.Rows L2
theorem Ok.chg {K : PySem.W.Frag} {w : World} {G F H : Hp} {M : Mem} {a : Addr} {o o' : MO} {j : Nat} (k : Ok K w G F M H) (hm : M[j]? = some (a, o)) (h : MOk K w F H a o') : Ok K w G F (M.set j (a, o')) H := by
  obtain ⟨fa, ga, _⟩ := k.m a o (List.mem_of_getElem? hm)
  have hi := (List.getElem?_eq_some_iff.mp hm).1
  refine ⟨k.f, k.g, k.fg, fun b o2 hb => ?_, ?_⟩
  · obtain ⟨i, hj⟩ := List.mem_iff_getElem?.mp hb
    by_cases e : j = i
    · subst e
      rw [List.getElem?_set_self hi] at hj
      cases hj
      exact ⟨fa, ga, h⟩
    · rw [List.getElem?_set_ne e] at hj
      exact k.m b o2 (List.mem_of_getElem? hj)
  · have e : (M.set j (a, o')).map Prod.fst = M.map Prod.fst := by
      rw [List.map_set]
      apply List.ext_getElem?
      intro i
      by_cases e : j = i
      · subst e
        rw [List.getElem?_set_self (by simpa using hi), List.getElem?_map, hm]
        rfl
      · rw [List.getElem?_set_ne e]
    rw [e]
    exact k.nd
abbrev strD (ns : List Int) (c k : Int) : List D := [.list (ns.map D.int), .int c, .int k]
section
variable {X : Cx} {Γ : Gam} {M : Mem} {sts : List Stmt} {P : Post} {z : Addr} {a b e : Expr} {pos p : Pos} {x : Str} {tg : Expr}
theorem db_open (j : Nat) (h : ∀ ns c k, ns.length ≤ 63 → 0 ≤ c → 0 ≤ k → DB X Γ (M.set j (z, .ls (strD ns c k))) sts P) (hm : M[j]? = some (z, .strm) := by rfl) : DB X Γ M sts P := fun G F H σ D ok sl W => by
  obtain ⟨_, _, ns, c, k, xs, h1, h2, h3, h4, h5⟩ := ok.m z _ (mem_at hm)
  exact h ns c k h1 h2 h3 G F H σ D (ok.chg hm ⟨xs, h4, h5⟩) sl W
theorem db_close (j : Nat) {ns : List Int} {c k : Int} (h1 : ns.length ≤ 63) (h2 : 0 ≤ c) (h3 : 0 ≤ k) (h : DB X Γ (M.set j (z, .strm)) sts P) (hm : M[j]? = some (z, .ls (strD ns c k)) := by rfl) : DB X Γ M sts P := fun G F H σ D ok sl W => by
  obtain ⟨_, _, xs, h4, h5⟩ := ok.m z _ (mem_at hm)
  exact h G F H σ D (ok.chg hm ⟨ns, c, k, xs, h1, h2, h3, h4, h5⟩) sl W
theorem od_neI {K : PySem.W.Frag} {w : World} {i j : Int} : OpD K w rNe (.int i) (.int j) (Is (.bool (!decide (i = j)))) := fun G F H M x y Q ok r1 r2 q => by
  cases r1; cases r2
  exact ⟨rfl, by rw [dec_Vi]; exact q _ _ F H rfl (Same.refl _) ok (.bl _)⟩
theorem dt_neI {i j : Int} (ha : DE X Γ M a (Is (.int i))) (hb : DE X Γ M b (Is (.int j))) : DT X Γ M (.Compare a [.NotEq] [b] pos) (IsT (!decide (i = j))) := dt_cmp op_ne od_neI ha hb
/-- range(e), the bound not fixed -/
theorem di_rg1R {Rn : Int → Prop} (ha : DE X Γ M a (fun d => ∃ n, d = .int n ∧ Rn n)) (hb : ∀ n, Rn n → RgOk 0 n) (hm : X.mg "range" = none) (hg : Gl X "range" := by rfl) (hs : starEach [a] X.env = (false, eval a X.env) :: starEach [] X.env := by rfl) : DI X Γ M tg (.Call (.Name "range" p) [a] [] pos) (fun ds => ∃ n, Rn n ∧ ds = rgD 0 n) := fun G F H σ Q ok sl q =>
  iMax_of (pi_range1 hg hm (pa_cons pe_max pa_nil hs) hs) (ha G F H σ _ ok sl fun v d F' H' r s k rp => by
    obtain ⟨n, rfl, hn⟩ := r
    have hb := hb n hn
    cases rp
    refine ⟨n, rfl, hb.2.2.1, hb.2.2.2.1, q _ _ F' H' ⟨n, hn, rfl⟩ s k fun k2 G2 F2 M2 H2 e2 ok2 => ⟨fun d hd => ?_, fun hk => ?_⟩⟩
    · unfold rgD at hd
      rw [List.getElem?_map] at hd
      obtain ⟨i, h1, rfl⟩ := Option.map_eq_some_iff.mp hd
      obtain ⟨h2, h3⟩ := List.getElem?_eq_some_iff.mp h1
      rw [List.getElem_range] at h3
      rw [List.length_range] at h2
      subst h3
      refine ⟨by show k2 < n.toNat; omega, fun x H' y => ?_⟩
      obtain ⟨rfl, rfl⟩ := y
      exact ⟨F2, Same.refl _, ok2, .int _⟩
    · show n.toNat ≤ k2
      rw [hk]; simp [rgD])
end
section
variable {P : Program} {w : World} {K : PySem.W.Frag} {mg : Str → Option Value} {base : Heap}
abbrev NLn : List Str := ["_law_stream_here", "_law_many", "_law_k", "_law_cell", "_law_digit"]
theorem sc29 : FnScope NLn ["_law_stream_here", "_law_many"] (defScope (topS 29)) := ⟨rfl, rfl, rfl, by decide +kernel, rfl, by decide +kernel, by decide +kernel⟩
def ADraw : List D → (D → Prop) → Prop := fun ds R => ∃ m : Int, ds = [.int m] ∧ 0 < m ∧ m < 100000 ∧ R = fun d => ∃ n : Nat, d = .int (n : Nat) ∧ (n : Int) < m
theorem d_draw {f : Addr} {fd : FuncData} (T : Tx mg) (F : Fun K "_law_next" "_law_next" (topS 29) f fd) (hmg : mg "_law_next" = some (.ref f)) : Dn P w K mg base "_law_next" 1 (PrS ADraw) := by
  refine fn_D F sc29 hmg (F.binds (ps := ["_law_stream_here", "_law_many"]) fun _ _ _ _ _ _ us hl => match us, hl with | [_, _], _ => rfl) (by decide) ?_ ?_
  · rintro as M R M' ⟨z, ds, rfl, rfl, rfl, m, rfl, _⟩
    exact ⟨rfl, by simp⟩
  · rintro cdv A outer s H E as M R M' hr ⟨z, ds, rfl, rfl, rfl, m, rfl, hm0, hm1, rfl⟩
    refine db_open 0 fun ns c k h1 h2 h3 => ?_
    refine db_seq (fun Γ M => ∃ x y c k, Γ = [.ptr z, .dat (.int m), x, y, .any] ∧ M = [(z, .ls (strD ns c k))] ∧ 0 ≤ c ∧ 0 ≤ k) (ds_if (dt_eqI (de_ixPL (i := 1) List.mem_cons_self rfl (dp 0) de_int) de_int) (fun h => ?_) fun h => db_nil ⟨_, _, _, _, rfl, rfl, h2, h3⟩) ?_
    · refine db_cons (ds_set 2 (de_ixPL (i := 2) (d := .int k) List.mem_cons_self rfl (dp 0) de_int) (fun d hd => ?_) sc29.nd)
      cases hd
      refine db_cons (ds_set 3 (de_add de_int (dv 2)) (fun d hd => ?_) sc29.nd)
      cases hd
      refine db_seq (fun Γ M => ∃ cell : Int, Γ = [.ptr z, .dat (.int m), .dat (.int k), .dat (.int cell), .any] ∧ M = [(z, .ls (strD ns c k))] ∧ 0 ≤ cell) (ds_if (dt_lt (dv 2) (de_lenL (ds := ns.map D.int) (de_ixPL (i := 0) List.mem_cons_self rfl (dp 0) de_int) T.len)) (fun h => ?_) fun h => db_nil ⟨_, rfl, rfl, by omega⟩) ?_
      · have h := of_decide_eq_true h.symm
        rw [List.length_map] at h
        obtain ⟨k', rfl⟩ : ∃ k' : Nat, k = (k' : Nat) := ⟨k.toNat, by omega⟩
        have hk : k' < ns.length := by omega
        refine db_one (ds_set 3 (de_abs (i := ns[k']) (de_ixL (ds := ns.map D.int) (i := (k' : Nat)) (atI_nat (by rw [List.getElem?_map, List.getElem?_eq_getElem hk]; rfl)) (de_ixPL (i := 0) List.mem_cons_self rfl (dp 0) de_int) (dv 2)) T.abs) (fun d hd => ?_) sc29.nd)
        cases hd
        exact ⟨_, rfl, rfl, by omega⟩
      rintro _ _ ⟨cell, rfl, rfl, hc⟩
      refine db_seq (fun Γ M => ∃ cell : Int, Γ = [.ptr z, .dat (.int m), .dat (.int k), .dat (.int cell), .any] ∧ M = [(z, .ls (strD ns c k))] ∧ 0 ≤ cell) (ds_if (dt_lt (dv 3) (de_pow (i := 10) (j := 18) ⟨by decide, by decide, by decide⟩ de_int de_int)) (fun h => ?_) fun h => db_nil ⟨_, rfl, rfl, hc⟩) ?_
      · have cm : ∀ {i j : Int}, -(2 ^ 64) < j → j < 2 ^ 64 → CMul i j := fun h1 h2 => .inr ⟨h1, h2⟩
        refine db_cons (ds_set 3 (de_mod (by decide) (de_intI (de_add (de_add (de_mul (cm (by decide) (by decide)) (dv 3) de_int) (de_mul (cm (by decide) (by decide)) (dv 2) de_int)) de_int) T.int) de_int) (fun d hd => ?_) sc29.nd)
        cases hd
        have p1 : 0 ≤ (cell * 48271 + k * 69621 + 11) % 2147483647 := Int.emod_nonneg _ (by decide)
        generalize (cell * 48271 + k * 69621 + 11) % 2147483647 = cell1 at p1
        refine db_one (ds_set 3 (de_add (de_mul (cm (by decide) (by decide)) (de_mod (by decide) (de_intI (de_add (de_mul (cm (by decide) (by decide)) (dv 3) de_int) de_int) T.int) de_int) de_int) (dv 3)) (fun d hd => ?_) sc29.nd)
        cases hd
        have p2 : 0 ≤ (cell1 * 16807 + 13) % 2147483647 := Int.emod_nonneg _ (by decide)
        exact ⟨_, rfl, rfl, by omega⟩
      rintro _ _ ⟨cell, rfl, rfl, hc⟩
      refine db_cons (ds_setL (ds := strD ns c k) (n := 1) 0 (dv 3) (dp 0) de_int rfl fun d hd => ?_)
      cases hd
      refine db_one (ds_setL (ds := strD ns cell k) (n := 2) 0 (de_add (dv 2) de_int) (dp 0) de_int rfl fun d hd => ?_)
      cases hd
      exact ⟨_, _, cell, k + 1, rfl, rfl, hc, by omega⟩
    rintro _ _ ⟨x, y, c, k, rfl, rfl, h2, h3⟩
    refine db_cons (ds_set 4 (de_mod hm0 (de_intI (de_ixPL (i := 1) (d := .int c) List.mem_cons_self rfl (dp 0) de_int) T.int) (dv 1)) (fun d hd => ?_) sc29.nd)
    cases hd
    refine db_cons (ds_setL (ds := strD ns c k) (n := 1) 0 (de_fdiv ⟨hm0, by omega⟩ (de_ixPL (i := 1) (d := .int c) List.mem_cons_self rfl (dp 0) de_int) (dv 1)) (dp 0) de_int rfl fun d hd => ?_)
    cases hd
    have q1 : 0 ≤ c % m := Int.emod_nonneg _ (by omega)
    have q2 : c % m < m := Int.emod_lt_of_pos _ hm0
    refine db_close (ns := ns) (c := c / m) (k := k) 0 h1 (Int.ediv_nonneg h2 (by omega)) h3 ?_
    exact db_one (ds_ret (R := Is (.int (c % m))) (dv 4) fun d r => ⟨⟨(c % m).toNat, by rw [show d = _ from r, Int.toNat_of_nonneg q1], by rw [Int.toNat_of_nonneg q1]; exact q2⟩, by simp⟩)
end
end K59
namespace K59
open PySem PySem.Spec PyProof.Rows L2
theorem k_ib : kitB "int" "bool" = some false := by decide +kernel
theorem k_ii : kitB "int" "int" = some true := by decide +kernel
theorem k_is : kitB "int" "str" = some false := by decide +kernel
theorem k_sb : kitB "str" "bool" = some false := by decide +kernel
theorem k_si : kitB "str" "int" = some false := by decide +kernel
theorem k_lb : kitB "list" "bool" = some false := by decide +kernel
theorem k_li : kitB "list" "int" = some false := by decide +kernel
theorem k_ls : kitB "list" "str" = some false := by decide +kernel
theorem k_lt : kitB "list" "tuple" = some false := by decide +kernel
theorem k_ll : kitB "list" "list" = some true := by decide +kernel
theorem k_ni : kitB (tyD .none) "int" = some false := by decide +kernel
/-- an answer, as it is met and as it is due -/
inductive Scal : D → D → Bool → Prop
  | nn : Scal .none .none true
  | dn (i : Int) : Scal (.int i) .none false
  | nd (j : Int) : Scal .none (.int j) false
  | ii (i j : Int) : Scal (.int i) (.int j) (decide (i = j))
  | ss (x y : Str) : Scal (.str x) (.str y) (decide (x = y))
section
variable {P : Program} {w : World} {K : PySem.W.Frag} {mg : Str → Option Value} {base : Heap}
abbrev NLi : List Str := ["_law_actual"]
theorem sc30 : FnScope NLi ["_law_actual"] (defScope (topS 30)) := ⟨rfl, rfl, rfl, by decide +kernel, rfl, by decide +kernel, by decide +kernel⟩
def AIsInt : List D → (D → Prop) → Prop := fun ds R => (∃ i, ds = [.int i] ∧ R = Is (.bool true)) ∨ (ds = [.none] ∧ R = Is (.bool false))
theorem d_isint {f : Addr} {fd : FuncData} (T : Tx mg) (F : Fun K "_law_is_integer" "_law_is_integer" (topS 30) f fd) (hmg : mg "_law_is_integer" = some (.ref f)) : Dn P w K mg base "_law_is_integer" 1 (PrP AIsInt) := by
  refine fn_D F sc30 hmg (F.binds (ps := ["_law_actual"]) fun _ _ _ _ _ _ us hl => match us, hl with | [_], _ => rfl) (by decide) ?_ ?_
  · rintro as M R M' ⟨rfl, rfl, ds, rfl, ⟨i, rfl, _⟩ | ⟨rfl, _⟩⟩
    · exact ⟨rfl, List.nodup_nil⟩
    · exact ⟨rfl, List.nodup_nil⟩
  · rintro cdv A outer s H E as M R M' hr ⟨rfl, rfl, ds, rfl, ⟨i, rfl, rfl⟩ | ⟨rfl, rfl⟩⟩
    · exact db_one (ds_ret (R := Is (.bool true)) ((de_and (p := true) (q := true) (de_isi (d := .int i) (T := "int") (k := true) (dv 0) T.isi T.int (hk := k_ii)) fun _ => de_one ((de_not (de_isi (d := .int i) (T := "bool") (k := false) (dv 0) T.isi T.boo (hk := k_ib))).is rfl)).is rfl) fun d r => ⟨r, by simp⟩)
    · exact db_one (ds_ret (R := Is (.bool false)) ((de_and (p := false) (q := true) (de_isi (d := .none) (T := "int") (k := false) (dv 0) T.isi T.int (hk := k_ni)) fun h => by cases h).is rfl) fun d r => ⟨r, by simp⟩)
abbrev NLe : List Str := ["_law_actual", "_law_due", "_law_at"]
theorem sc31 : FnScope NLe ["_law_actual", "_law_due"] (defScope (topS 31)) := ⟨rfl, rfl, rfl, by decide +kernel, rfl, by decide +kernel, by decide +kernel⟩
def AEq : List D → (D → Prop) → Prop := fun ds R => ∃ a b p, ds = [a, b] ∧ Scal a b p ∧ R = Is (.bool p)
theorem d_eq0 {f : Addr} {fd : FuncData} (T : Tx mg) (F : Fun K "_law_equal" "_law_equal" (topS 31) f fd) (hmg : mg "_law_equal" = some (.ref f)) (F30 : Dn P w K mg base "_law_is_integer" 1 (PrP AIsInt)) : Dn P w K mg base "_law_equal" 2 (PrP AEq) := by
  refine fn_D F sc31 hmg (F.binds (ps := ["_law_actual", "_law_due"]) fun _ _ _ _ _ _ us hl => match us, hl with | [_, _], _ => rfl) (by decide) ?_ ?_
  · rintro as M R M' ⟨rfl, rfl, ds, rfl, a, b, p, rfl, _⟩
    exact ⟨rfl, List.nodup_nil⟩
  · rintro cdv A outer s H E as M R M' hr ⟨rfl, rfl, ds, rfl, a, b, p, rfl, hs, rfl⟩
    cases hs with
    | nn =>
      refine db_cons (ds_if (dt_isN (d := .none) (dv 1) de_non) (fun _ => ?_) fun h => by cases h)
      exact db_one (ds_ret (R := Is (.bool true)) (de_isN (d := .none) (dv 0) de_non) fun d r => ⟨r, by simp⟩)
    | dn i =>
      refine db_cons (ds_if (dt_isN (d := .none) (dv 1) de_non) (fun _ => ?_) fun h => by cases h)
      exact db_one (ds_ret (R := Is (.bool false)) (de_isN (d := .int i) (dv 0) de_non) fun d r => ⟨r, by simp⟩)
    | nd j =>
      refine db_cons (ds_if (dt_isN (d := .int j) (dv 1) de_non) (fun h => by cases h) fun _ => db_nil ?_)
      refine db_cons (ds_if (dt_val (de_isi (d := .int j) (T := "bool") (k := false) (dv 1) T.isi T.boo (hk := k_ib))) (fun h => by cases h) fun _ => db_nil ?_)
      refine db_cons (ds_if (dt_val (de_isi (d := .int j) (T := "int") (k := true) (dv 1) T.isi T.int (hk := k_ii))) (fun _ => ?_) fun h => by cases h)
      exact db_one (ds_ret (R := Is (.bool false)) ((de_and (p := false) (q := true) (de_callF [.none] F30 hr (da_cons (dv 0) da_nil) (.inr ⟨rfl, rfl⟩)) fun h => by cases h).is rfl) fun d r => ⟨r, by simp⟩)
    | ii i j =>
      refine db_cons (ds_if (dt_isN (d := .int j) (dv 1) de_non) (fun h => by cases h) fun _ => db_nil ?_)
      refine db_cons (ds_if (dt_val (de_isi (d := .int j) (T := "bool") (k := false) (dv 1) T.isi T.boo (hk := k_ib))) (fun h => by cases h) fun _ => db_nil ?_)
      refine db_cons (ds_if (dt_val (de_isi (d := .int j) (T := "int") (k := true) (dv 1) T.isi T.int (hk := k_ii))) (fun _ => ?_) fun h => by cases h)
      exact db_one (ds_ret (R := Is (.bool (decide (i = j)))) ((de_and (p := true) (q := decide (i = j)) (de_callF [.int i] F30 hr (da_cons (dv 0) da_nil) (.inl ⟨i, rfl, rfl⟩)) fun _ => de_one (de_eqI (dv 0) (dv 1))).is (by rw [Bool.true_and])) fun d r => ⟨r, by simp⟩)
    | ss x y =>
      refine db_cons (ds_if (dt_isN (d := .str y) (dv 1) de_non) (fun h => by cases h) fun _ => db_nil ?_)
      refine db_cons (ds_if (dt_val (de_isi (d := .str y) (T := "bool") (k := false) (dv 1) T.isi T.boo (hk := k_sb))) (fun h => by cases h) fun _ => db_nil ?_)
      refine db_cons (ds_if (dt_val (de_isi (d := .str y) (T := "int") (k := false) (dv 1) T.isi T.int (hk := k_si))) (fun h => by cases h) fun _ => db_nil ?_)
      refine db_cons (ds_if (dt_val (de_isi (d := .str y) (T := "str") (k := true) (dv 1) T.isi T.str (hk := kit_ss))) (fun _ => ?_) fun h => by cases h)
      exact db_one (ds_ret (R := Is (.bool (decide (x = y)))) ((de_and (p := true) (q := decide (x = y)) (de_isi (d := .str x) (T := "str") (k := true) (dv 0) T.isi T.str (hk := kit_ss)) fun _ => de_one (de_eqS (dv 0) (dv 1))).is (by rw [Bool.true_and])) fun d r => ⟨r, by simp⟩)
def AEq2 : List D → (D → Prop) → Prop := fun ds R => ∃ i x j y, ds = [.list [.int i, .str x], .list [.int j, .str y]] ∧ R = Is (.bool (decide (i = j) && decide (x = y)))
theorem d_eq1 {f : Addr} {fd : FuncData} (T : Tx mg) (F : Fun K "_law_equal" "_law_equal" (topS 31) f fd) (hmg : mg "_law_equal" = some (.ref f)) (F0 : Dn P w K mg base "_law_equal" 2 (PrP AEq)) : Dn P w K mg base "_law_equal" 3 (PrP AEq2) := by
  refine fn_D F sc31 hmg (F.binds (ps := ["_law_actual", "_law_due"]) fun _ _ _ _ _ _ us hl => match us, hl with | [_, _], _ => rfl) (by decide) ?_ ?_
  · rintro as M R M' ⟨rfl, rfl, ds, rfl, i, x, j, y, rfl, _⟩
    exact ⟨rfl, List.nodup_nil⟩
  · rintro cdv A outer s H E as M R M' hr ⟨rfl, rfl, ds, rfl, i, x, j, y, rfl, rfl⟩
    refine db_cons (ds_if (dt_isN (d := .list [.int j, .str y]) (dv 1) de_non) (fun h => by cases h) fun _ => db_nil ?_)
    refine db_cons (ds_if (dt_val (de_isi (d := .list [.int j, .str y]) (T := "bool") (k := false) (dv 1) T.isi T.boo (hk := k_lb))) (fun h => by cases h) fun _ => db_nil ?_)
    refine db_cons (ds_if (dt_val (de_isi (d := .list [.int j, .str y]) (T := "int") (k := false) (dv 1) T.isi T.int (hk := k_li))) (fun h => by cases h) fun _ => db_nil ?_)
    refine db_cons (ds_if (dt_val (de_isi (d := .list [.int j, .str y]) (T := "str") (k := false) (dv 1) T.isi T.str (hk := k_ls))) (fun h => by cases h) fun _ => db_nil ?_)
    refine db_cons (ds_if (RB := IsT false) ((dt_and (p := false) (q := true) (dt_val (de_isi (d := .list [.int j, .str y]) (T := "tuple") (k := false) (dv 1) T.isi T.tup (hk := k_lt))) fun h => by cases h).imp fun b r => r) (fun h => by cases h) fun _ => db_nil ?_)
    refine db_cons (ds_if (RB := IsT false) ((dt_and (p := true) (q := false) (dt_val (de_isi (d := .list [.int j, .str y]) (T := "list") (k := true) (dv 1) T.isi T.lst (hk := k_ll))) fun _ => (dt_not (p := true) (dt_val (de_isi (d := .list [.int i, .str x]) (T := "list") (k := true) (dv 0) T.isi T.lst (hk := k_ll)))).imp fun b r => r).imp fun b r => r) (fun h => by cases h) fun _ => db_nil ?_)
    refine db_cons (ds_if (RB := IsT false) ((dt_neI (de_lenL (dv 0) T.len) (de_lenL (dv 1) T.len)).imp fun b r => by rw [show b = _ from r]; rfl) (fun h => by cases h) fun _ => db_nil ?_)
    refine db_one (ds_ret (R := Is (.bool (decide (i = j) && decide (x = y)))) ((de_all (bs := [decide (i = j), decide (x = y)]) rfl ?_ T.all).is (by simp)) fun d r => ⟨r, by simp⟩)
    refine de_lc (RL := IsL (rgD 0 2)) rfl sc31.nd (di_rg1 (de_lenL (ds := [.int j, .str y]) (dv 1) T.len) (RgOk.of_le (by decide) (by decide) (by decide) (by decide)) T.rng) (own := [("_law_at", 2)]) (blkOk_by (show blkC NLe (defScope (topS 31)) _ _ = true by decide +kernel)) fun ds e => ?_
    cases e
    refine ⟨fun k acc => acc = [D.bool (decide (i = j)), .bool (decide (x = y))].take k, rfl, fun k d acc q hd hI => ?_, fun acc hI => ?_⟩
    · have hk : k < 2 := (List.getElem?_eq_some_iff.mp hd).1
      match k, hk with
      | 0, _ =>
        have hd : some (D.int (0 + (0 : Nat))) = some d := hd
        cases hd
        refine ⟨by rw [hI]; exact Nat.lt_of_le_of_lt (List.length_take_le _ _) (show 0 < 100000 by decide), _, IsT true, fun s0 H0 C' cl fp => ⟨dgc_name 2 sc31.nd, dts_nil, fun _ => ?_, fun h => by cases h⟩⟩
        refine (de_callF (R := Is (.bool (decide (i = j)))) [.int i, .int j] F0 hr (da_cons (de_ixL (i := 0) (ds := [.int i, .str x]) rfl (dv 0) (dv 2)) (da_cons (de_ixL (i := 0) (ds := [.int j, .str y]) rfl (dv 1) (dv 2)) da_nil)) ⟨_, _, _, rfl, .ii i j, rfl⟩).imp fun d r => ?_
        rw [show d = _ from r, hI]
        rfl
      | 1, _ =>
        have hd : some (D.int (0 + (1 : Nat))) = some d := hd
        cases hd
        refine ⟨by rw [hI]; exact Nat.lt_of_le_of_lt (List.length_take_le _ _) (by decide), _, IsT true, fun s0 H0 C' cl fp => ⟨dgc_name 2 sc31.nd, dts_nil, fun _ => ?_, fun h => by cases h⟩⟩
        refine (de_callF (R := Is (.bool (decide (x = y)))) [.str x, .str y] F0 hr (da_cons (de_ixL (i := 1) (ds := [.int i, .str x]) rfl (dv 0) (dv 2)) (da_cons (de_ixL (i := 1) (ds := [.int j, .str y]) rfl (dv 1) (dv 2)) da_nil)) ⟨_, _, _, rfl, .ss x y, rfl⟩).imp fun d r => ?_
        rw [show d = _ from r, hI]
        rfl
    · show D.list _ = D.list _
      rw [hI]
      rfl
abbrev NLp : List Str := ["_law_stream_here", "_law_rows"]
theorem sc32 : FnScope NLp ["_law_stream_here", "_law_rows"] (defScope (topS 32)) := ⟨rfl, rfl, rfl, by decide +kernel, rfl, by decide +kernel, by decide +kernel⟩
def APick : List D → (D → Prop) → Prop := fun ds R => ∃ xs, (ds = [.list xs] ∨ ds = [.tup xs]) ∧ 0 < xs.length ∧ xs.length ≤ 1000 ∧ R = fun d => d ∈ xs
theorem d_pick {f : Addr} {fd : FuncData} (T : Tx mg) (F : Fun K "_law_pick" "_law_pick" (topS 32) f fd) (hmg : mg "_law_pick" = some (.ref f)) (F29 : Dn P w K mg base "_law_next" 1 (PrS ADraw)) : Dn P w K mg base "_law_pick" 2 (PrS APick) := by
  refine fn_D F sc32 hmg (F.binds (ps := ["_law_stream_here", "_law_rows"]) fun _ _ _ _ _ _ us hl => match us, hl with | [_, _], _ => rfl) (by decide) ?_ ?_
  · rintro as M R M' ⟨z, ds, rfl, rfl, rfl, xs, rfl | rfl, _⟩
    · exact ⟨rfl, by simp⟩
    · exact ⟨rfl, by simp⟩
  · rintro cdv A outer s H E as M R M' hr ⟨z, ds, rfl, rfl, rfl, xs, hds, h1, h2, rfl⟩
    have hix : ∀ y, (∃ n : Nat, y = D.int (n : Nat) ∧ (n : Int) < (xs.length : Nat)) → ∃ i d, y = .int i ∧ atI xs i = some d ∧ d ∈ xs := by
      rintro y ⟨n, rfl, hn⟩
      have hn : n < xs.length := by omega
      exact ⟨_, xs[n], rfl, atI_nat (List.getElem?_eq_getElem hn), List.getElem_mem hn⟩
    rcases hds with rfl | rfl
    · exact db_one (ds_ret (R := fun d => d ∈ xs) (de_ixLR (ds := xs) (Rb := fun y => ∃ n : Nat, y = D.int (n : Nat) ∧ (n : Int) < (xs.length : Nat)) (dv 1) (de_callS (z := z) F29 hr List.mem_cons_self (da_ptr (dp 0) (da_cons (de_lenL (dv 1) T.len) da_nil)) fun as r => ⟨[.int (xs.length : Nat)], _, r, ⟨_, rfl, by omega, by omega, rfl⟩, fun d h => h⟩) hix) fun d r => ⟨r, by simp⟩)
    · exact db_one (ds_ret (R := fun d => d ∈ xs) (de_ixTR (ds := xs) (Rb := fun y => ∃ n : Nat, y = D.int (n : Nat) ∧ (n : Int) < (xs.length : Nat)) (dv 1) (de_callS (z := z) F29 hr List.mem_cons_self (da_ptr (dp 0) (da_cons (de_lenT (dv 1) T.len) da_nil)) fun as r => ⟨[.int (xs.length : Nat)], _, r, ⟨_, rfl, by omega, by omega, rfl⟩, fun d h => h⟩) hix) fun d r => ⟨r, by simp⟩)
end
end K59
namespace K59
open PySem PySem.Spec PyProof.Rows L2
theorem S_nil : ("" : Str) = S [] := by decide +kernel
theorem join_S : ∀ cs : List Nat, Str.join (S []) (cs.map fun c => S [c]) = S cs
  | [] => by rw [← S_nil]; rfl
  | [c] => rfl
  | c :: d :: r => by
    show S [c] ++ S [] ++ Str.join (S []) ((d :: r).map fun c => S [c]) = _
    rw [join_S (d :: r), S_cat, S_cat]
    rfl
theorem join_letters (cs : List Nat) : Txt.join "" (cs.map fun c => S [c]) = S cs := by
  rw [S_nil, TL.join_eq, join_S]
section
variable {P : Program} {w : World} {K : PySem.W.Frag} {mg : Str → Option Value} {base : Heap}
abbrev NLs : List Str := ["_law_stream_here", "_law_least", "_law_most", "_law_letters", "_law_k"]
theorem sc33 : FnScope NLs ["_law_stream_here", "_law_least", "_law_most", "_law_letters"] (defScope (topS 33)) := ⟨rfl, rfl, rfl, by decide +kernel, rfl, by decide +kernel, by decide +kernel⟩
def ATxt : List D → (D → Prop) → Prop := fun ds R => ∃ lo hi l : Nat, ds = [.int (lo : Nat), .int (hi : Nat), .int (l : Nat)] ∧ lo ≤ hi ∧ hi ≤ 10 ∧ 1 ≤ l ∧ l ≤ 3 ∧ R = fun d => ∃ u, d = sD u ∧ Abc u ∧ lo ≤ u.length ∧ u.length ≤ hi
theorem d_txt {f : Addr} {fd : FuncData} (T : Tx mg) (F : Fun K "_law_string" "_law_string" (topS 33) f fd) (hmg : mg "_law_string" = some (.ref f)) (F29 : Dn P w K mg base "_law_next" 1 (PrS ADraw)) : Dn P w K mg base "_law_string" 2 (PrS ATxt) := by
  refine fn_D F sc33 hmg (F.binds (ps := ["_law_stream_here", "_law_least", "_law_most", "_law_letters"]) fun _ _ _ _ _ _ us hl => match us, hl with | [_, _, _, _], _ => rfl) (by decide) ?_ ?_
  · rintro as M R M' ⟨z, ds, rfl, rfl, rfl, lo, hi, l, rfl, _⟩
    exact ⟨rfl, by simp⟩
  · rintro cdv A outer s H E as M R M' hr ⟨z, ds, rfl, rfl, rfl, lo, hi, l, rfl, h1, h2, h3, h4, rfl⟩
    refine db_one (ds_ret (R := fun d => ∃ u, d = sD u ∧ Abc u ∧ lo ≤ u.length ∧ u.length ≤ hi) (de_join (z := "") (Rl := fun d => ∃ u, d = .list ((u.map fun c => S [c]).map D.str) ∧ Abc u ∧ lo ≤ u.length ∧ u.length ≤ hi) de_str (de_lc (RL := fun ds => ∃ n : Int, ((lo : Int) ≤ n ∧ n ≤ (hi : Nat)) ∧ ds = rgD 0 n) rfl sc33.nd (di_rg1R (Rn := fun n => (lo : Int) ≤ n ∧ n ≤ (hi : Nat)) (de_addR (Ra := Is (.int (lo : Nat))) (Rb := fun d => ∃ n : Nat, d = .int (n : Nat) ∧ (n : Int) < (hi : Nat) - (lo : Nat) + 1) (dv 1) (de_callS (z := z) F29 hr List.mem_cons_self (da_ptr (dp 0) (da_cons (de_add (de_sub (dv 2) (dv 1)) de_int) da_nil)) fun as r => ⟨[.int ((hi : Nat) - (lo : Nat) + 1)], _, r, ⟨_, rfl, by omega, by omega, rfl⟩, fun d h => h⟩) ?_) (fun n hn => RgOk.of_le (by decide) (by omega) (by decide) (by omega)) T.rng) (own := [("_law_k", 4)]) (blkOk_by (show blkC NLs (defScope (topS 33)) _ _ = true by decide +kernel)) ?_) ?_) fun d r => ⟨r, by simp⟩)
    · rintro x y rfl ⟨n, rfl, hn⟩
      exact ⟨_, _, rfl, rfl, _, rfl, by omega, by omega⟩
    · rintro ds ⟨n, ⟨hn1, hn2⟩, rfl⟩
      refine ⟨fun k acc => ∃ u, acc = (u.map fun c => S [c]).map D.str ∧ Abc u ∧ u.length = k, ⟨[], rfl, fun c hc => absurd hc (by simp), rfl⟩, ?_, ?_⟩
      · rintro k d acc q hd ⟨u, rfl, hu, hk⟩
        have hkn : k < (rgD 0 n).length := (List.getElem?_eq_some_iff.mp hd).1
        have e : (rgD 0 n).length = n.toNat := by simp [rgD]
        refine ⟨by simp; omega, _, IsT true, fun s0 H0 C' cl fp => ⟨dgc_name 4 sc33.nd, dts_nil, fun _ => ?_, fun h => by cases h⟩⟩
        refine de_ixSR (z := "abc") (Rb := fun d => ∃ n : Nat, d = .int (n : Nat) ∧ (n : Int) < (l : Nat)) (by decide) de_str (de_callS (z := z) F29 hr (List.mem_cons_of_mem _ List.mem_cons_self) (da_ptr (dp 0) (da_cons (dv 3) da_nil)) fun as r => ⟨[.int (l : Nat)], _, r, ⟨_, rfl, by omega, by omega, rfl⟩, fun d h => h⟩) ?_
        rintro y ⟨n, rfl, hn⟩
        have hn3 : n < 3 := by omega
        have ha : [97, 98, 99][n]? = some (97 + n) := by
          match n, hn3 with
          | 0, _ => rfl
          | 1, _ => rfl
          | 2, _ => rfl
        refine ⟨_, 97 + n, rfl, ?_, u ++ [97 + n], by simp [S], ?_, by simp [hk]⟩
        · rw [S_abc]
          exact S_at ha
        · intro c hc
          rcases List.mem_append.mp hc with h | h
          · exact hu c h
          · rw [List.mem_singleton.mp h]; omega
      · rintro acc ⟨u, rfl, hu, hk⟩
        have e : (rgD 0 n).length = n.toNat := by simp [rgD]
        exact ⟨u, rfl, hu, by omega, by omega⟩
    · rintro y ⟨u, rfl, hu, hl1, hl2⟩
      refine ⟨u.map fun c => S [c], rfl, ?_, u, by rw [join_letters], hu, hl1, hl2⟩
      have : ∀ u : List Nat, ((u.map fun c => S [c]).map (·.length)).sum = u.length := by
        intro u
        induction u with
        | nil => rfl
        | cons a u ih => rw [List.map_cons, List.map_cons, List.sum_cons, ih, S_len]; simp; omega
      rw [this, S_nil, S_len]
      simp
      omega
abbrev NLc : List Str := ["_law_stream_here", "_law_many", "_law_most", "_law_letters", "_law_words", "_law_turn", "_law_word"]
theorem sc34 : FnScope NLc ["_law_stream_here", "_law_many", "_law_most"] (defScope (topS 34)) := ⟨rfl, rfl, rfl, by decide +kernel, rfl, by decide +kernel, by decide +kernel⟩
def AMkCode : List D → (D → Prop) → Prop := fun ds R => ds = [.int 4, .int 3] ∧ R = fun d => ∃ C, d = cD C ∧ CodeOk C
theorem d_mkcode {f : Addr} {fd : FuncData} (T : Tx mg) (F : Fun K "_law_code" "_law_code" (topS 34) f fd) (hmg : mg "_law_code" = some (.ref f)) (F29 : Dn P w K mg base "_law_next" 1 (PrS ADraw)) (F32 : Dn P w K mg base "_law_pick" 2 (PrS APick)) (F33 : Dn P w K mg base "_law_string" 2 (PrS ATxt)) : Dn P w K mg base "_law_code" 3 (PrS AMkCode) := by
  refine fn_D F sc34 hmg (F.binds (ps := ["_law_stream_here", "_law_many", "_law_most"]) fun _ _ _ _ _ _ us hl => match us, hl with | [_, _, _], _ => rfl) (by decide) ?_ ?_
  · rintro as M R M' ⟨z, ds, rfl, rfl, rfl, rfl, _⟩
    exact ⟨rfl, by simp⟩
  · rintro cdv A outer s H E as M R M' hr ⟨z, ds, rfl, rfl, rfl, rfl, rfl⟩
    refine db_cons (ds_set 3 (R := fun d => d ∈ [D.int 2, .int 2, .int 3, .int 1]) (de_callS (z := z) F32 hr List.mem_cons_self (da_ptr (dp 0) (da_cons (de_list (ds := [.int 2, .int 2, .int 3, .int 1]) (da_cons de_int (da_cons de_int (da_cons de_int (da_cons de_int da_nil)))) rfl (by show 4 ≤ 100000; decide)) da_nil)) fun as r => ⟨[.list [.int 2, .int 2, .int 3, .int 1]], _, r, ⟨_, .inl rfl, by decide, by decide, rfl⟩, fun d h => h⟩) (fun d hd => ?_) sc34.nd)
    obtain ⟨l, rfl, hl1, hl2⟩ : ∃ l : Nat, d = .int (l : Nat) ∧ 1 ≤ l ∧ l ≤ 3 := by
      simp only [List.mem_cons, List.not_mem_nil, or_false] at hd
      rcases hd with rfl | rfl | rfl | rfl
      · exact ⟨2, rfl, by decide, by decide⟩
      · exact ⟨2, rfl, by decide, by decide⟩
      · exact ⟨3, rfl, by decide, by decide⟩
      · exact ⟨1, rfl, by decide, by decide⟩
    refine db_cons (ds_setM 4 (dm_list da_nil) (fun q o ho => ?_) sc34.nd)
    cases ho
    refine db_cons (ds_for (RL := fun ds => ∃ n : Int, (0 ≤ n ∧ n ≤ 4) ∧ ds = rgD 0 n) (di_rg1R (Rn := fun n => 0 ≤ n ∧ n ≤ 4) (de_callS (z := z) F29 (hr.mono (by decide)) (List.mem_cons_of_mem _ List.mem_cons_self) (da_ptr (dp 0) (da_cons (de_add (dv 1) de_int) da_nil)) fun as r => ⟨[.int (4 + 1)], _, r, ⟨_, rfl, by decide, by decide, rfl⟩, fun d h => by obtain ⟨n, rfl, hn⟩ := h; exact ⟨_, rfl, by omega, by omega⟩⟩) (fun n hn => RgOk.of_le (by decide) (by omega) (by decide) (by omega)) T.rng) (fun ds e => ?_) rfl PassesOwn.never)
    obtain ⟨n, ⟨hn1, hn2⟩, rfl⟩ := e
    have el : (rgD 0 n).length = n.toNat := by simp [rgD]
    refine ⟨fun k Γ M => ∃ C x5 x6, Γ = [.ptr z, .dat (.int 4), .dat (.int 3), .dat (.int (l : Nat)), .ptr q, x5, x6] ∧ M = [(q, .ls ((C.map S).map D.str)), (z, .strm)] ∧ C.length ≤ k ∧ (∀ w ∈ C, 1 ≤ w.length) ∧ (∀ w ∈ C, w.length ≤ 3) ∧ (∀ w ∈ C, Abc w) ∧ C.Nodup, ⟨[], _, _, rfl, rfl, by simp, by simp, by simp, by simp, by simp⟩, ?_, ?_⟩
    · rintro k d Γ1 M1 hd ⟨C, x5, x6, rfl, rfl, c1, c2, c3, c4, c5⟩
      have hkn : k < (rgD 0 n).length := (List.getElem?_eq_some_iff.mp hd).1
      refine ⟨_, dg_name 5 sc34.nd, db_cons (ds_set 6 (R := fun d => ∃ u, d = sD u ∧ Abc u ∧ 1 ≤ u.length ∧ u.length ≤ 3) (de_callS (z := z) F33 hr (List.mem_cons_of_mem _ List.mem_cons_self) (da_ptr (dp 0) (da_cons de_int (da_cons (dv 2) (da_cons (dv 3) da_nil)))) fun as r => ⟨[.int ((1 : Nat) : Int), .int ((3 : Nat) : Int), .int (l : Nat)], _, r, ⟨1, 3, l, rfl, by decide, by decide, hl1, hl2, rfl⟩, fun d h => h⟩) (fun d hd => ?_) sc34.nd)⟩
      obtain ⟨u, rfl, u1, u2, u3⟩ := hd
      have hmem : S u ∈ C.map S ↔ u ∈ C := by
        rw [List.mem_map]
        exact ⟨fun ⟨v, h1, h2⟩ => by rw [← S_inj h2]; exact h1, fun h => ⟨u, h, rfl⟩⟩
      refine db_one (ds_extend (ds := (C.map S).map D.str) 0 (Rl := fun d => d = .list (if u ∈ C then [] else [sD u])) (dp 4) (de_if (dt_notInPL (zs := C.map S) (q' := q) List.mem_cons_self (dv 6) (dp 4)) (fun h => (de_list (ds := [sD u]) (da_cons (dv 6) da_nil) rfl (by show 1 ≤ 100000; decide)).imp fun d r => ?_) fun h => (de_list (ds := []) da_nil rfl (by show 0 ≤ 100000; decide)).imp fun d r => ?_) fun d hd => ⟨_, hd, ?_, ?_⟩)
      · rw [show d = _ from r]
        have hn : u ∉ C := fun hm => by
          rw [decide_eq_true (hmem.mpr hm)] at h
          cases h
        show _ = D.list _
        rw [if_neg hn]
      · rw [show d = _ from r]
        have hn : u ∈ C := by
          rw [Bool.not_eq_false', decide_eq_true_eq] at h
          exact hmem.mp h
        show _ = D.list _
        rw [if_pos hn]
      · simp only [List.length_map]
        split <;> simp <;> omega
      · by_cases hm : u ∈ C
        · rw [if_pos hm, List.append_nil]
          exact ⟨C, _, _, rfl, rfl, by omega, c2, c3, c4, c5⟩
        · rw [if_neg hm]
          refine ⟨C ++ [u], _, _, rfl, by simp, by simp; omega, fun v hv => ?_, fun v hv => ?_, fun v hv => ?_, ?_⟩
          · rcases List.mem_append.mp hv with h | h
            · exact c2 v h
            · rw [List.mem_singleton.mp h]; exact u2
          · rcases List.mem_append.mp hv with h | h
            · exact c3 v h
            · rw [List.mem_singleton.mp h]; exact u3
          · rcases List.mem_append.mp hv with h | h
            · exact c4 v h
            · rw [List.mem_singleton.mp h]; exact u1
          · refine List.nodup_append.mpr ⟨c5, by simp, fun a ha b hb e => hm ?_⟩
            rw [List.mem_singleton] at hb
            rw [← hb, ← e]
            exact ha
    · rintro Γ1 M1 ⟨C, x5, x6, rfl, rfl, c1, c2, c3, c4, c5⟩
      refine db_one (ds_ret (R := Is (cD C)) ((de_tupP (q' := q) (ds := (C.map S).map D.str) List.mem_cons_self (dp 4) T.tup).is (by rw [List.map_map]; rfl)) fun d r => ⟨⟨C, r, by omega, c2, c3, c4, c5⟩, by simp⟩)
abbrev NLm : List Str := ["_law_stream_here", "_law_code_here", "_law_most", "_law_string_here", "_law_turn", "_law_word"]
theorem sc35 : FnScope NLm ["_law_stream_here", "_law_code_here", "_law_most"] (defScope (topS 35)) := ⟨rfl, rfl, rfl, by decide +kernel, rfl, by decide +kernel, by decide +kernel⟩
def AMsg : List D → (D → Prop) → Prop := fun ds R => ∃ C, ds = [cD C, .int 4] ∧ CodeOk C ∧ R = fun d => ∃ u, d = sD u ∧ Abc u ∧ u.length ≤ 4
theorem d_msg {f : Addr} {fd : FuncData} (T : Tx mg) (F : Fun K "_law_message" "_law_message" (topS 35) f fd) (hmg : mg "_law_message" = some (.ref f)) (F29 : Dn P w K mg base "_law_next" 1 (PrS ADraw)) (F32 : Dn P w K mg base "_law_pick" 2 (PrS APick)) : Dn P w K mg base "_law_message" 3 (PrS AMsg) := by
  refine fn_D F sc35 hmg (F.binds (ps := ["_law_stream_here", "_law_code_here", "_law_most"]) fun _ _ _ _ _ _ us hl => match us, hl with | [_, _, _], _ => rfl) (by decide) ?_ ?_
  · rintro as M R M' ⟨z, ds, rfl, rfl, rfl, C, rfl, _⟩
    exact ⟨rfl, by simp⟩
  · rintro cdv A outer s H E as M R M' hr ⟨z, ds, rfl, rfl, rfl, C, rfl, ok, rfl⟩
    have few := ok.few
    refine db_cons (ds_set 3 (de_str (x := "")) (fun d hd => ?_) sc35.nd)
    cases hd
    rw [S_nil]
    refine db_cons (ds_for (RL := fun ds => ∃ n : Int, (0 ≤ n ∧ n ≤ 8) ∧ ds = rgD 0 n) (di_rg1R (Rn := fun n => 0 ≤ n ∧ n ≤ 8) (de_callS (z := z) F29 (hr.mono (by decide)) List.mem_cons_self (da_ptr (dp 0) (da_cons de_int da_nil)) fun as r => ⟨[.int 9], _, r, ⟨_, rfl, by decide, by decide, rfl⟩, fun d h => by obtain ⟨n, rfl, hn⟩ := h; exact ⟨_, rfl, by omega, by omega⟩⟩) (fun n hn => RgOk.of_le (by decide) (by omega) (by decide) (by omega)) T.rng) (fun ds e => ?_) rfl PassesOwn.never)
    obtain ⟨n, ⟨hn1, hn2⟩, rfl⟩ := e
    refine ⟨fun k Γ M => ∃ u x4 x5, Γ = [.ptr z, .dat (cD C), .dat (.int 4), .dat (sD u), x4, x5] ∧ M = [(z, .strm)] ∧ Abc u ∧ u.length ≤ 4, ⟨[], _, _, rfl, rfl, fun c hc => absurd hc (by simp), by simp⟩, ?_, ?_⟩
    · rintro k d Γ1 M1 hd ⟨u, x4, x5, rfl, rfl, u1, u2⟩
      refine ⟨_, dg_name 4 sc35.nd, db_one (ds_if (dt_truT (dv 1)) (fun h => ?_) fun h => db_nil ⟨u, _, _, rfl, rfl, u1, u2⟩)⟩
      have hpos : 0 < C.length := by
        cases C with
        | nil => cases h
        | cons a l => simp
      refine db_cons (ds_set 5 (R := fun d => d ∈ C.map sD) (de_callS (z := z) F32 hr List.mem_cons_self (da_ptr (dp 0) (da_cons (dv 1) da_nil)) fun as r => ⟨[cD C], _, r, ⟨_, .inr rfl, by rw [List.length_map]; exact hpos, by rw [List.length_map]; omega, rfl⟩, fun d h => h⟩) (fun d hd => ?_) sc35.nd)
      obtain ⟨v, hv, rfl⟩ := List.mem_map.mp hd
      have v3 := ok.short v hv
      have hcat : (S u ++ S v).length = u.length + v.length := by rw [S_cat, S_len, List.length_append]
      refine db_one (ds_set 3 (de_addS (i := S u) (by rw [S_len]; show u.length + (if (if decide (((S u ++ S v).length : Int) ≤ 4) = true then (1 : Int) else 0) = 1 then S v else Str.empty).length ≤ 100000; rw [show Str.empty = S [] from S_nil]; split <;> simp [S_len] <;> omega) (dv 3) (de_mulS (z := S v) (i := if decide (((S u ++ S v).length : Int) ≤ 4) = true then (1 : Int) else 0) (by split <;> simp) (dv 5) (de_intB (de_le (de_lenS (z := S u ++ S v) (by rw [hcat]; omega) (de_addS (i := S u) (j := S v) (by rw [S_len, S_len]; omega) (dv 3) (dv 5)) T.len) (dv 2)) T.int))) (fun d hd => ?_) sc35.nd)
      cases hd
      by_cases hc : ((S u ++ S v).length : Int) ≤ 4
      · refine ⟨u ++ v, .dat d, .dat (sD v), ?_, rfl, fun c hc => (List.mem_append.mp hc).elim (u1 c) (ok.abc v hv c), by rw [hcat] at hc; rw [List.length_append]; omega⟩
        rw [decide_eq_true hc, if_pos (by decide), S_cat]
        rfl
      · refine ⟨u, .dat d, .dat (sD v), ?_, rfl, u1, u2⟩
        rw [decide_eq_false hc, if_neg (by decide)]
        have : S u ++ Str.empty = S u := by
          rw [show Str.empty = S [] from S_nil, S_cat, List.append_nil]
        rw [this]
        rfl
    · rintro Γ1 M1 ⟨u, x4, x5, rfl, rfl, u1, u2⟩
      exact db_one (ds_ret (R := Is (sD u)) (dv 3) fun d r => ⟨⟨u, r, u1, u2⟩, by simp⟩)
end
end K59
namespace K59
open PySem PySem.Spec PyProof.Rows L2
section
variable {P : Program} {w : World} {K : PySem.W.Frag} {mg : Str → Option Value} {base : Heap}
abbrev NLd : List Str := ["_law_first", "_law_second", "_law_row", "_law_k", "_law_later", "_law_j"]
theorem sc36 : FnScope NLd ["_law_first", "_law_second"] (defScope (topS 36)) := ⟨rfl, rfl, rfl, by decide +kernel, rfl, by decide +kernel, by decide +kernel⟩
def ADist : List D → (D → Prop) → Prop := fun ds R => ∃ x y, ds = [sD x, sD y] ∧ x.length ≤ 100 ∧ y.length ≤ 100 ∧ R = Is (.int (lv x y x.length y.length : Nat))
def lvD (x y : List Nat) (k n : Nat) : List D := (List.range n).map fun j => D.int (lv x y k j : Nat)
theorem lvD_at {x y : List Nat} {k n j : Nat} (h : j < n) : (lvD x y k n)[j]? = some (.int (lv x y k j : Nat)) := by
  unfold lvD
  rw [List.getElem?_map, List.getElem?_range h]
  rfl
theorem lvD_succ (x y : List Nat) (k n : Nat) : lvD x y k (n + 1) = lvD x y k n ++ [.int (lv x y k n : Nat)] := by
  unfold lvD
  rw [List.range_succ, List.map_append]
  rfl
theorem d_dist {f : Addr} {fd : FuncData} (T : Tx mg) (F : Fun K "_law_distance" "_law_distance" (topS 36) f fd) (hmg : mg "_law_distance" = some (.ref f)) : Dn P w K mg base "_law_distance" 1 (PrP ADist) := by
  refine fn_D F sc36 hmg (F.binds (ps := ["_law_first", "_law_second"]) fun _ _ _ _ _ _ us hl => match us, hl with | [_, _], _ => rfl) (by decide) ?_ ?_
  · rintro as M R M' ⟨rfl, rfl, ds, rfl, x, y, rfl, _⟩
    exact ⟨rfl, List.nodup_nil⟩
  · rintro cdv A outer s H E as M R M' hr ⟨rfl, rfl, ds, rfl, x, y, rfl, hx, hy, rfl⟩
    have e0 : rgD 0 ((y.length : Nat) + 1) = lvD x y 0 (y.length + 1) := by
      unfold rgD lvD
      rw [show ((y.length : Int) + 1 - 0).toNat = y.length + 1 by omega]
      apply List.map_congr_left
      intro i _
      show D.int (0 + (i : Nat)) = D.int ((i : Nat) : Int)
      rw [Int.zero_add]
    refine db_cons (ds_set 2 ((de_listR1 (n := (y.length : Nat) + 1) rfl (de_add (de_lenS (z := S y) (by rw [S_len]; omega) (dv 1) T.len) de_int) (RgOk.of_le (by decide) (by omega) (by decide) (by omega)) T.rng T.lst).is (congrArg D.list e0)) (fun d hd => ?_) sc36.nd)
    cases hd
    refine db_cons (ds_for (di_rg1 (n := (x.length : Nat)) (de_lenS (z := S x) (by rw [S_len]; omega) (dv 0) T.len) (RgOk.of_le (by decide) (by omega) (by decide) (by omega)) T.rng) (fun ds e => ?_) rfl PassesOwn.never)
    cases e
    have ex : (rgD 0 (x.length : Nat)).length = x.length := by simp [rgD]
    have ey : (rgD 0 (y.length : Nat)).length = y.length := by simp [rgD]
    refine ⟨fun k Γ M => ∃ x3 x4 x5, Γ = [.dat (sD x), .dat (sD y), .dat (.list (lvD x y k (y.length + 1))), x3, x4, x5] ∧ M = [], ⟨_, _, _, rfl, rfl⟩, ?_, ?_⟩
    · rintro k d Γ1 M1 hd ⟨x3, x4, x5, rfl, rfl⟩
      have hk : k < x.length := by rw [← ex]; exact (List.getElem?_eq_some_iff.mp hd).1
      have hd : d = .int (k : Nat) := by
        unfold rgD at hd
        rw [List.getElem?_map, List.getElem?_range (by omega)] at hd
        have := Option.some.inj hd
        rw [← this]
        show D.int (0 + (k : Nat)) = _
        rw [Int.zero_add]
      subst hd
      refine ⟨_, dg_name 3 sc36.nd, ?_⟩
      refine db_cons (ds_setM 4 (dm_list (ds := [.int ((k : Nat) + 1)]) (da_cons (de_add (dv 3) de_int) da_nil) rfl (by show 1 ≤ 100000; decide)) (fun q o ho => ?_) sc36.nd)
      cases ho
      refine db_cons (ds_for (di_rg1 (n := (y.length : Nat)) (de_lenS (z := S y) (by rw [S_len]; omega) (dv 1) T.len) (RgOk.of_le (by decide) (by omega) (by decide) (by omega)) T.rng) (fun ds e => ?_) rfl PassesOwn.never)
      cases e
      refine ⟨fun j Γ M => ∃ x5, Γ = [.dat (sD x), .dat (sD y), .dat (.list (lvD x y k (y.length + 1))), .dat (.int (k : Nat)), .ptr q, x5] ∧ M = [(q, .ls (lvD x y (k + 1) (j + 1)))], ⟨_, rfl, rfl⟩, ?_, ?_⟩
      · rintro j d Γ1 M1 hd ⟨x5, rfl, rfl⟩
        have hj : j < y.length := by rw [← ey]; exact (List.getElem?_eq_some_iff.mp hd).1
        have hd : d = .int (j : Nat) := by
          unfold rgD at hd
          rw [List.getElem?_map, List.getElem?_range (by omega)] at hd
          have := Option.some.inj hd
          rw [← this]
          show D.int (0 + (j : Nat)) = _
          rw [Int.zero_add]
        subst hd
        have hxk : x[k]? = some x[k] := List.getElem?_eq_getElem hk
        have hyj : y[j]? = some y[j] := List.getElem?_eq_getElem hj
        refine ⟨_, dg_name 5 sc36.nd, db_one (ds_append (ds := lvD x y (k + 1) (j + 1)) 0 (dp 4) (de_min3 (i := (lv x y k (j + 1) : Nat) + 1) (j := (lv x y (k + 1) j : Nat) + 1) (k := (lv x y k j : Nat) + (if (!decide ((⟨#[x[k]]⟩ : Str) = ⟨#[y[j]]⟩)) = true then 1 else 0)) rfl (da_cons (de_add (de_ixL (ds := lvD x y k (y.length + 1)) (i := ((j + 1 : Nat) : Int)) (atI_nat (lvD_at (by omega))) (dv 2) ((de_add (dv 5) de_int).is (by simp))) de_int) (da_cons (de_add (de_ixPL (ds := lvD x y (k + 1) (j + 1)) (i := (j : Nat)) List.mem_cons_self (atI_nat (lvD_at (by omega))) (dp 4) (dv 5)) de_int) (da_cons (de_add (de_ixL (ds := lvD x y k (y.length + 1)) (i := (j : Nat)) (atI_nat (lvD_at (by omega))) (dv 2) (dv 5)) (de_intB (de_neS (de_ixS (z := S x) (by rw [S_len]; omega) (S_at hxk) (dv 0) (dv 3)) (de_ixS (z := S y) (by rw [S_len]; omega) (S_at hyj) (dv 1) (dv 5))) T.int)) da_nil))) T.min) ?_ fun d hd => ?_)⟩
        · unfold lvD
          rw [List.length_map, List.length_range]
          omega
        · cases hd
          refine ⟨_, rfl, ?_⟩
          rw [lvD_succ x y (k + 1) (j + 1)]
          have e1 : (if (!decide ((⟨#[x[k]]⟩ : Str) = ⟨#[y[j]]⟩)) = true then (1 : Int) else 0) = ((if x[k]? = y[j]? then 0 else 1 : Nat) : Int) := by
            rw [hxk, hyj]
            by_cases e : x[k] = y[j]
            · rw [e, decide_eq_true rfl, if_pos rfl]; rfl
            · rw [decide_eq_false (fun h => e (sign_eq (c := y[j]) |>.mp h)), if_neg (c := some x[k] = some y[j]) (fun h => e (Option.some.inj h))]; rfl
          have e2 : lv x y (k + 1) (j + 1) = min (min (lv x y k (j + 1) + 1) (lv x y (k + 1) j + 1)) (lv x y k j + if x[k]? = y[j]? then 0 else 1) := rfl
          have e3 : min (min ((lv x y k (j + 1) : Nat) + 1 : Int) ((lv x y (k + 1) j : Nat) + 1)) ((lv x y k j : Nat) + (if (!decide ((⟨#[x[k]]⟩ : Str) = ⟨#[y[j]]⟩)) = true then (1 : Int) else 0)) = ((lv x y (k + 1) (j + 1) : Nat) : Int) := by
            rw [e1, e2]
            omega
          rw [e3]
          rfl
      rintro Γ1 M1 ⟨x5, rfl, rfl⟩
      rw [ey]
      refine db_freezeL 4 0 ?_
      refine db_one (ds_set 2 (dv 4) (fun d hd => ?_) sc36.nd)
      cases hd
      exact ⟨_, _, _, rfl, rfl⟩
    · rintro Γ1 M1 ⟨x3, x4, x5, rfl, rfl⟩
      rw [ex]
      exact db_one (ds_ret (R := Is (.int (lv x y x.length y.length : Nat))) (de_ixL (ds := lvD x y x.length (y.length + 1)) (i := -1) (by rw [lvD_succ]; exact atI_last _ _) (dv 2) (de_neg de_int)) fun d r => ⟨r, by simp⟩)
def msK (m : List Nat) : NestedKey := .text (S m)
theorem msK_inj (a b : List Nat) (h : msK a = msK b) : a = b := S_inj (NestedKey.text.inj h)
theorem msK_depth (m : List Nat) : (msK m).depth ≤ 8 := by simp [msK, NestedKey.depth]
theorem ms_keys (l : List (List Nat)) : ((keysT msK l).map fun p => kd p.1) = l.map sD := by
  unfold keysT
  rw [List.map_map]
  rfl
def m0 : List Nat := []
def m00 : List (List Nat) := [m0]
theorem m0_kd : D.str "" = kd (msK m0) := by rw [S_nil]; rfl
theorem m00_keys : keysT msK m00 = [(msK m0, .bool true)] := rfl
theorem m00_strs : D.list [.str ""] = .list (m00.map sD) := by rw [S_nil]; rfl
theorem m00_nd : m00.Nodup := by simp [m00]
theorem m00_nil : [] ∈ m00 := by simp [m00, m0]
theorem m00_lang (C : List (List Nat)) : ∀ m ∈ m00, Lang C m ∧ m.length ≤ 6 := fun m hm => by
  rw [List.mem_singleton.mp hm]
  exact ⟨.nil, by simp [m0]⟩
theorem grow0 {C : List (List Nat)} {t : Nat} {fs : List (List Nat)} (h1 : fs.Nodup) (h2 : ∀ m ∈ fs, Lang C m ∧ m.length ≤ 6) : Grow C t fs fs [] := ⟨h1, List.nodup_nil, fun l h => absurd h (by simp), fun m h => h, h2, fun l h => absurd h (by simp), fun m h => .inr h⟩
abbrev NLms : List Str := ["_law_code_here", "_law_most", "_law_found", "_law_rows", "_law_turn", "_law_longer", "_law_string_here", "_law_word"]
theorem sc37 : FnScope NLms ["_law_code_here", "_law_most"] (defScope (topS 37)) := ⟨rfl, rfl, rfl, by decide +kernel, rfl, by decide +kernel, by decide +kernel⟩
def MsgsOk (C : List (List Nat)) (ms : List (List Nat)) : Prop := ms.length ≤ 1093 ∧ ∀ m, m ∈ ms ↔ Lang C m ∧ m.length ≤ 6
def AMsgs : List D → (D → Prop) → Prop := fun ds R => ∃ C, ds = [cD C, .int 6] ∧ CodeOk C ∧ R = fun d => ∃ ms, d = .list (ms.map sD) ∧ MsgsOk C ms
set_option maxHeartbeats 4000000 in
theorem d_msgs {f : Addr} {fd : FuncData} (T : Tx mg) (F : Fun K "_law_messages" "_law_messages" (topS 37) f fd) (hmg : mg "_law_messages" = some (.ref f)) : Dn P w K mg base "_law_messages" 1 (PrP AMsgs) := by
  refine fn_D F sc37 hmg (F.binds (ps := ["_law_code_here", "_law_most"]) fun _ _ _ _ _ _ us hl => match us, hl with | [_, _], _ => rfl) (by decide) ?_ ?_
  · rintro as M R M' ⟨rfl, rfl, ds, rfl, C, rfl, _⟩
    exact ⟨rfl, List.nodup_nil⟩
  · rintro cdv A outer s H E as M R M' hr ⟨rfl, rfl, ds, rfl, C, rfl, ok, rfl⟩
    refine db_cons (ds_setM 2 (dm_disp1 (kk := msK m0) (d := .bool true) (hu9 hr) (msK_depth m0) (fun M => (de_str (x := "")).is m0_kd) fun M => de_bl) (fun q o ho => ?_) sc37.nd)
    cases ho
    rw [← m00_keys]
    refine db_cons (ds_set 3 ((de_list (ds := [.str ""]) (da_cons de_str da_nil) rfl (by show 1 ≤ 100000; decide)).is (d' := .list (m00.map sD)) m00_strs) (fun d hd => ?_) sc37.nd)
    cases hd
    refine db_cons (ds_for (di_rg1 (n := 6) (dv 1) (RgOk.of_le (by decide) (by decide) (by decide) (by decide)) T.rng) (fun ds e => ?_) rfl PassesOwn.never)
    cases e
    refine ⟨fun t Γ M => ∃ (fs rs : List (List Nat)) (x4 x5 x6 x7 : Sl), Γ = [.dat (cD C), .dat (.int 6), .ptr q, .dat (.list (rs.map sD)), x4, x5, x6, x7] ∧ M = [(q, .dc (keysT msK fs))] ∧ fs.Nodup ∧ rs.Nodup ∧ (∀ r ∈ rs, r ∈ fs) ∧ (∀ m ∈ fs, Lang C m ∧ m.length ≤ 6) ∧ [] ∈ fs ∧ (∀ r ∈ rs, t ≤ r.length) ∧ (∀ s ∈ fs, s ∈ rs ∨ ∀ w ∈ C, (s ++ w).length ≤ 6 → s ++ w ∈ fs),
      ?_, ?_, ?_⟩
    · refine ⟨m00, m00, .any, .any, .any, .any, rfl, rfl, m00_nd, m00_nd, fun r h => h, m00_lang C, m00_nil, fun r _ => Nat.zero_le _, fun s hs => .inl hs⟩
    · rintro t d Γ1 M1 hd ⟨fs, rs, x4, x5, x6, x7, rfl, rfl, f1, f2, f3, f4, f5, f6, f7⟩
      refine ⟨_, dg_name 4 sc37.nd, ?_⟩
      refine db_cons (ds_setM 5 (dm_list da_nil) (fun ql o ho => ?_) sc37.nd)
      cases ho
      refine db_cons (ds_for (RL := IsL (rs.map sD)) (di_L (dv 3)) (fun ds e => ?_) rfl PassesOwn.never)
      cases e
      refine ⟨fun k Γ M => ∃ (fs' ls : List (List Nat)) (x6 x7 : Sl), Γ = [.dat (cD C), .dat (.int 6), .ptr q, .dat (.list (rs.map sD)), .dat d, .ptr ql, x6, x7] ∧ M = [(ql, .ls (ls.map sD)), (q, .dc (keysT msK fs'))] ∧ Grow C t fs fs' ls ∧ ∀ s ∈ rs.take k, ∀ w ∈ C, (s ++ w).length ≤ 6 → s ++ w ∈ fs', ⟨fs, [], _, _, rfl, rfl, grow0 f1 f4, by simp⟩, ?_, ?_⟩
      · rintro k d2 Γ1 M1 hd2 ⟨fs', ls, x6, x7, rfl, rfl, g, hcl⟩
        rw [List.getElem?_map] at hd2
        obtain ⟨r, hr1, rfl⟩ := Option.map_eq_some_iff.mp hd2
        have hrm := List.mem_of_getElem? hr1
        have hrt := f6 r hrm
        have hrl := f4 r (f3 r hrm)
        refine ⟨_, dg_name 6 sc37.nd, db_one (ds_for (RL := IsL (C.map sD)) (di_tup (dv 0)) (fun ds e => ?_) rfl PassesOwn.never)⟩
        cases e
        refine ⟨fun j Γ M => ∃ (fs' ls : List (List Nat)) (x7 : Sl), Γ = [.dat (cD C), .dat (.int 6), .ptr q, .dat (.list (rs.map sD)), .dat d, .ptr ql, .dat (sD r), x7] ∧ M = [(ql, .ls (ls.map sD)), (q, .dc (keysT msK fs'))] ∧ Grow C t fs fs' ls ∧ (∀ s ∈ rs.take k, ∀ w ∈ C, (s ++ w).length ≤ 6 → s ++ w ∈ fs') ∧ ∀ w ∈ C.take j, (r ++ w).length ≤ 6 → r ++ w ∈ fs', ⟨fs', ls, _, rfl, rfl, g, hcl, by simp⟩, ?_, ?_⟩
        · rintro j d3 Γ1 M1 hd3 ⟨fs', ls, x7, rfl, rfl, g, hcl, hcj⟩
          rw [List.getElem?_map] at hd3
          obtain ⟨w', hw1, rfl⟩ := Option.map_eq_some_iff.mp hd3
          have hwm := List.mem_of_getElem? hw1
          have w1 := ok.pos w' hwm
          have w3 := ok.short w' hwm
          have glen := g.len ok.abc
          refine ⟨_, dg_name 7 sc37.nd, ?_⟩
          have hcat : ∀ {Γ : Gam} {M : Mem} {p1 p2 p3 : Pos} (h1 : Γ[6]? = some (.dat (sD r))) (h2 : Γ[7]? = some (.dat (sD w'))), DE (FX P w K mg base NLms "_law_messages" (defScope (topS 37)) f cdv A outer s H E) Γ M (.BinOp (.Name "_law_string_here" p1) .Add (.Name "_law_word" p2) p3) (Is (sD (r ++ w'))) := by
            intro Γ M p1 p2 p3 h1 h2
            exact (de_addS (i := S r) (j := S w') (by rw [S_len, S_len]; omega) (dv 6 h1) (dv 7 h2)).is (by rw [S_cat])
          refine db_one (ds_if (dt_and (dt_le (de_lenS (z := S (r ++ w')) (by rw [S_len, List.length_append]; omega) (hcat rfl rfl) T.len) (dv 1)) fun _ => dt_notInPD (k := msK (r ++ w')) (kvs := keysT msK fs') (q' := q) (hu9 hr) (List.mem_cons_of_mem _ List.mem_cons_self) rfl (msK_depth _) (hcat rfl rfl) (dp 2)) (fun h => ?_) fun h => ?_)
          · have h : (decide (((S (r ++ w')).length : Int) ≤ 6) && !decide (msK (r ++ w') ∈ (keysT msK fs').map (·.1))) = true := h.symm
            rw [Bool.and_eq_true] at h
            have hle := of_decide_eq_true h.1
            rw [S_len] at hle
            have hnf : r ++ w' ∉ fs' := fun hm => by
              have := h.2
              rw [decide_eq_true ((mem_keysT msK_inj).mpr hm)] at this
              cases this
            refine db_cons (ds_put (kvs := keysT msK fs') (k := msK (r ++ w')) 1 (hu9 hr) de_bl (dp 2) (hcat rfl rfl) rfl (msK_depth _) (by simp [keysT]; omega) fun d hd => ?_)
            cases hd
            rw [keysT_put msK_inj g.nd]
            refine db_one (ds_append (ds := ls.map sD) 0 (dp 5) (hcat rfl rfl) (by rw [List.length_map]; omega) fun d hd => ?_)
            cases hd
            refine ⟨addN fs' (r ++ w'), ls ++ [r ++ w'], _, rfl, by simp, ⟨nd_addN g.nd, ?_, fun l hl => ?_, fun m hm => mem_addN.mpr (.inl (g.old m hm)), fun m hm => ?_, fun l hl => ?_, fun m hm => ?_⟩, fun s hs w hw hl => mem_addN.mpr (.inl (hcl s hs w hw hl)), fun w hw hl => ?_⟩
            · refine List.nodup_append.mpr ⟨g.ln, by simp, fun a ha b hb e => hnf ?_⟩
              rw [List.mem_singleton] at hb
              rw [← hb, ← e]
              exact g.sub a ha
            · rcases List.mem_append.mp hl with h | h
              · exact mem_addN.mpr (.inl (g.sub l h))
              · exact mem_addN.mpr (.inr (List.mem_singleton.mp h))
            · rcases mem_addN.mp hm with h | rfl
              · exact g.lang m h
              · exact ⟨.snoc hrl.1 hwm, by omega⟩
            · rcases List.mem_append.mp hl with h | h
              · exact g.deep l h
              · rw [List.mem_singleton.mp h, List.length_append]; omega
            · rcases mem_addN.mp hm with h | rfl
              · exact (g.new m h).imp (fun h => by simp [h]) id
              · exact .inl (by simp)
            · rcases (take_mem hw1).mp hw with h | rfl
              · exact mem_addN.mpr (.inl (hcj w h hl))
              · exact mem_addN.mpr (.inr rfl)
          · have h : (decide (((S (r ++ w')).length : Int) ≤ 6) && !decide (msK (r ++ w') ∈ (keysT msK fs').map (·.1))) = false := h.symm
            refine db_nil ⟨fs', ls, _, rfl, rfl, g, hcl, fun w hw hl => ?_⟩
            rcases (take_mem hw1).mp hw with h' | rfl
            · exact hcj w h' hl
            · rw [decide_eq_true (by rw [S_len]; omega), Bool.true_and, Bool.not_eq_false', decide_eq_true_eq] at h
              exact (mem_keysT msK_inj).mp h
        · rintro Γ1 M1 ⟨fs', ls, x7, rfl, rfl, g, hcl, hcj⟩
          rw [List.length_map, List.take_length] at hcj
          refine ⟨fs', ls, _, _, rfl, rfl, g, fun s hs => ?_⟩
          rcases (take_mem hr1).mp hs with h | rfl
          · exact hcl s h
          · exact hcj
      rintro Γ1 M1 ⟨fs', ls, x6, x7, rfl, rfl, g, hcl⟩
      rw [List.length_map, List.take_length] at hcl
      refine db_freezeL 5 0 ?_
      refine db_one (ds_set 3 (dv 5) (fun d hd => ?_) sc37.nd)
      cases hd
      refine ⟨fs', ls, _, _, _, _, rfl, rfl, g.nd, g.ln, g.sub, g.lang, g.old _ f5, g.deep, fun s hs => ?_⟩
      rcases g.new s hs with h | h
      · exact .inl h
      · rcases f7 s h with h | h
        · exact .inr (hcl s h)
        · exact .inr fun w hw hl => g.old _ (h w hw hl)
    · rintro Γ1 M1 ⟨fs, rs, x4, x5, x6, x7, rfl, rfl, f1, f2, f3, f4, f5, f6, f7⟩
      have e6 : (rgD 0 6).length = 6 := by simp [rgD]
      rw [e6] at f6
      have fl : fs.length ≤ 1093 := (Grow.len (grow0 (t := 0) f1 f4) ok.abc).1
      refine db_one (ds_ret (R := fun d => ∃ ms, d = .list (ms.map sD) ∧ MsgsOk C ms) (((de_ofM (dm_listPD (kvs := keysT msK fs) (q' := q) rfl (by simp [keysT]; omega) List.mem_cons_self (dp 2) T.lst)).is (congrArg D.list (ms_keys fs))).imp fun d r => ⟨fs, r, fl, fun m => ⟨f4 m, ?_⟩⟩) fun d r => ⟨r, by simp⟩)
      rintro ⟨hm, hl⟩
      have : ∀ m, Lang C m → m.length ≤ 6 → m ∈ fs := by
        intro m hm
        induction hm with
        | nil => exact fun _ => f5
        | snoc h1 h2 ih =>
          rename_i m w
          intro hl
          rw [List.length_append] at hl
          rcases f7 m (ih (by omega)) with h | h
          · have := f6 m h
            have := ok.pos w h2
            omega
          · exact h w h2 (by rw [List.length_append]; exact hl)
      exact this m hm hl
end
end K59
namespace K59
open PySem PySem.Spec PyProof.Rows L2
/-! ### the law's rows -/
def tD (z m : List Nat) : D := .tup [.int (dist z m : Nat), .int (m.length : Nat), sD m]
def tP (z m : List Nat) : PyData := .tuple [.int (dist z m : Nat), .int (m.length : Nat), .str (S m)]
theorem pys_t (z : List Nat) : ∀ ms : List (List Nat), pys (ms.map (tD z)) = some (ms.map (tP z))
  | [] => rfl
  | m :: ms => by
    rw [List.map_cons, pys, pys_t z ms]
    rfl
theorem alike_t (z : List Nat) (ms : List (List Nat)) : PySem.W.AlikeAll (ms.map (tP z)) := by
  refine ⟨fun x hx y hy => ?_, fun x hx => ?_⟩
  · obtain ⟨a, _, rfl⟩ := List.mem_map.mp hx
    obtain ⟨b, _, rfl⟩ := List.mem_map.mp hy
    simp [tP, PySem.W.alike, PySem.W.alikeAll]
  · obtain ⟨a, _, rfl⟩ := List.mem_map.mp hx
    simp [tP]
theorem depth_t (z : List Nat) : ∀ ms : List (List Nat), PyData.depthAll (ms.map (tP z)) ≤ 1
  | [] => by simp [PyData.depthAll]
  | m :: ms => by
    have := depth_t z ms
    have h1 : (tP z m).depth = 1 := by simp [tP, PyData.depth, PyData.depthAll]
    rw [List.map_cons, PyData.depthAll, h1]
    omega
theorem lt_t (z y a : List Nat) : PySem.W.dataLt (tP z y) (tP z a) = decide (TL z y a) := by
  unfold tP
  rw [PySem.W.dataLt_tuple, PySem.W.dataLt_cons (by simp [PySem.W.alike]), PySem.W.dataLt_cons (by simp [PySem.W.alike]), PySem.W.dataLt_cons (by simp [PySem.W.alike]), PySem.W.dataLt_int, PySem.W.dataLt_int, PySem.W.dataLt_str]
  have e0 : PyProof.Rows.lexLt itemOrd (PySem.W.keyToksAll []) (PySem.W.keyToksAll []) = false := lex_irrefl _
  rw [e0]
  have e1 : (S y).cps.toList = y := rfl
  have e2 : (S a).cps.toList = a := rfl
  rw [e1, e2]
  unfold TL
  simp only [PyData.eqv, beq_iff_eq]
  by_cases h1 : dist z y = dist z a
  · rw [if_pos (by rw [h1])]
    by_cases h2 : y.length = a.length
    · rw [if_pos (by rw [h2])]
      by_cases h3 : S y = S a
      · rw [if_pos h3]
        have := S_inj h3
        subst this
        simp
      · rw [if_neg h3]
        simp [h1, h2]
    · rw [if_neg (by omega)]
      by_cases h3 : y.length < a.length <;> simp [h1, h2, h3]
  · rw [if_neg (by omega)]
    by_cases h3 : dist z y < dist z a <;> simp [h1, h3]
theorem least_t (z : List Nat) : ∀ (ms : List (List Nat)) (m : List Nat), leastD (tD z m) (ms.map (tD z)) = tD z (bestOf z m ms)
  | [], m => rfl
  | y :: ms, m => by
    unfold leastD bestOf
    rw [List.map_cons, List.foldl_cons, List.foldl_cons]
    have e : PySem.W.dataLt (pyD (tD z y)) (pyD (tD z m)) = decide (TL z y m) := lt_t z y m
    rw [e]
    by_cases h : TL z y m
    · rw [decide_eq_true h, if_pos rfl, if_pos h]
      exact least_t z ms y
    · rw [decide_eq_false h, if_neg Bool.false_ne_true, if_neg h]
      exact least_t z ms m
theorem cut_S (u : List Nat) (l h : Option Int) : ∃ v, cutS (S u) l h = S v ∧ (∀ c ∈ v, c ∈ u) ∧ v.length ≤ u.length := by
  refine ⟨(u.drop (HT.sIx u.length 0 l)).take (HT.sIx u.length u.length h - HT.sIx u.length 0 l), rfl, fun c hc => List.mem_of_mem_drop (List.mem_of_mem_take hc), ?_⟩
  rw [List.length_take, List.length_drop]
  omega
theorem cut_take (u : List Nat) (k : Nat) : cutS (S u) none (some (k : Int)) = S (u.take k) := by
  have e : cutS (S u) none (some (k : Int)) = S ((u.drop (HT.sIx u.length 0 none)).take (HT.sIx u.length u.length (some (k : Int)) - HT.sIx u.length 0 none)) := rfl
  rw [e, HT.sIx_nat, HT.sIx_none, List.drop_zero, Nat.sub_zero]
  by_cases h : k ≤ u.length
  · rw [Nat.min_eq_left h]
  · rw [Nat.min_eq_right (by omega), List.take_length, List.take_of_length_le (by omega)]
theorem CodeOk.cd {C : List (List Nat)} (ok : CodeOk C) : Cd C := ⟨ok.pos, ok.short, fun w hw c hc => by have := ok.abc w hw c hc; simp [ABC]; omega⟩
def dueD : Option Nat → D
  | none => .none
  | some k => .int (k : Nat)
theorem first_scal {C : List (List Nat)} {z : List Nat} {ms : List (List Nat)} (ok : CodeOk C) (zk : TextOk z) (hms : ∀ m, m ∈ ms ↔ Lang C m ∧ m.length ≤ 6) {d : D} (h : FirstR C z d) : Scal d (dueD (due ms z z.length)) true := by
  rcases h with ⟨k, rfl, hk, ⟨t, ht⟩, hn⟩ | ⟨rfl, t, ht⟩
  · rw [due_first ok.cd zk.short hms hk ht hn]
    have := Scal.ii ((k + 1 : Nat) : Int) ((k + 1 : Nat) : Int)
    rw [decide_eq_true rfl] at this
    exact this
  · rw [due_all ok.cd zk.short hms ht]
    exact .nn
section
variable {P : Program} {w : World} {K : PySem.W.Frag} {mg : Str → Option Value} {base : Heap}
/-! ### the stream is made -/
abbrev NSt : List Str := ["_law_script"]
theorem sc28 : FnScope NSt ["_law_script"] (defScope (topS 28)) := ⟨rfl, rfl, rfl, by decide +kernel, rfl, by decide +kernel, by decide +kernel⟩
def spStream (K : PySem.W.Frag) : Sp := fun vs H Q _ => ∃ (a : Addr) (ns : List Int), vs = [.ref a] ∧ SqL K H a (ns.map V.int) ∧ ∀ (l z : Addr) (H' : Hp), l ≠ z → H' l = some (.lst (ns.map V.int)) → H' z = some (.lst [.ref l, .int 0, .int 0]) → Q (.ref z) H'
theorem ok_stream {f : Addr} {fd : FuncData} (T : Tx mg) (F : Fun K "_law_stream" "_law_stream" (topS 28) f fd) : FnOk P w K mg base CX0 1 f fd ["_law_script"] (spStream K) := by
  refine F.ok sc28 (fun vs H Q E h => ?_) (fun cdv A outer s H vs Q E hr h => ?_)
  · obtain ⟨a, ns, rfl, _⟩ := h
    rfl
  · obtain ⟨a, ns, rfl, hS, k⟩ := h
    refine ⟨_, pss_one (ps_ret (pe_lst (pa_cons (pe_callTy call_list_of (by rfl) T.lst (by decide +kernel) (pa_cons (pv 0) pa_nil)) (pa_cons pe_int (pa_cons pe_int pa_nil))))), ?_⟩
    refine ⟨_, rfl, a, _, rfl, .inl hS, fun l hl => ⟨by show 3 ≤ sizeLine; decide, fun z hz => ?_⟩⟩
    have hzl : l ≠ z := fun e => by rw [← e, upd_same] at hz; cases hz
    exact k l z _ hzl (by rw [upd_ne hzl]; exact upd_same) upd_same
end
end K59
namespace K59
open PySem PySem.Spec PyProof.Rows L2
section
variable {P : Program} {w : World} {K : PySem.W.Frag} {mg : Str → Option Value} {base : Heap}
abbrev NLaw : List Str := ["_law_script", "_law_stream_here", "_law_code_here", "_law_string_here", "_law_message_here", "_law_at", "_law_every", "_law_order", "_law_due", "_law_k"]
theorem sc38 : FnScope NLaw ["_law_script"] (defScope (topS 38)) := ⟨rfl, rfl, rfl, by decide +kernel, rfl, by decide +kernel, by decide +kernel⟩
structure Defs (P : Program) (w : World) (K : PySem.W.Frag) (mg : Str → Option Value) (base : Heap) : Prop where
  least : Dn P w K mg base "least_errors" 5 (PrP ALeast)
  corr : Dn P w K mg base "correction" 6 (PrP ANear)
  first : Dn P w K mg base "first_error" 5 (PrP AFirst)
  draw : Dn P w K mg base "_law_next" 1 (PrS ADraw)
  eq0 : Dn P w K mg base "_law_equal" 2 (PrP AEq)
  eq1 : Dn P w K mg base "_law_equal" 3 (PrP AEq2)
  pick : Dn P w K mg base "_law_pick" 2 (PrS APick)
  txt : Dn P w K mg base "_law_string" 2 (PrS ATxt)
  code : Dn P w K mg base "_law_code" 3 (PrS AMkCode)
  msg : Dn P w K mg base "_law_message" 3 (PrS AMsg)
  dist : Dn P w K mg base "_law_distance" 1 (PrP ADist)
  msgs : Dn P w K mg base "_law_messages" 1 (PrP AMsgs)
theorem pick_rows {d : D} (h : d ∈ [D.str "a", .str "b", .str "c", .str ""]) : ∃ v, d = sD v ∧ Abc v ∧ v.length ≤ 1 := by
  simp only [List.mem_cons, List.not_mem_nil, or_false] at h
  rcases h with rfl | rfl | rfl | rfl
  · exact ⟨[97], congrArg D.str (by decide +kernel), by simp [Abc], by decide⟩
  · exact ⟨[98], congrArg D.str (by decide +kernel), by simp [Abc], by decide⟩
  · exact ⟨[99], congrArg D.str (by decide +kernel), by simp [Abc], by decide⟩
  · exact ⟨[], congrArg D.str S_nil, fun c hc => absurd hc (by simp), by decide⟩
theorem de_listR {X : Cx} {Γ : Gam} {M : Mem} {es : List Expr} {pos : Pos} {R : D → Prop} {RA : List Sl → Prop} (ha : DA X Γ M es RA) (h : ∀ as, RA as → ∃ ds, datsOf as = some ds ∧ ds.length ≤ 100000 ∧ R (.list ds)) : DE X Γ M (.List es pos) R := de_of (pe_lst pa_max) fun G F H σ Q ok sl q =>
  ha G F H σ _ ok sl fun vs as F1 H1 r1 s1 k1 p1 => by
    obtain ⟨ds, hd, hz, hr⟩ := h as r1
    have rp := p1.reps hd
    refine ⟨sz_le (by rw [rp.length]; exact hz), fun p hp => ?_⟩
    obtain ⟨h1, h2, h3⟩ := k1.lst rp hp
    exact q _ _ _ _ hr (s1.trans h2) h1 h3
/-- the rest of the law, the stream at hand -/
theorem law_rest {f : Addr} {cdv : Value} {A : Around} {outer : List Env} {s : Shared} {H : Hp} {E : XK} (T : Tx mg) (DD : Defs P w K mg base) (hr : Room 6 (A.deeper (envOfC "law" (defScope (topS 38)) s.heap.objs.size f cdv))) (z : Addr) :
    DB (FX P w K mg base NLaw "law" (defScope (topS 38)) f cdv A outer s H E) [.any, .ptr z, .any, .any, .any, .any, .any, .any, .any, .any] [(z, .strm)] ((defBody (topS 38)).drop 1) (FP (Is (.bool true)) []) := by
  have hu64 : (FX P w K mg base NLaw "law" (defScope (topS 38)) f cdv A outer s H E).A.units + 64 < cLine := Nat.lt_of_succ_lt (hu_r hr)
  show DB _ _ _ [_, _, _, _, _, _, _, _, _] _
  refine db_cons (ds_set 2 (R := fun d => ∃ C, d = cD C ∧ CodeOk C) (de_callS (z := z) DD.code (hr.mono (by decide)) List.mem_cons_self (da_ptr (dp 1) (da_cons de_int (da_cons de_int da_nil))) fun as r => ⟨[.int 4, .int 3], _, r, ⟨rfl, rfl⟩, fun d h => h⟩) (fun d hd => ?_) sc38.nd)
  obtain ⟨C, rfl, ok⟩ := hd
  refine db_cons (ds_set 3 (R := fun d => ∃ u, d = sD u ∧ Abc u ∧ 0 ≤ u.length ∧ u.length ≤ 3) (de_callS (z := z) DD.txt (hr.mono (by decide)) List.mem_cons_self (da_ptr (dp 1) (da_cons de_int (da_cons de_int (da_cons de_int da_nil)))) fun as r => ⟨[.int ((0 : Nat) : Int), .int ((3 : Nat) : Int), .int ((3 : Nat) : Int)], _, r, ⟨0, 3, 3, rfl, by decide, by decide, by decide, by decide, rfl⟩, fun d h => h⟩) (fun d hd => ?_) sc38.nd)
  obtain ⟨u0, rfl, u1, _, u2⟩ := hd
  refine db_seq (fun Γ M => ∃ u x4 x5, Γ = [.any, .ptr z, .dat (cD C), .dat (sD u), x4, x5, .any, .any, .any, .any] ∧ M = [(z, .strm)] ∧ TextOk u) (ds_if (RB := fun _ => True) (dt_cmpR op_eq (Ra := fun d => ∃ n : Nat, d = .int (n : Nat) ∧ (n : Int) < 2) (Rb := Is (.int 1)) (de_callS (z := z) DD.draw (hr.mono (by decide)) List.mem_cons_self (da_ptr (dp 1) (da_cons de_int da_nil)) fun as r => ⟨[.int 2], _, r, ⟨2, rfl, by decide, by decide, rfl⟩, fun d h => h⟩) de_int (fun d1 d2 h1 h2 => by
    obtain ⟨n, rfl, _⟩ := h1
    cases h2
    exact fun G F H M x y Q ok r1 r2 q => od_eqI G F H M x y Q ok r1 r2 fun v d F' H' rd => q v d F' H' ⟨_, rd, True.intro⟩)) (fun _ => ?_) fun _ => db_nil ⟨u0, _, _, rfl, rfl, u1, u2⟩) ?_
  · refine db_cons (ds_set 4 (R := fun d => ∃ u, d = sD u ∧ Abc u ∧ u.length ≤ 4) (de_callS (z := z) DD.msg (hr.mono (by decide)) List.mem_cons_self (da_ptr (dp 1) (da_cons (dv 2) (da_cons de_int da_nil))) fun as r => ⟨[cD C, .int 4], _, r, ⟨C, rfl, ok, rfl⟩, fun d h => h⟩) (fun d hd => ?_) sc38.nd)
    obtain ⟨m, rfl, m1, m2⟩ := hd
    refine db_cons (ds_set 5 (R := fun d => ∃ n : Nat, d = .int (n : Nat) ∧ (n : Int) < (m.length : Nat) + 1) (de_callS (z := z) DD.draw (hr.mono (by decide)) List.mem_cons_self (da_ptr (dp 1) (da_cons (de_add ((de_lenS (z := S m) (by rw [S_len]; omega) (dv 4) T.len).is (d' := .int (m.length : Nat)) (by rw [S_len])) de_int) da_nil)) fun as r => ⟨[.int ((m.length : Nat) + 1)], _, r, ⟨_, rfl, by omega, by omega, rfl⟩, fun d h => h⟩) (fun d hd => ?_) sc38.nd)
    obtain ⟨n, rfl, hn⟩ := hd
    obtain ⟨va, ea, va1, va2⟩ := cut_S m none (some (n : Nat))
    obtain ⟨vb, eb, vb1, vb2⟩ := cut_S m (some ((n : Nat) + 1)) none
    refine db_one (ds_set 3 (R := fun d => ∃ v, d = sD v ∧ Abc v ∧ v.length ≤ 3) (de_slSR (Ra := fun d => ∃ v, d = sD v ∧ Abc v ∧ v.length ≤ 9) (l := none) (u := some ((3 : Nat) : Int)) (de_addSR (Ra := fun d => ∃ v, d = sD v ∧ Abc v ∧ v.length ≤ 5) (Rb := Is (sD vb)) (de_addSR (Ra := Is (sD va)) (Rb := fun d => ∃ v, d = sD v ∧ Abc v ∧ v.length ≤ 1) ((de_slS (z := S m) (l := none) (u := some (n : Nat)) (by rw [S_len]; omega) (dv 4) do_none (do_some (dv 5))).is (by rw [ea]))
      ((de_callS (R := fun d => d ∈ [D.str "a", .str "b", .str "c", .str ""]) (z := z) DD.pick (hr.mono (by decide)) List.mem_cons_self (da_ptr (dp 1) (da_cons (de_list (ds := [D.str "a", .str "b", .str "c", .str ""]) (da_cons de_str (da_cons de_str (da_cons de_str (da_cons de_str da_nil)))) rfl (by show 4 ≤ 100000; decide)) da_nil)) fun as r => ⟨[.list [D.str "a", .str "b", .str "c", .str ""]], _, r, ⟨_, .inl rfl, by decide, by decide, rfl⟩, fun d h => h⟩).imp fun d h => pick_rows h) ?_)
      ((de_slS (z := S m) (l := some ((n : Nat) + 1)) (u := none) (by rw [S_len]; omega) (dv 4) (do_some (de_add (dv 5) de_int)) do_none).is (by rw [eb])) ?_) do_none (do_some de_int) ?_) (fun d hd => ?_) sc38.nd)
    · rintro x y rfl ⟨v, rfl, v1, v2⟩
      refine ⟨S va, S v, rfl, rfl, by rw [S_len, S_len]; omega, va ++ v, by rw [S_cat], fun c hc => (List.mem_append.mp hc).elim (fun h => m1 c (va1 c h)) (v1 c), by rw [List.length_append]; omega⟩
    · rintro x y ⟨v, rfl, v1, v2⟩ rfl
      refine ⟨S v, S vb, rfl, rfl, by rw [S_len, S_len]; omega, v ++ vb, by rw [S_cat], fun c hc => (List.mem_append.mp hc).elim (v1 c) (fun h => m1 c (vb1 c h)), by rw [List.length_append]; omega⟩
    · rintro y ⟨v, rfl, v1, v2⟩
      refine ⟨S v, rfl, by rw [S_len]; omega, v.take 3, by rw [cut_take], fun c hc => v1 c (List.mem_of_mem_take hc), by rw [List.length_take]; omega⟩
    · obtain ⟨v, rfl, v1, v2⟩ := hd
      exact ⟨v, _, _, rfl, rfl, v1, v2⟩
  rintro _ _ ⟨u, x4, x5, rfl, rfl, uk⟩
  have us := uk.short
  refine db_cons (ds_set 6 (R := fun d => ∃ ms, d = .list (ms.map sD) ∧ MsgsOk C ms) (de_callF [cD C, .int 6] DD.msgs (hr.mono (by decide)) (da_cons (dv 2) (da_cons de_int da_nil)) ⟨C, rfl, ok, rfl⟩) (fun d hd => ?_) sc38.nd)
  obtain ⟨ms, rfl, msl, hms⟩ := hd
  have mlen : ∀ m ∈ ms, m.length ≤ 6 := fun m hm => ((hms m).mp hm).2
  let pr : List Nat → Bool := fun m => decide (m.length ≤ 2 * u.length)
  refine db_cons (ds_setLc 7 (RL := IsL (ms.map sD)) rfl sc38.nd (di_L (dv 6)) (own := [("_law_message_here", 4)]) (blkOk_by (show blkC NLaw (defScope (topS 38)) _ _ = true by decide +kernel)) fun ds e => ?_)
  cases e
  refine ⟨fun k acc => acc = ((ms.take k).filter pr).map (tD u), rfl, fun k d acc q hd hI => ?_, fun acc hI => ?_⟩
  · rw [List.getElem?_map] at hd
    obtain ⟨m, hm, rfl⟩ := Option.map_eq_some_iff.mp hd
    have hml := mlen m (List.mem_of_getElem? hm)
    have hf : (ms.take (k + 1)).filter pr = (ms.take k).filter pr ++ if pr m = true then [m] else [] := by
      rw [List.take_add_one, hm, List.filter_append]
      cases h : pr m <;> simp [h]
    have ht : ∀ {b : Bool}, IsT (decide ((m.length : Int) ≤ 2 * (u.length : Nat))) b → b = pr m := fun h => by
      rw [show _ = _ from h]
      show decide _ = decide _
      congr 1
      apply propext
      omega
    refine ⟨?_, _, _, fun s0 H0 C' cl fp => ⟨dgc_name 4 sc38.nd, dts_one ((dt_le (de_lenS (z := S m) (by rw [S_len]; omega) (dv 4) T.len) (de_mul (.inl ⟨by decide, by decide⟩) de_int (de_lenS (z := S u) (by rw [S_len]; omega) (dv 3) T.len))).imp fun b r => ht r), fun h => ?_, fun h => ?_⟩⟩
    · have := List.length_filter_le pr (ms.take k)
      rw [List.length_take] at this
      rw [hI, List.length_map]
      omega
    · refine (de_triple (de_callF (R := Is (.int (dist u m : Nat))) [sD u, sD m] DD.dist (hr.mono (by decide)) (da_cons (dv 3) (da_cons (dv 4) da_nil)) ⟨u, m, rfl, by omega, by omega, rfl⟩) (de_lenS (z := S m) (by rw [S_len]; omega) (dv 4) T.len) (dv 4)).imp fun d r => ?_
      rw [show d = _ from r]
      show _ = _
      rw [hI, hf, if_pos (show pr m = true from h.symm)]
      simp [tD, S_len]
    · show _ = _
      rw [hI, hf, if_neg (by rw [← h]; exact Bool.false_ne_true)]
      simp
  rw [List.length_map, List.take_length] at hI
  subst hI
  -- the least of the rows
  have cd := ok.cd
  have small := least_small (z := u) cd us
  have mem0 : [] ∈ ms.filter pr := List.mem_filter.mpr ⟨(hms []).mpr ⟨.nil, by simp⟩, decide_eq_true (by simp)⟩
  obtain ⟨m1, rest, hrest⟩ : ∃ m1 rest, ms.filter pr = m1 :: rest := by
    cases h : ms.filter pr with
    | nil => rw [h] at mem0; simp at mem0
    | cons a l => exact ⟨a, l, rfl⟩
  have hbest : ∀ p ns, Run C u p ns → (p.length = (cst C u 0 none).2 ∨ (p.length ≤ (cst C u 0 none).2 ∧ Stuck C u ns)) → bestOf u m1 rest = p ∧ dist u p = (cst C u 0 none).1 := by
    intro p ns rn h
    obtain ⟨h1, h2, h3, h4⟩ := near_TL cd us rn h
    refine ⟨bestOf_eq ?_ fun y hy => h4 y ?_, h3⟩
    · have : p ∈ ms.filter pr := List.mem_filter.mpr ⟨(hms p).mpr ⟨h1, by omega⟩, decide_eq_true h2⟩
      rw [hrest] at this
      exact List.mem_cons.mp this
    · have : y ∈ ms.filter pr := by rw [hrest]; exact List.mem_cons.mpr hy
      exact ((hms y).mp (List.mem_filter.mp this).1).1
  rw [hrest]
  have hmin : ∀ {Γ : Gam} {M : Mem} {p1 p2 p3 : Pos} (h : Γ[7]? = some (.dat (.list ((m1 :: rest).map (tD u))))), DE (FX P w K mg base NLaw "law" (defScope (topS 38)) f cdv A outer s H E) Γ M (.Call (.Name "min" p1) [.Name "_law_order" p2] [] p3) (Is (tD u (bestOf u m1 rest))) := by
    intro Γ M p1 p2 p3 h
    have al := alike_t u (m1 :: rest)
    have dp := depth_t u (m1 :: rest)
    exact (de_minL (d := tD u m1) (ds := rest.map (tD u)) (ps := (m1 :: rest).map (tP u)) rfl hu64 (pys_t u (m1 :: rest)) al (by omega) (dv 7 h) T.min).is (least_t u rest m1)
  generalize hb : bestOf u m1 rest = best at hbest hmin
  refine db_cons (ds_if (RB := IsT false) ((dt_not (p := true) (dt_val (de_call (R := Is (.bool true)) DD.eq1 (hr.mono (by decide)) (RA := fun as => ∃ d, (∃ b, d = sD b ∧ b = best ∧ dist u b = (cst C u 0 none).1) ∧ as = [.dat (.list [.int ((cst C u 0 none).1 : Nat), d]), .dat (.list [.int (dist u best : Nat), sD best])]) ?_ ?_))).imp fun b r => r) (fun h => by cases h) fun _ => db_nil ?_)
  · refine da_consR (Ra := fun x => ∃ d, (∃ b, d = sD b ∧ b = best ∧ dist u b = (cst C u 0 none).1) ∧ x = .list [.int ((cst C u 0 none).1 : Nat), d]) (Rr := IsA [.dat (.list [.int (dist u best : Nat), sD best])]) ?_ ?_ ?_
    · refine de_listR (RA := fun as => ∃ d, (∃ b, d = sD b ∧ b = best ∧ dist u b = (cst C u 0 none).1) ∧ as = [.dat (.int ((cst C u 0 none).1 : Nat)), .dat d]) (da_consR (Ra := Is (.int ((cst C u 0 none).1 : Nat))) (Rr := fun as => ∃ d, (∃ b, d = sD b ∧ b = best ∧ dist u b = (cst C u 0 none).1) ∧ as = [.dat d]) (de_callF [cD C, sD u] DD.least (hr.mono (by decide)) (da_cons (dv 2) (da_cons (dv 3) da_nil)) ⟨C, u, rfl, ok, uk, rfl⟩) (da_consR (Ra := fun d => ∃ b, d = sD b ∧ b = best ∧ dist u b = (cst C u 0 none).1) (Rr := IsA []) ((de_callF (R := NearR C u) [cD C, sD u] DD.corr (hr.mono (by decide)) (da_cons (dv 2) (da_cons (dv 3) da_nil)) ⟨C, u, rfl, ok, uk, by omega, rfl⟩).imp fun d h => ?_) da_nil fun d as h1 h2 => ⟨d, h1, by rw [h2]⟩) fun d as h1 h2 => ?_) fun as h => ?_
      · obtain ⟨p, ns, rfl, rn, h⟩ := h
        obtain ⟨h1, h2⟩ := hbest p ns rn h
        exact ⟨p, rfl, h1.symm, h2⟩
      · obtain ⟨d', h3, rfl⟩ := h2
        rw [show d = _ from h1]
        exact ⟨d', h3, rfl⟩
      · obtain ⟨d, h1, rfl⟩ := h
        exact ⟨_, rfl, by show 2 ≤ 100000; decide, d, h1, rfl⟩
    · exact da_cons (de_list (ds := [.int (dist u best : Nat), sD best]) (da_cons (de_ixT (i := 0) (ds := [.int (dist u best : Nat), .int (best.length : Nat), sD best]) rfl (hmin rfl) de_int) (da_cons (de_ixT (i := 2) (ds := [.int (dist u best : Nat), .int (best.length : Nat), sD best]) rfl (hmin rfl) de_int) da_nil)) rfl (by show 2 ≤ 100000; decide)) da_nil
    · rintro x as ⟨d, h1, rfl⟩ h2
      exact ⟨d, h1, by rw [h2]⟩
  · rintro as ⟨d, ⟨b, rfl, rfl, h2⟩, rfl⟩
    refine ⟨[.list [.int ((cst C u 0 none).1 : Nat), sD b], .list [.int (dist u b : Nat), sD b]], _, rfl, ⟨_, _, _, _, rfl, rfl⟩, fun d r => ?_⟩
    rw [show d = _ from r, h2]
    show _ = _
    simp
  refine db_cons (ds_set 8 de_non (fun d hd => ?_) sc38.nd)
  cases hd
  refine db_cons (ds_for (di_rg3 (m := (u.length : Nat)) (n := 0) (z := -1) ((de_lenS (z := S u) (by rw [S_len]; omega) (dv 3) T.len).is (by rw [S_len])) de_int (de_neg de_int) rfl ⟨by omega, by omega, by omega, by omega, by omega⟩ T.rng) (fun ds e => ?_) rfl PassesOwn.never)
  cases e
  have el : (rgDn (u.length : Nat) 0).length = u.length := by simp [rgDn]
  refine ⟨fun j Γ M => ∃ x9, Γ = [.any, .ptr z, .dat (cD C), .dat (sD u), x4, x5, .dat (.list (ms.map sD)), .dat (.list ((m1 :: rest).map (tD u))), .dat (dueD (due ms u j)), x9] ∧ M = [(z, .strm)], ⟨_, rfl, rfl⟩, ?_, ?_⟩
  · rintro j d Γ1 M1 hd ⟨x9, rfl, rfl⟩
    have hj : j < u.length := by rw [← el]; exact (List.getElem?_eq_some_iff.mp hd).1
    have hd : d = .int ((u.length - j : Nat) : Int) := by
      unfold rgDn at hd
      rw [List.getElem?_map, List.getElem?_range (by omega)] at hd
      have := Option.some.inj hd
      rw [← this]
      show D.int ((u.length : Int) - (j : Nat)) = _
      rw [show ((u.length - j : Nat) : Int) = (u.length : Int) - (j : Nat) by omega]
    subst hd
    generalize hk : u.length - j = k
    refine ⟨_, dg_name 9 sc38.nd, db_one (ds_if (RB := IsT (noPre ms u k)) ((dt_not (dt_val (de_any (bs := ms.map fun m => decide (m.take k = u.take k)) rfl ?_ T.any))).imp fun b r => ?_) (fun h => ?_) fun h => db_nil ?_)⟩
    · refine de_lc (RL := IsL (ms.map sD)) rfl sc38.nd (di_L (dv 6)) (own := [("_law_message_here", 4)]) (blkOk_by (show blkC NLaw (defScope (topS 38)) _ _ = true by decide +kernel)) fun ds e => ?_
      cases e
      refine ⟨fun i acc => acc = (ms.take i).map fun m => D.bool (decide (m.take k = u.take k)), rfl, fun i d acc q hd hI => ?_, fun acc hI => ?_⟩
      · rw [List.getElem?_map] at hd
        obtain ⟨m, hm, rfl⟩ := Option.map_eq_some_iff.mp hd
        have hml := mlen m (List.mem_of_getElem? hm)
        refine ⟨?_, _, IsT true, fun s0 H0 C' cl fp => ⟨dgc_name 4 sc38.nd, dts_nil, fun _ => ?_, fun h => by cases h⟩⟩
        · rw [hI, List.length_map, List.length_take]; omega
        · refine (de_eqS ((de_slS (z := S m) (l := none) (u := some (k : Nat)) (by rw [S_len]; omega) (dv 4) do_none (do_some (dv 9))).is (congrArg D.str (cut_take m k))) ((de_slS (z := S u) (l := none) (u := some (k : Nat)) (by rw [S_len]; omega) (dv 3) do_none (do_some (dv 9))).is (congrArg D.str (cut_take u k)))).imp fun d r => ?_
          rw [show d = _ from r]
          show _ = _
          have e : decide (S (m.take k) = S (u.take k)) = decide (m.take k = u.take k) := by
            by_cases h : m.take k = u.take k
            · rw [decide_eq_true h, decide_eq_true (congrArg S h)]
            · rw [decide_eq_false h, decide_eq_false (fun q => h (S_inj q))]
          rw [e, hI, List.take_add_one, hm]
          simp
      · show D.list _ = D.list _
        rw [hI, List.length_map, List.take_length, List.map_map]
        rfl
    · rw [show b = _ from r]
      unfold noPre
      rw [List.any_map]
      rfl
    · refine db_one (ds_set 8 (dv 9) (fun d hd => ?_) sc38.nd)
      cases hd
      refine ⟨.dat (.int (k : Nat)), ?_, rfl⟩
      have h : noPre ms u k = true := h.symm
      show _ = _
      rw [due, hk, if_pos h]
      rfl
    · have h : noPre ms u k = false := h.symm
      refine ⟨.dat (.int (k : Nat)), ?_, rfl⟩
      show _ = _
      rw [due, hk, h, if_neg Bool.false_ne_true]
      rfl
  · rintro Γ1 M1 ⟨x9, rfl, rfl⟩
    rw [el]
    refine db_one (ds_ret (R := Is (.bool true)) (de_call DD.eq0 (hr.mono (by decide)) (RA := fun as => ∃ d, FirstR C u d ∧ as = [.dat d, .dat (dueD (due ms u u.length))]) (da_consR (Ra := FirstR C u) (Rr := IsA [.dat (dueD (due ms u u.length))]) (de_callF [cD C, sD u] DD.first (hr.mono (by decide)) (da_cons (dv 2) (da_cons (dv 3) da_nil)) ⟨C, u, rfl, ok, uk, rfl⟩) (da_cons (dv 8) da_nil) fun d as h1 h2 => ⟨d, h1, by rw [h2]⟩) ?_) fun d r => ⟨r, by simp⟩)
    rintro as ⟨d, hd, rfl⟩
    exact ⟨[d, dueD (due ms u u.length)], _, rfl, ⟨_, _, _, rfl, first_scal ok uk hms hd, rfl⟩, fun _ h => h⟩
end
end K59
namespace K59
open PySem PySem.Spec PyProof.Rows L2
def spLaw (K : PySem.W.Frag) : Sp := fun vs H Q _ => ∃ (a : Addr) (ns : List Int), vs = [.ref a] ∧ SqL K H a (ns.map V.int) ∧ ns.length ≤ 63 ∧ ∀ H', Q (.bl true) H'
section
variable {P : Program} {w : World} {K : PySem.W.Frag} {mg : Str → Option Value} {base : Heap}
theorem ok_law59 {f fs : Addr} {fd fds : FuncData} (T : Tx mg) (DD : Defs P w K mg base) (F : Fun K "law" "law" (topS 38) f fd) (FS : Fun K "_law_stream" "_law_stream" (topS 28) fs fds) (bS : Binds K fds ["_law_script"] []) (mS : mg "_law_stream" = some (.ref fs)) : FnOk P w K mg base CX0 7 f fd ["_law_script"] (spLaw K) := by
  refine F.ok sc38 (fun vs H Q E h => ?_) (fun cdv A outer s H vs Q E hr h => ?_)
  · obtain ⟨a, ns, rfl, _⟩ := h
    rfl
  · obtain ⟨a, ns, rfl, hS, hlen, k⟩ := h
    refine ⟨_, pss_cons (ps_set (i := 1) sc38.nd rfl (Or.inl rfl) (pe_call (E := E0) (ok_stream T FS) (hr.mono (by decide)) (by rfl) mS FS.kp bS .nil (fun _ _ _ _ _ _ _ z => z.elim) (pa_cons (pv 0) pa_nil))) pb_max, ?_⟩
    refine ⟨_, rfl, a, ns, rfl, hS, fun l z H1 hlz hl hz => ?_⟩
    have fl : (L2.upd (fun _ => none) l (.lst (ns.map V.int)) : Hp) l = some (.lst (ns.map V.int)) := upd_same
    have fz : (L2.upd (fun _ => none) l (.lst (ns.map V.int)) : Hp) z = none := upd_ne (Ne.symm hlz)
    refine law_rest T DD hr z (fun _ => none) (L2.upd (fun _ => none) l (.lst (ns.map V.int))) H1 _ _ ⟨fun b u e => ?_, fun b u e => (by cases e), fun b u e => (by cases e), fun b o hm => ?_, by simp⟩ ⟨rfl, fun i sl hi => ?_⟩ ⟨fun _ _ _ _ _ q => (by cases q.1), fun d M' F' H' v q e kk r => ?_, fun _ _ _ _ _ q => q.elim, fun _ _ _ _ _ q => q.elim⟩
    · by_cases hb : b = l
      · subst hb
        rw [fl] at e
        rw [hl]
        exact e
      · rw [upd_ne hb] at e
        cases e
    · rw [List.mem_singleton] at hm
      cases hm
      exact ⟨fz, rfl, ns, 0, 0, _, hlen, Int.le_refl _, Int.le_refl _, hz, .cons (.lst fl (Reps.ofInts ns)) (.cons (.int 0) (.cons (.int 0) .nil))⟩
    · match i with
      | 0 => cases hi; exact True.intro
      | 1 => cases hi; rfl
      | 2 => cases hi; exact True.intro
      | 3 => cases hi; exact True.intro
      | 4 => cases hi; exact True.intro
      | 5 => cases hi; exact True.intro
      | 6 => cases hi; exact True.intro
      | 7 => cases hi; exact True.intro
      | 8 => cases hi; exact True.intro
      | 9 => cases hi; exact True.intro
      | i + 10 => simp at hi
    · cases (show d = .bool true from q.1)
      cases r
      exact k H'
end
theorem all59 {l : PySem.W.OpenLaw} {w : World} {K : PySem.W.Frag} {h : Heap} {mg : Str → Option Value} {fa f1 f2 f3 f4 f5 f6 f7 f8 f9 f10 f11 f12 f13 f14 f15 f16 f17 f18 f19 f20 f21 f22 f23 f24 f25 f26 f27 f28 : Addr} (X : K.In h) (G : h.Ns mainGlobals mg) (hfa : mg "law" = some (.ref fa))
    {od1 an1 od2 an2 od3 an3 od4 an4 od5 an5 od6 an6 od7 an7 od8 an8 od9 an9 od10 an10 od11 an11 od12 an12 od13 an13 od14 an14 od15 an15 od16 an16 od17 an17 od18 an18 od19 an19 od20 an20 od21 an21 od22 an22 od23 an23 od24 an24 od25 an25 od26 an26 od27 an27 od28 an28 : Option Addr} {sl1 sl2 sl3 sl4 sl5 sl6 sl7 sl8 sl9 sl10 sl11 sl12 sl13 sl14 sl15 sl16 sl17 sl18 sl19 sl20 sl21 sl22 sl23 sl24 sl25 sl26 sl27 sl28 : Array (Option Value)}
    {oc1 kV1 dc1 pm1 cd1 ct1 oc2 kV2 dc2 pm2 cd2 ct2 oc3 kV3 dc3 pm3 cd3 ct3 oc4 kV4 dc4 pm4 cd4 ct4 oc5 kV5 dc5 pm5 cd5 ct5 oc6 kV6 dc6 pm6 cd6 ct6 oc7 kV7 dc7 pm7 cd7 ct7 oc8 kV8 dc8 pm8 cd8 ct8 oc9 kV9 dc9 pm9 cd9 ct9 oc10 kV10 dc10 pm10 cd10 ct10 oc11 kV11 dc11 pm11 cd11 ct11 oc12 kV12 dc12 pm12 cd12 ct12 oc13 kV13 dc13 pm13 cd13 ct13 oc14 kV14 dc14 pm14 cd14 ct14 oc15 kV15 dc15 pm15 cd15 ct15 oc16 kV16 dc16 pm16 cd16 ct16 oc17 kV17 dc17 pm17 cd17 ct17 oc18 kV18 dc18 pm18 cd18 ct18 oc19 kV19 dc19 pm19 cd19 ct19 oc20 kV20 dc20 pm20 cd20 ct20 oc21 kV21 dc21 pm21 cd21 ct21 oc22 kV22 dc22 pm22 cd22 ct22 oc23 kV23 dc23 pm23 cd23 ct23 oc24 kV24 dc24 pm24 cd24 ct24 oc25 kV25 dc25 pm25 cd25 ct25 oc26 kV26 dc26 pm26 cd26 ct26 oc27 kV27 dc27 pm27 cd27 ct27 oc28 kV28 dc28 pm28 cd28 ct28 : Value} {t1 t2 t3 t4 t5 : Tok}
    (a1 : PySem.W.nsIn K mainGlobals "is_spelled" = some (some (.ref f1))) (l1 : K.lookup f1 = some ⟨oc1, od1, .func (PySem.W.fnOf "is_spelled" "is_spelled" (defArgs (topS 8)) (defBody (topS 8)) (defScope (topS 8)) .none kV1 dc1 pm1 an1 cd1 ct1), sl1⟩) (c1 : PySem.W.codeIn K cd1 "is_spelled" = true) (k1 : PySem.W.keepIn K (.ref f1) = true)
    (a2 : PySem.W.nsIn K mainGlobals "is_code" = some (some (.ref f2))) (l2 : K.lookup f2 = some ⟨oc2, od2, .func (PySem.W.fnOf "is_code" "is_code" (defArgs (topS 9)) (defBody (topS 9)) (defScope (topS 9)) .none kV2 dc2 pm2 an2 cd2 ct2), sl2⟩) (c2 : PySem.W.codeIn K cd2 "is_code" = true) (k2 : PySem.W.keepIn K (.ref f2) = true)
    (a3 : PySem.W.nsIn K mainGlobals "is_string" = some (some (.ref f3))) (l3 : K.lookup f3 = some ⟨oc3, od3, .func (PySem.W.fnOf "is_string" "is_string" (defArgs (topS 10)) (defBody (topS 10)) (defScope (topS 10)) .none kV3 dc3 pm3 an3 cd3 ct3), sl3⟩) (c3 : PySem.W.codeIn K cd3 "is_string" = true) (k3 : PySem.W.keepIn K (.ref f3) = true)
    (a4 : PySem.W.nsIn K mainGlobals "states_of" = some (some (.ref f4))) (l4 : K.lookup f4 = some ⟨oc4, od4, .func (PySem.W.fnOf "states_of" "states_of" (defArgs (topS 11)) (defBody (topS 11)) (defScope (topS 11)) .none kV4 dc4 pm4 an4 cd4 ct4), sl4⟩) (c4 : PySem.W.codeIn K cd4 "states_of" = true) (k4 : PySem.W.keepIn K (.ref f4) = true)
    (a5 : PySem.W.nsIn K mainGlobals "behind" = some (some (.ref f5))) (l5 : K.lookup f5 = some ⟨oc5, od5, .func (PySem.W.fnOf "behind" "behind" (defArgs (topS 12)) (defBody (topS 12)) (defScope (topS 12)) .none kV5 dc5 pm5 an5 cd5 ct5), sl5⟩) (c5 : PySem.W.codeIn K cd5 "behind" = true) (k5 : PySem.W.keepIn K (.ref f5) = true)
    (a6 : PySem.W.nsIn K mainGlobals "next_states" = some (some (.ref f6))) (l6 : K.lookup f6 = some ⟨oc6, od6, .func (PySem.W.fnOf "next_states" "next_states" (defArgs (topS 13)) (defBody (topS 13)) (defScope (topS 13)) .none kV6 dc6 pm6 an6 cd6 ct6), sl6⟩) (c6 : PySem.W.codeIn K cd6 "next_states" = true) (k6 : PySem.W.keepIn K (.ref f6) = true)
    (a7 : PySem.W.nsIn K mainGlobals "check_code" = some (some (.ref f7))) (l7 : K.lookup f7 = some ⟨oc7, od7, .func (PySem.W.fnOf "check_code" "check_code" (defArgs (topS 14)) (defBody (topS 14)) (defScope (topS 14)) .none kV7 dc7 pm7 an7 cd7 ct7), sl7⟩) (c7 : PySem.W.codeIn K cd7 "check_code" = true) (k7 : PySem.W.keepIn K (.ref f7) = true)
    (a8 : PySem.W.nsIn K mainGlobals "check_string" = some (some (.ref f8))) (l8 : K.lookup f8 = some ⟨oc8, od8, .func (PySem.W.fnOf "check_string" "check_string" (defArgs (topS 15)) (defBody (topS 15)) (defScope (topS 15)) .none kV8 dc8 pm8 an8 cd8 ct8), sl8⟩) (c8 : PySem.W.codeIn K cd8 "check_string" = true) (k8 : PySem.W.keepIn K (.ref f8) = true)
    (a9 : PySem.W.nsIn K mainGlobals "costs_from" = some (some (.ref f9))) (l9 : K.lookup f9 = some ⟨oc9, od9, .func (PySem.W.fnOf "costs_from" "costs_from" (defArgs (topS 18)) (defBody (topS 18)) (defScope (topS 18)) .none kV9 dc9 pm9 an9 cd9 ct9), sl9⟩) (c9 : PySem.W.codeIn K cd9 "costs_from" = true) (k9 : PySem.W.keepIn K (.ref f9) = true)
    (a10 : PySem.W.nsIn K mainGlobals "moves_at" = some (some (.ref f10))) (l10 : K.lookup f10 = some ⟨oc10, od10, .func (PySem.W.fnOf "moves_at" "moves_at" (defArgs (topS 19)) (defBody (topS 19)) (defScope (topS 19)) .none kV10 dc10 pm10 an10 cd10 ct10), sl10⟩) (c10 : PySem.W.codeIn K cd10 "moves_at" = true) (k10 : PySem.W.keepIn K (.ref f10) = true)
    (a11 : PySem.W.nsIn K mainGlobals "settle" = some (some (.ref f11))) (l11 : K.lookup f11 = some ⟨oc11, od11, .func (PySem.W.fnOf "settle" "settle" (defArgs (topS 20)) (defBody (topS 20)) (defScope (topS 20)) .none kV11 dc11 pm11 an11 cd11 ct11), sl11⟩) (c11 : PySem.W.codeIn K cd11 "settle" = true) (k11 : PySem.W.keepIn K (.ref f11) = true)
    (a12 : PySem.W.nsIn K mainGlobals "least_errors" = some (some (.ref f12))) (l12 : K.lookup f12 = some ⟨oc12, od12, .func (PySem.W.fnOf "least_errors" "least_errors" (defArgs (topS 21)) (defBody (topS 21)) (defScope (topS 21)) .none kV12 dc12 pm12 an12 cd12 ct12), sl12⟩) (c12 : PySem.W.codeIn K cd12 "least_errors" = true) (k12 : PySem.W.keepIn K (.ref f12) = true)
    (a13 : PySem.W.nsIn K mainGlobals "without_letters" = some (some (.ref f13))) (l13 : K.lookup f13 = some ⟨oc13, od13, .func (PySem.W.fnOf "without_letters" "without_letters" (defArgs (topS 22)) (defBody (topS 22)) (defScope (topS 22)) .none kV13 dc13 pm13 an13 cd13 ct13), sl13⟩) (c13 : PySem.W.codeIn K cd13 "without_letters" = true) (k13 : PySem.W.keepIn K (.ref f13) = true)
    (a14 : PySem.W.nsIn K mainGlobals "with_letter" = some (some (.ref f14))) (l14 : K.lookup f14 = some ⟨oc14, od14, .func (PySem.W.fnOf "with_letter" "with_letter" (defArgs (topS 23)) (defBody (topS 23)) (defScope (topS 23)) .none kV14 dc14 pm14 an14 cd14 ct14), sl14⟩) (c14 : PySem.W.codeIn K cd14 "with_letter" = true) (k14 : PySem.W.keepIn K (.ref f14) = true)
    (a15 : PySem.W.nsIn K mainGlobals "nearest" = some (some (.ref f15))) (l15 : K.lookup f15 = some ⟨oc15, od15, .func (PySem.W.fnOf "nearest" "nearest" (defArgs (topS 24)) (defBody (topS 24)) (defScope (topS 24)) .none kV15 dc15 pm15 an15 cd15 ct15), sl15⟩) (c15 : PySem.W.codeIn K cd15 "nearest" = true) (k15 : PySem.W.keepIn K (.ref f15) = true)
    (a16 : PySem.W.nsIn K mainGlobals "correction" = some (some (.ref f16))) (l16 : K.lookup f16 = some ⟨oc16, od16, .func (PySem.W.fnOf "correction" "correction" (defArgs (topS 25)) (defBody (topS 25)) (defScope (topS 25)) .none kV16 dc16 pm16 an16 cd16 ct16), sl16⟩) (c16 : PySem.W.codeIn K cd16 "correction" = true) (k16 : PySem.W.keepIn K (.ref f16) = true)
    (a17 : PySem.W.nsIn K mainGlobals "first_error" = some (some (.ref f17))) (l17 : K.lookup f17 = some ⟨oc17, od17, .func (PySem.W.fnOf "first_error" "first_error" (defArgs (topS 26)) (defBody (topS 26)) (defScope (topS 26)) .none kV17 dc17 pm17 an17 cd17 ct17), sl17⟩) (c17 : PySem.W.codeIn K cd17 "first_error" = true) (k17 : PySem.W.keepIn K (.ref f17) = true)
    (a18 : PySem.W.nsIn K mainGlobals "_law_stream" = some (some (.ref f18))) (l18 : K.lookup f18 = some ⟨oc18, od18, .func (PySem.W.fnOf "_law_stream" "_law_stream" (defArgs (topS 28)) (defBody (topS 28)) (defScope (topS 28)) .none kV18 dc18 pm18 an18 cd18 ct18), sl18⟩) (c18 : PySem.W.codeIn K cd18 "_law_stream" = true) (k18 : PySem.W.keepIn K (.ref f18) = true)
    (a19 : PySem.W.nsIn K mainGlobals "_law_next" = some (some (.ref f19))) (l19 : K.lookup f19 = some ⟨oc19, od19, .func (PySem.W.fnOf "_law_next" "_law_next" (defArgs (topS 29)) (defBody (topS 29)) (defScope (topS 29)) .none kV19 dc19 pm19 an19 cd19 ct19), sl19⟩) (c19 : PySem.W.codeIn K cd19 "_law_next" = true) (k19 : PySem.W.keepIn K (.ref f19) = true)
    (a20 : PySem.W.nsIn K mainGlobals "_law_is_integer" = some (some (.ref f20))) (l20 : K.lookup f20 = some ⟨oc20, od20, .func (PySem.W.fnOf "_law_is_integer" "_law_is_integer" (defArgs (topS 30)) (defBody (topS 30)) (defScope (topS 30)) .none kV20 dc20 pm20 an20 cd20 ct20), sl20⟩) (c20 : PySem.W.codeIn K cd20 "_law_is_integer" = true) (k20 : PySem.W.keepIn K (.ref f20) = true)
    (a21 : PySem.W.nsIn K mainGlobals "_law_equal" = some (some (.ref f21))) (l21 : K.lookup f21 = some ⟨oc21, od21, .func (PySem.W.fnOf "_law_equal" "_law_equal" (defArgs (topS 31)) (defBody (topS 31)) (defScope (topS 31)) .none kV21 dc21 pm21 an21 cd21 ct21), sl21⟩) (c21 : PySem.W.codeIn K cd21 "_law_equal" = true) (k21 : PySem.W.keepIn K (.ref f21) = true)
    (a22 : PySem.W.nsIn K mainGlobals "_law_pick" = some (some (.ref f22))) (l22 : K.lookup f22 = some ⟨oc22, od22, .func (PySem.W.fnOf "_law_pick" "_law_pick" (defArgs (topS 32)) (defBody (topS 32)) (defScope (topS 32)) .none kV22 dc22 pm22 an22 cd22 ct22), sl22⟩) (c22 : PySem.W.codeIn K cd22 "_law_pick" = true) (k22 : PySem.W.keepIn K (.ref f22) = true)
    (a23 : PySem.W.nsIn K mainGlobals "_law_string" = some (some (.ref f23))) (l23 : K.lookup f23 = some ⟨oc23, od23, .func (PySem.W.fnOf "_law_string" "_law_string" (defArgs (topS 33)) (defBody (topS 33)) (defScope (topS 33)) .none kV23 dc23 pm23 an23 cd23 ct23), sl23⟩) (c23 : PySem.W.codeIn K cd23 "_law_string" = true) (k23 : PySem.W.keepIn K (.ref f23) = true)
    (a24 : PySem.W.nsIn K mainGlobals "_law_code" = some (some (.ref f24))) (l24 : K.lookup f24 = some ⟨oc24, od24, .func (PySem.W.fnOf "_law_code" "_law_code" (defArgs (topS 34)) (defBody (topS 34)) (defScope (topS 34)) .none kV24 dc24 pm24 an24 cd24 ct24), sl24⟩) (c24 : PySem.W.codeIn K cd24 "_law_code" = true) (k24 : PySem.W.keepIn K (.ref f24) = true)
    (a25 : PySem.W.nsIn K mainGlobals "_law_message" = some (some (.ref f25))) (l25 : K.lookup f25 = some ⟨oc25, od25, .func (PySem.W.fnOf "_law_message" "_law_message" (defArgs (topS 35)) (defBody (topS 35)) (defScope (topS 35)) .none kV25 dc25 pm25 an25 cd25 ct25), sl25⟩) (c25 : PySem.W.codeIn K cd25 "_law_message" = true) (k25 : PySem.W.keepIn K (.ref f25) = true)
    (a26 : PySem.W.nsIn K mainGlobals "_law_distance" = some (some (.ref f26))) (l26 : K.lookup f26 = some ⟨oc26, od26, .func (PySem.W.fnOf "_law_distance" "_law_distance" (defArgs (topS 36)) (defBody (topS 36)) (defScope (topS 36)) .none kV26 dc26 pm26 an26 cd26 ct26), sl26⟩) (c26 : PySem.W.codeIn K cd26 "_law_distance" = true) (k26 : PySem.W.keepIn K (.ref f26) = true)
    (a27 : PySem.W.nsIn K mainGlobals "_law_messages" = some (some (.ref f27))) (l27 : K.lookup f27 = some ⟨oc27, od27, .func (PySem.W.fnOf "_law_messages" "_law_messages" (defArgs (topS 37)) (defBody (topS 37)) (defScope (topS 37)) .none kV27 dc27 pm27 an27 cd27 ct27), sl27⟩) (c27 : PySem.W.codeIn K cd27 "_law_messages" = true) (k27 : PySem.W.keepIn K (.ref f27) = true)
    (a28 : PySem.W.nsIn K mainGlobals "law" = some (some (.ref f28))) (l28 : K.lookup f28 = some ⟨oc28, od28, .func (PySem.W.fnOf "law" "law" (defArgs (topS 38)) (defBody (topS 38)) (defScope (topS 38)) .none kV28 dc28 pm28 an28 cd28 ct28), sl28⟩) (c28 : PySem.W.codeIn K cd28 "law" = true) (k28 : PySem.W.keepIn K (.ref f28) = true)
    (z_isi : PySem.W.nsIn K mainGlobals "isinstance" = some none)
    (z_str : PySem.W.nsIn K mainGlobals "str" = some none)
    (z_tup : PySem.W.nsIn K mainGlobals "tuple" = some none)
    (z_len : PySem.W.nsIn K mainGlobals "len" = some none)
    (z_all : PySem.W.nsIn K mainGlobals "all" = some none)
    (z_any : PySem.W.nsIn K mainGlobals "any" = some none)
    (z_rng : PySem.W.nsIn K mainGlobals "range" = some none)
    (z_enm : PySem.W.nsIn K mainGlobals "enumerate" = some none)
    (z_lst : PySem.W.nsIn K mainGlobals "list" = some none)
    (z_int : PySem.W.nsIn K mainGlobals "int" = some none)
    (z_abs : PySem.W.nsIn K mainGlobals "abs" = some none)
    (z_min : PySem.W.nsIn K mainGlobals "min" = some none)
    (z_boo : PySem.W.nsIn K mainGlobals "bool" = some none)
    (v_letters : PySem.W.nsIn K mainGlobals "LETTERS" = some (some (.str "abc" t1)))
    (v_every : PySem.W.nsIn K mainGlobals "EVERY" = some (some (.str "abc" t2)))
    (v_mw : PySem.W.nsIn K mainGlobals "MOST_WORDS" = some (some (.int 6 t3)))
    (v_lw : PySem.W.nsIn K mainGlobals "LONGEST_WORD" = some (some (.int 5 t4)))
    (v_ls : PySem.W.nsIn K mainGlobals "LONGEST_STRING" = some (some (.int 24 t5)))
    : ∃ fd : FuncData, (∀ (s : Shared) (v : Value), BindsTo s fd ⟨[v], []⟩ [("_law_script", v)]) ∧ ∀ base : Heap, K.In base → base.Ns mainGlobals mg → FnOk l.prog w K mg base CX0 7 fa fd ["_law_script"] (spLaw K) := by
  have e := hfa.symm.trans (PySem.W.mg_of X G a28)
  cases e
  have T : Tx mg := ⟨PySem.W.mg_none_of X G z_isi, PySem.W.mg_none_of X G z_str, PySem.W.mg_none_of X G z_tup, PySem.W.mg_none_of X G z_len, PySem.W.mg_none_of X G z_all, PySem.W.mg_none_of X G z_any, PySem.W.mg_none_of X G z_rng, PySem.W.mg_none_of X G z_enm, PySem.W.mg_none_of X G z_lst, PySem.W.mg_none_of X G z_int, PySem.W.mg_none_of X G z_abs, PySem.W.mg_none_of X G z_min, PySem.W.mg_none_of X G z_boo, ⟨_, PySem.W.mg_of X G v_letters⟩, ⟨_, PySem.W.mg_of X G v_every⟩, ⟨_, PySem.W.mg_of X G v_mw⟩, ⟨_, PySem.W.mg_of X G v_lw⟩, ⟨_, PySem.W.mg_of X G v_ls⟩⟩
  have F8 := fun_mk (st := topS 8) l1 c1 k1
  have m8 := PySem.W.mg_of X G a1
  have F9 := fun_mk (st := topS 9) l2 c2 k2
  have m9 := PySem.W.mg_of X G a2
  have F10 := fun_mk (st := topS 10) l3 c3 k3
  have m10 := PySem.W.mg_of X G a3
  have F11 := fun_mk (st := topS 11) l4 c4 k4
  have m11 := PySem.W.mg_of X G a4
  have F12 := fun_mk (st := topS 12) l5 c5 k5
  have m12 := PySem.W.mg_of X G a5
  have F13 := fun_mk (st := topS 13) l6 c6 k6
  have m13 := PySem.W.mg_of X G a6
  have F14 := fun_mk (st := topS 14) l7 c7 k7
  have m14 := PySem.W.mg_of X G a7
  have F15 := fun_mk (st := topS 15) l8 c8 k8
  have m15 := PySem.W.mg_of X G a8
  have F18 := fun_mk (st := topS 18) l9 c9 k9
  have m18 := PySem.W.mg_of X G a9
  have F19 := fun_mk (st := topS 19) l10 c10 k10
  have m19 := PySem.W.mg_of X G a10
  have F20 := fun_mk (st := topS 20) l11 c11 k11
  have m20 := PySem.W.mg_of X G a11
  have F21 := fun_mk (st := topS 21) l12 c12 k12
  have m21 := PySem.W.mg_of X G a12
  have F22 := fun_mk (st := topS 22) l13 c13 k13
  have m22 := PySem.W.mg_of X G a13
  have F23 := fun_mk (st := topS 23) l14 c14 k14
  have m23 := PySem.W.mg_of X G a14
  have F24 := fun_mk (st := topS 24) l15 c15 k15
  have m24 := PySem.W.mg_of X G a15
  have F25 := fun_mk (st := topS 25) l16 c16 k16
  have m25 := PySem.W.mg_of X G a16
  have F26 := fun_mk (st := topS 26) l17 c17 k17
  have m26 := PySem.W.mg_of X G a17
  have F28 := fun_mk (st := topS 28) l18 c18 k18
  have m28 := PySem.W.mg_of X G a18
  have F29 := fun_mk (st := topS 29) l19 c19 k19
  have m29 := PySem.W.mg_of X G a19
  have F30 := fun_mk (st := topS 30) l20 c20 k20
  have m30 := PySem.W.mg_of X G a20
  have F31 := fun_mk (st := topS 31) l21 c21 k21
  have m31 := PySem.W.mg_of X G a21
  have F32 := fun_mk (st := topS 32) l22 c22 k22
  have m32 := PySem.W.mg_of X G a22
  have F33 := fun_mk (st := topS 33) l23 c23 k23
  have m33 := PySem.W.mg_of X G a23
  have F34 := fun_mk (st := topS 34) l24 c24 k24
  have m34 := PySem.W.mg_of X G a24
  have F35 := fun_mk (st := topS 35) l25 c25 k25
  have m35 := PySem.W.mg_of X G a25
  have F36 := fun_mk (st := topS 36) l26 c26 k26
  have m36 := PySem.W.mg_of X G a26
  have F37 := fun_mk (st := topS 37) l27 c27 k27
  have m37 := PySem.W.mg_of X G a27
  have F38 := fun_mk (st := topS 38) l28 c28 k28
  have m38 := PySem.W.mg_of X G a28
  refine ⟨PySem.W.fnOf "law" "law" (defArgs (topS 38)) (defBody (topS 38)) (defScope (topS 38)) .none kV28 dc28 pm28 an28 cd28 ct28, fun s v => .of_eq rfl, fun base _ _ => ?_⟩
  have D8 : Dn l.prog w K mg base "is_spelled" 1 (PrP ASpelled) := d_spelled T F8 m8
  have D9 : Dn l.prog w K mg base "is_code" 2 (PrP ACode) := d_code T F9 m9 D8
  have D10 : Dn l.prog w K mg base "is_string" 2 (PrP AStr) := d_string T F10 m10 D8
  have D11 : Dn l.prog w K mg base "states_of" 1 (PrP AStates) := d_states T F11 m11
  have D12 : Dn l.prog w K mg base "behind" 1 (PrP ABehind) := d_behind T F12 m12
  have D13 : Dn l.prog w K mg base "next_states" 2 (PrP ANext) := d_next T F13 m13 D12
  have D14 : Dn l.prog w K mg base "check_code" 3 (PrP ACheck) := d_checkc F14 m14 D9
  have D15 : Dn l.prog w K mg base "check_string" 4 (PrP ACheckS) := d_checks F15 m15 D14 D10
  have D19 : Dn l.prog w K mg base "moves_at" 3 (PrP AMoves) := d_moves T F19 m19 D13
  have D20 : Dn l.prog w K mg base "settle" 3 PrSettle := d_settle T F20 m20 D13
  have D18 : Dn l.prog w K mg base "costs_from" 4 (PrP ACosts) := d_costs T F18 m18 D11 D19 D20
  have D21 : Dn l.prog w K mg base "least_errors" 5 (PrP ALeast) := d_least F21 m21 D15 D18
  have D22 : Dn l.prog w K mg base "without_letters" 1 (PrP AWo) := d_without T F22 m22
  have D23 : Dn l.prog w K mg base "with_letter" 3 (PrP AWi) := d_with T F23 m23 D13
  have D24 : Dn l.prog w K mg base "nearest" 5 (PrP ANear) := d_nearest T F24 m24 D18 D22 D23
  have D25 : Dn l.prog w K mg base "correction" 6 (PrP ANear) := d_correction F25 m25 D15 D24
  have D26 : Dn l.prog w K mg base "first_error" 5 (PrP AFirst) := d_first T F26 m26 D15 D13
  have D29 : Dn l.prog w K mg base "_law_next" 1 (PrS ADraw) := d_draw T F29 m29
  have D30 : Dn l.prog w K mg base "_law_is_integer" 1 (PrP AIsInt) := d_isint T F30 m30
  have D31 : Dn l.prog w K mg base "_law_equal" 2 (PrP AEq) := d_eq0 T F31 m31 D30
  have E31 : Dn l.prog w K mg base "_law_equal" 3 (PrP AEq2) := d_eq1 T F31 m31 D31
  have D32 : Dn l.prog w K mg base "_law_pick" 2 (PrS APick) := d_pick T F32 m32 D29
  have D33 : Dn l.prog w K mg base "_law_string" 2 (PrS ATxt) := d_txt T F33 m33 D29
  have D34 : Dn l.prog w K mg base "_law_code" 3 (PrS AMkCode) := d_mkcode T F34 m34 D29 D32 D33
  have D35 : Dn l.prog w K mg base "_law_message" 3 (PrS AMsg) := d_msg T F35 m35 D29 D32
  have D36 : Dn l.prog w K mg base "_law_distance" 1 (PrP ADist) := d_dist T F36 m36
  have D37 : Dn l.prog w K mg base "_law_messages" 1 (PrP AMsgs) := d_msgs T F37 m37
  exact ok_law59 T ⟨D21, D25, D26, D29, D31, E31, D32, D33, D34, D35, D36, D37⟩ F38 F28 (F28.binds (ps := ["_law_script"]) fun _ _ _ _ _ _ us hl => match us, hl with | [_], _ => rfl) m28

theorem walk59 {l : PySem.W.OpenLaw} {q : Program} {loose : List Str} {XP : (Str → Option Value) → Heap → Prop} {YP : World → Heap → Prop} {d : DefRec} {K : Params → PySem.W.Frag} (hn : l.most = some 63) (hdf : d.params.defaults = [])
    (hY : ∀ (w : World) (h : Heap), YP w h → (K w.params).In h)
    (F : ∀ (w : World) (mg : Str → Option Value) (fa : Addr) (h : Heap), (K w.params).In h → h.Ns mainGlobals mg → mg d.name = some (.ref fa) →
      ∃ fd : FuncData, (∀ (s : Shared) (u : Value), BindsTo s fd ⟨[u], []⟩ [("_law_script", u)]) ∧ ∀ base : Heap, (K w.params).In base → base.Ns mainGlobals mg → FnOk l.prog w (K w.params) mg base CX0 7 fa fd ["_law_script"] (spLaw (K w.params))) :
    PySem.W.WalkO q loose XP YP l.row.toRowW d [] (fun f vs => PySem.call f vs) :=
  L2.walk_of (n := 63) (k := 7) (x := "_law_script") (CX := fun _ => CX0) (sp := fun w => spLaw (K w.params)) hn (by decide) hdf ⟨rfl, by decide, by decide⟩ hY F (fun _ _ a ns hl _ hS => ⟨a, ns, rfl, hS, hl, fun _ => rfl⟩) fun _ _ _ _ _ z => z
end K59

open PySem PySem.W PyProof.Rows in
set_option maxRecDepth 100000 in
set_option maxHeartbeats 0 in
theorem PySem.Challenge.cw_syncedwords_k59_whole_corrections_holds : PySem.Challenge.rw_syncedwords_k59_whole_corrections.Holds := by
  w_on; o_law; k_head; (case hw => w_witness2)
  k_fill
  refine K59.walk59 (l := PySem.Challenge.rw_syncedwords_k59_whole_corrections) rfl rfl (fun w h Y => PySem.W.kIn_of Y) ?F
  case F =>
    intro w mg fa h KX G hmg
    refine' K59.all59 KX G hmg ?a1 ?l1 ?c1 ?k1 ?a2 ?l2 ?c2 ?k2 ?a3 ?l3 ?c3 ?k3 ?a4 ?l4 ?c4 ?k4 ?a5 ?l5 ?c5 ?k5 ?a6 ?l6 ?c6 ?k6 ?a7 ?l7 ?c7 ?k7 ?a8 ?l8 ?c8 ?k8 ?a9 ?l9 ?c9 ?k9 ?a10 ?l10 ?c10 ?k10 ?a11 ?l11 ?c11 ?k11 ?a12 ?l12 ?c12 ?k12 ?a13 ?l13 ?c13 ?k13 ?a14 ?l14 ?c14 ?k14 ?a15 ?l15 ?c15 ?k15 ?a16 ?l16 ?c16 ?k16 ?a17 ?l17 ?c17 ?k17 ?a18 ?l18 ?c18 ?k18 ?a19 ?l19 ?c19 ?k19 ?a20 ?l20 ?c20 ?k20 ?a21 ?l21 ?c21 ?k21 ?a22 ?l22 ?c22 ?k22 ?a23 ?l23 ?c23 ?k23 ?a24 ?l24 ?c24 ?k24 ?a25 ?l25 ?c25 ?k25 ?a26 ?l26 ?c26 ?k26 ?a27 ?l27 ?c27 ?k27 ?a28 ?l28 ?c28 ?k28 ?z_isi ?z_str ?z_tup ?z_len ?z_all ?z_any ?z_rng ?z_enm ?z_lst ?z_int ?z_abs ?z_min ?z_boo ?v_letters ?v_every ?v_mw ?v_lw ?v_ls
    (case a1 => k_is)
    (case l1 => k_is)
    (case c1 => k_is)
    (case k1 => k_is)
    (case a2 => k_is)
    (case l2 => k_is)
    (case c2 => k_is)
    (case k2 => k_is)
    (case a3 => k_is)
    (case l3 => k_is)
    (case c3 => k_is)
    (case k3 => k_is)
    (case a4 => k_is)
    (case l4 => k_is)
    (case c4 => k_is)
    (case k4 => k_is)
    (case a5 => k_is)
    (case l5 => k_is)
    (case c5 => k_is)
    (case k5 => k_is)
    (case a6 => k_is)
    (case l6 => k_is)
    (case c6 => k_is)
    (case k6 => k_is)
    (case a7 => k_is)
    (case l7 => k_is)
    (case c7 => k_is)
    (case k7 => k_is)
    (case a8 => k_is)
    (case l8 => k_is)
    (case c8 => k_is)
    (case k8 => k_is)
    (case a9 => k_is)
    (case l9 => k_is)
    (case c9 => k_is)
    (case k9 => k_is)
    (case a10 => k_is)
    (case l10 => k_is)
    (case c10 => k_is)
    (case k10 => k_is)
    (case a11 => k_is)
    (case l11 => k_is)
    (case c11 => k_is)
    (case k11 => k_is)
    (case a12 => k_is)
    (case l12 => k_is)
    (case c12 => k_is)
    (case k12 => k_is)
    (case a13 => k_is)
    (case l13 => k_is)
    (case c13 => k_is)
    (case k13 => k_is)
    (case a14 => k_is)
    (case l14 => k_is)
    (case c14 => k_is)
    (case k14 => k_is)
    (case a15 => k_is)
    (case l15 => k_is)
    (case c15 => k_is)
    (case k15 => k_is)
    (case a16 => k_is)
    (case l16 => k_is)
    (case c16 => k_is)
    (case k16 => k_is)
    (case a17 => k_is)
    (case l17 => k_is)
    (case c17 => k_is)
    (case k17 => k_is)
    (case a18 => k_is)
    (case l18 => k_is)
    (case c18 => k_is)
    (case k18 => k_is)
    (case a19 => k_is)
    (case l19 => k_is)
    (case c19 => k_is)
    (case k19 => k_is)
    (case a20 => k_is)
    (case l20 => k_is)
    (case c20 => k_is)
    (case k20 => k_is)
    (case a21 => k_is)
    (case l21 => k_is)
    (case c21 => k_is)
    (case k21 => k_is)
    (case a22 => k_is)
    (case l22 => k_is)
    (case c22 => k_is)
    (case k22 => k_is)
    (case a23 => k_is)
    (case l23 => k_is)
    (case c23 => k_is)
    (case k23 => k_is)
    (case a24 => k_is)
    (case l24 => k_is)
    (case c24 => k_is)
    (case k24 => k_is)
    (case a25 => k_is)
    (case l25 => k_is)
    (case c25 => k_is)
    (case k25 => k_is)
    (case a26 => k_is)
    (case l26 => k_is)
    (case c26 => k_is)
    (case k26 => k_is)
    (case a27 => k_is)
    (case l27 => k_is)
    (case c27 => k_is)
    (case k27 => k_is)
    (case a28 => k_is)
    (case l28 => k_is)
    (case c28 => k_is)
    (case k28 => k_is)
    (case z_isi => k_is)
    (case z_str => k_is)
    (case z_tup => k_is)
    (case z_len => k_is)
    (case z_all => k_is)
    (case z_any => k_is)
    (case z_rng => k_is)
    (case z_enm => k_is)
    (case z_lst => k_is)
    (case z_int => k_is)
    (case z_abs => k_is)
    (case z_min => k_is)
    (case z_boo => k_is)
    (case v_letters => k_is)
    (case v_every => k_is)
    (case v_mw => k_is)
    (case v_lw => k_is)
    (case v_ls => k_is)
