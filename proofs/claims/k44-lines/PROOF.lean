import PyProof.Rows.All
import Wide.All
import OpenK.AllK
import Wide.FinOn
import PyProof.Rows.SetFrom
import HandS.ForMost
import HandS.Strs
import PyProof.FactsAll.subtypes_5
import HandS.Sort
import KE.GoesEnum
import HandS.IsInst
import HandS.Wide
import HandS.TupAny
import HandS.Walk
import HandS.Rev
import HandS.Deep
import HandS.ExcOwn
import HandS.Exc
import HandS.Codes
import HandS.More
import HandS.Zip
import PySem.Challenge.RW_stirround_k44_whole_fewest_lines
/-! Kuhn's matching, as `seated` and `paired` do it: in plain Lean. -/
namespace K44
/-- assoc lists as the dict keeps them -/
def look : List (Nat × Nat) → Nat → Option Nat
  | [], _ => none
  | (k, v) :: r, x => if k = x then some v else look r x
def mput : List (Nat × Nat) → Nat → Nat → List (Nat × Nat)
  | [], x, y => [(x, y)]
  | (k, v) :: r, x, y => if k = x then (k, y) :: r else (k, v) :: mput r x y
theorem look_mput (x y : Nat) : ∀ (m : List (Nat × Nat)) (j : Nat), look (mput m x y) j = if j = x then some y else look m j
  | [], j => by
    simp only [mput, look]
    by_cases h : x = j
    · rw [if_pos h, if_pos h.symm]
    · rw [if_neg h, if_neg fun e => h e.symm]
  | (k, v) :: r, j => by
    have ih := look_mput x y r j
    simp only [mput]
    by_cases h : k = x
    · rw [if_pos h]
      simp only [look]
      by_cases h2 : k = j
      · rw [if_pos h2, if_pos (h2.symm.trans h)]
      · rw [if_neg h2, if_neg h2, if_neg (fun e => h2 (h.trans e.symm))]
    · rw [if_neg h]
      simp only [look]
      by_cases h2 : k = j
      · rw [if_pos h2, if_pos h2, if_neg (fun e => h (h2.trans e))]
      · rw [if_neg h2, if_neg h2, ih]
theorem look_keys : ∀ (m : List (Nat × Nat)) (j : Nat), look m j = none ↔ j ∉ m.map (·.1)
  | [], j => by simp [look]
  | (k, v) :: r, j => by
    have ih := look_keys r j
    simp only [look, List.map_cons, List.mem_cons, not_or]
    by_cases h : k = j
    · simp [h]
    · rw [if_neg h, ih]
      exact ⟨fun q => ⟨fun e => h e.symm, q⟩, fun q => q.2⟩
theorem look_mem : ∀ {m : List (Nat × Nat)} {j v : Nat}, look m j = some v → (j, v) ∈ m
  | [], j, v, h => by simp [look] at h
  | (k, u) :: r, j, v, h => by
    simp only [look] at h
    by_cases e : k = j
    · rw [if_pos e] at h
      have e2 := Option.some.inj h
      rw [← e, ← e2]
      exact List.mem_cons_self
    · rw [if_neg e] at h
      exact List.mem_cons_of_mem _ (look_mem h)
theorem mem_look : ∀ {m : List (Nat × Nat)} {j v : Nat}, (m.map (·.1)).Nodup → (j, v) ∈ m → look m j = some v
  | [], j, v, _, h => by simp at h
  | (k, u) :: r, j, v, nd, h => by
    simp only [List.map_cons, List.nodup_cons] at nd
    simp only [look]
    rcases List.mem_cons.mp h with e | h
    · have e1 : j = k := congrArg Prod.fst e
      have e2 : v = u := congrArg Prod.snd e
      rw [if_pos e1.symm, e2]
    · have ne : k ≠ j := fun e => nd.1 (by rw [e]; exact List.mem_map.mpr ⟨(j, v), h, rfl⟩)
      rw [if_neg ne]
      exact mem_look nd.2 h
theorem keys_mput (x y : Nat) : ∀ (m : List (Nat × Nat)), (mput m x y).map (·.1) = if x ∈ m.map (·.1) then m.map (·.1) else m.map (·.1) ++ [x]
  | [] => by simp [mput]
  | (k, v) :: r => by
    have ih := keys_mput x y r
    simp only [mput]
    by_cases h : k = x
    · rw [if_pos h]
      simp [h]
    · rw [if_neg h]
      simp only [List.map_cons, ih, List.mem_cons]
      by_cases h2 : x ∈ r.map (·.1)
      · rw [if_pos h2, if_pos (.inr h2)]
      · rw [if_neg h2, if_neg (fun q => q.elim (fun e => h e.symm) h2)]
        rfl
theorem nd_mput {x y : Nat} {m : List (Nat × Nat)} (h : (m.map (·.1)).Nodup) : ((mput m x y).map (·.1)).Nodup := by
  rw [keys_mput]
  by_cases e : x ∈ m.map (·.1)
  · rw [if_pos e]; exact h
  · rw [if_neg e]
    rw [List.nodup_append]
    exact ⟨h, by simp, fun a ha b hb q => e (by rw [List.mem_singleton] at hb; rw [← hb, ← q]; exact ha)⟩
/-- what seated answers: the truth, tried, below -/
abbrev Res := Bool × List Nat × List (Nat × Nat)
/-- the loop of seated over what is left of above[one] -/
def seatIn (rec : List Nat → List (Nat × Nat) → Nat → Res) (one : Nat) : List Nat → List Nat → List (Nat × Nat) → Res
  | [], T, M => (false, T, M)
  | o :: rest, T, M =>
    if o ∈ T then seatIn rec one rest T M
    else match look M o with
      | none => (true, T ++ [o], mput M o one)
      | some s =>
        if (rec (T ++ [o]) M s).1 = true then (true, (rec (T ++ [o]) M s).2.1, mput (rec (T ++ [o]) M s).2.2 o one)
        else seatIn rec one rest (rec (T ++ [o]) M s).2.1 (rec (T ++ [o]) M s).2.2
def seat (A : Nat → List Nat) : Nat → List Nat → List (Nat × Nat) → Nat → Res
  | 0, T, M, _ => (false, T, M)
  | n + 1, T, M, one => seatIn (seat A n) one (A one) T M
/-- a list without doubles within another is no longer -/
theorem nd_len {α : Type} [DecidableEq α] : ∀ {l l' : List α}, l.Nodup → (∀ x ∈ l, x ∈ l') → l.length ≤ l'.length
  | [], _, _, _ => Nat.zero_le _
  | x :: l, l', nd, h => by
    rw [List.nodup_cons] at nd
    have hx : x ∈ l' := h x List.mem_cons_self
    have ih : l.length ≤ (l'.erase x).length := nd_len nd.2 fun y hy => by
      have ne : y ≠ x := fun e => nd.1 (e ▸ hy)
      exact (List.mem_erase_of_ne ne).mpr (h y (List.mem_cons_of_mem _ hy))
    rw [List.length_erase_of_mem hx] at ih
    have : 0 < l'.length := List.length_pos_of_mem hx
    rw [List.length_cons]
    omega
/-- tried: without doubles, of numbers below N -/
def TOk (N : Nat) (T : List Nat) : Prop := T.Nodup ∧ ∀ t ∈ T, t < N
theorem TOk.len {N : Nat} {T : List Nat} (h : TOk N T) : T.length ≤ N := by
  have := nd_len (l' := List.range N) h.1 fun t ht => List.mem_range.mpr (h.2 t ht)
  rwa [List.length_range] at this
theorem TOk.snoc {N o : Nat} {T : List Nat} (h : TOk N T) (ho : o < N) (hn : o ∉ T) : TOk N (T ++ [o]) := by
  refine ⟨?_, fun t ht => ?_⟩
  · rw [List.nodup_append]
    exact ⟨h.1, by simp, fun a ha b hb q => hn (by rw [List.mem_singleton] at hb; rw [← hb, ← q]; exact ha)⟩
  · rcases List.mem_append.mp ht with h1 | h1
    · exact h.2 t h1
    · rw [List.mem_singleton] at h1; rw [h1]; exact ho
def InjOff (T : List Nat) (M : List (Nat × Nat)) : Prop := ∀ k k' v, k ∉ T → k' ∉ T → look M k = some v → look M k' = some v → k = k'
def ValOff (T : List Nat) (M : List (Nat × Nat)) (v : Nat) : Prop := ∃ k, k ∉ T ∧ look M k = some v
/-- D is dead: each of it is taken, by one all of whose aboves are in D -/
def Dead (A : Nat → List Nat) (M : List (Nat × Nat)) (D : Nat → Prop) : Prop := ∀ t, D t → ∃ s, look M t = some s ∧ ∀ x ∈ A s, D x
structure Fail (A : Nat → List Nat) (T Tc : List Nat) (M : List (Nat × Nat)) (os : List Nat) (N : Nat) (r : Res) : Prop where
  same : r.2.2 = M
  tok : TOk N r.2.1
  sub : ∀ t ∈ Tc, t ∈ r.2.1
  all : ∀ x ∈ os, x ∈ r.2.1
  dead : ∀ t ∈ r.2.1, t ∉ T → ∃ s, look M t = some s ∧ ∀ x ∈ A s, x ∈ r.2.1
structure Win (A : Nat → List Nat) (T : List Nat) (M : List (Nat × Nat)) (one : Nat) (os : List Nat) (N : Nat) (r : Res) : Prop where
  tok : TOk N r.2.1
  sub : ∀ t ∈ T, t ∈ r.2.1
  agree : ∀ t ∈ T, look r.2.2 t = look M t
  edge : ∀ k v, look r.2.2 k = some v → look M k = some v ∨ k ∈ A v
  nd : (M.map (·.1)).Nodup → (r.2.2.map (·.1)).Nodup
  inj : InjOff T r.2.2
  val : ∀ v, ValOff T r.2.2 v ↔ ValOff T M v ∨ v = one
  out : ∀ D, Dead A M D → (¬ ∀ x ∈ os, D x) ∧ ∀ t, D t → look r.2.2 t = look M t
theorem inj_more {T T1 : List Nat} {M : List (Nat × Nat)} (h : InjOff T M) (s : ∀ t ∈ T, t ∈ T1) : InjOff T1 M :=
  fun k k' v a b => h k k' v (fun q => a (s _ q)) (fun q => b (s _ q))
section
variable {A : Nat → List Nat} {N : Nat}
/-- the loop, where the deeper calls do as told -/
theorem seatIn_ok {n : Nat} {one : Nat} (hone : ∀ x ∈ A one, x < N)
    (ih : ∀ (T : List Nat) (M : List (Nat × Nat)) (s : Nat), TOk N T → N + 1 ≤ T.length + n → InjOff T M → ¬ ValOff T M s →
      ((seat A n T M s).1 = true → Win A T M s (A s) N (seat A n T M s)) ∧ ((seat A n T M s).1 = false → Fail A T T M (A s) N (seat A n T M s))) :
    ∀ (os T0 T : List Nat) (M : List (Nat × Nat)), (∀ x ∈ os, x ∈ A one) → TOk N T → N + 1 ≤ T.length + (n + 1) → (∀ t ∈ T0, t ∈ T) →
      (∀ t ∈ T, t ∉ T0 → ∃ s, look M t = some s ∧ ∀ x ∈ A s, x ∈ T) → InjOff T0 M → ¬ ValOff T0 M one →
      ((seatIn (seat A n) one os T M).1 = true → Win A T0 M one os N (seatIn (seat A n) one os T M)) ∧
      ((seatIn (seat A n) one os T M).1 = false → Fail A T0 T M os N (seatIn (seat A n) one os T M))
  | [], T0, T, M, _, tok, _, sub, dead, _, _ => by
    refine ⟨fun h => absurd h (by simp [seatIn]), fun _ => ⟨rfl, tok, fun _ h => h, fun x hx => absurd hx (by simp), dead⟩⟩
  | o :: rest, T0, T, M, hos, tok, room, sub, dead, inj, nv => by
    have hoA : o ∈ A one := hos o List.mem_cons_self
    have hoN : o < N := hone o hoA
    have hrest : ∀ x ∈ rest, x ∈ A one := fun x hx => hos x (List.mem_cons_of_mem _ hx)
    simp only [seatIn]
    by_cases hoT : o ∈ T
    · rw [if_pos hoT]
      obtain ⟨w, f⟩ := seatIn_ok hone ih rest T0 T M hrest tok room sub dead inj nv
      refine ⟨fun h => ?_, fun h => ?_⟩
      · have q := w h
        exact { q with out := fun D hD => ⟨fun z => (q.out D hD).1 fun x hx => z x (List.mem_cons_of_mem _ hx), (q.out D hD).2⟩ }
      · have q := f h
        refine { q with all := fun x hx => ?_ }
        rcases List.mem_cons.mp hx with e | hx
        · rw [e]; exact q.sub o hoT
        · exact q.all x hx
    · rw [if_neg hoT]
      have hoT0 : o ∉ T0 := fun q => hoT (sub o q)
      have tok1 := tok.snoc hoN hoT
      have sub1 : ∀ t ∈ T0, t ∈ T ++ [o] := fun t ht => List.mem_append_left _ (sub t ht)
      cases hl : look M o with
      | none =>
        refine ⟨fun _ => ?_, fun h => absurd h (by simp)⟩
        have lk : ∀ j, look (mput M o one) j = if j = o then some one else look M j := look_mput o one M
        refine ⟨tok1, sub1, fun t ht => ?_, fun k v h => ?_, nd_mput, fun k k' v hk hk' h h' => ?_, fun v => ⟨fun h => ?_, fun h => ?_⟩, fun D hD => ⟨fun z => ?_, fun t ht => ?_⟩⟩
        · show look (mput M o one) t = look M t
          rw [lk, if_neg (fun e : t = o => hoT0 (e ▸ ht))]
        · have h : look (mput M o one) k = some v := h
          rw [lk] at h
          by_cases e : k = o
          · rw [if_pos e] at h
            rw [← Option.some.inj h, e]; exact .inr hoA
          · rw [if_neg e] at h; exact .inl h
        · have h : look (mput M o one) k = some v := h
          have h' : look (mput M o one) k' = some v := h'
          rw [lk] at h h'
          by_cases e : k = o
          · by_cases e' : k' = o
            · rw [e, e']
            · rw [if_pos e] at h; rw [if_neg e'] at h'
              exact absurd ⟨k', hk', by rw [h', Option.some.inj h]⟩ nv
          · by_cases e' : k' = o
            · rw [if_neg e] at h; rw [if_pos e'] at h'
              exact absurd ⟨k, hk, by rw [h, Option.some.inj h']⟩ nv
            · rw [if_neg e] at h; rw [if_neg e'] at h'
              exact inj k k' v hk hk' h h'
        · obtain ⟨k, hk, h⟩ := h
          have h : look (mput M o one) k = some v := h
          rw [lk] at h
          by_cases e : k = o
          · rw [if_pos e] at h; exact .inr (Option.some.inj h).symm
          · rw [if_neg e] at h; exact .inl ⟨k, hk, h⟩
        · rcases h with ⟨k, hk, h⟩ | h
          · refine ⟨k, hk, ?_⟩
            show look (mput M o one) k = some v
            rw [lk, if_neg (fun e => by rw [e, hl] at h; exact absurd h (by simp))]
            exact h
          · refine ⟨o, hoT0, ?_⟩
            show look (mput M o one) o = some v
            rw [lk, if_pos rfl, h]
        · obtain ⟨s, hs, _⟩ := hD o (z o List.mem_cons_self)
          rw [hl] at hs; exact absurd hs (by simp)
        · show look (mput M o one) t = look M t
          rw [lk, if_neg (fun e => ?_)]
          obtain ⟨s, hs, _⟩ := hD t ht
          rw [e, hl] at hs; exact absurd hs (by simp)
      | some s =>
        simp only
        have inj1 : InjOff (T ++ [o]) M := inj_more inj sub1
        have nv1 : ¬ ValOff (T ++ [o]) M s := fun ⟨k, hk, h⟩ => by
          have := inj k o s (fun q => hk (sub1 k q)) hoT0 h hl
          exact hk (by rw [this]; exact List.mem_append_right _ (List.mem_singleton.mpr rfl))
        have room1 : N + 1 ≤ (T ++ [o]).length + n := by
          rw [List.length_append, List.length_singleton]; omega
        obtain ⟨w, f⟩ := ih (T ++ [o]) M s tok1 room1 inj1 nv1
        generalize seat A n (T ++ [o]) M s = r at w f
        obtain ⟨b, T2, M2⟩ := r
        simp only at w f ⊢
        cases b with
        | true =>
          rw [if_pos rfl]
          refine ⟨fun _ => ?_, fun h => absurd h (by simp)⟩
          have q := w rfl
          have qa : ∀ t ∈ T ++ [o], look M2 t = look M t := q.agree
          have qi : InjOff (T ++ [o]) M2 := q.inj
          have qv : ∀ v, ValOff (T ++ [o]) M2 v ↔ ValOff (T ++ [o]) M v ∨ v = s := q.val
          have lk : ∀ j, look (mput M2 o one) j = if j = o then some one else look M2 j := look_mput o one M2
          have inT1 : o ∈ T ++ [o] := List.mem_append_right _ (List.mem_singleton.mpr rfl)
          have off : ∀ k, k ∉ T ++ [o] → k ∉ T0 := fun k hk z => hk (sub1 k z)
          -- values of M2 are values of M off T0
          have old : ∀ k v, k ∉ T0 → look M2 k = some v → ∃ k', k' ∉ T0 ∧ look M k' = some v := fun k v hk h => by
            by_cases e : k ∈ T ++ [o]
            · exact ⟨k, hk, by rw [← qa k e]; exact h⟩
            · rcases (qv v).mp ⟨k, e, h⟩ with ⟨k', hk', h'⟩ | h'
              · exact ⟨k', off k' hk', h'⟩
              · exact ⟨o, hoT0, by rw [hl, h']⟩
          refine ⟨q.tok, fun t ht => q.sub t (sub1 t ht), fun t ht => ?_, fun k v h => ?_, fun h => nd_mput (q.nd h), fun k k' v hk hk' h h' => ?_, fun v => ⟨fun h => ?_, fun h => ?_⟩, fun D hD => ?_⟩
          · show look (mput M2 o one) t = look M t
            rw [lk, if_neg (fun e : t = o => hoT0 (e ▸ ht))]
            exact qa t (sub1 t ht)
          · have h : look (mput M2 o one) k = some v := h
            rw [lk] at h
            by_cases e : k = o
            · rw [if_pos e] at h
              rw [← Option.some.inj h, e]; exact .inr hoA
            · rw [if_neg e] at h; exact q.edge k v h
          · have h : look (mput M2 o one) k = some v := h
            have h' : look (mput M2 o one) k' = some v := h'
            rw [lk] at h h'
            by_cases e : k = o
            · by_cases e' : k' = o
              · rw [e, e']
              · rw [if_pos e] at h; rw [if_neg e'] at h'
                exact absurd (old k' one hk' (by rw [h', Option.some.inj h])) nv
            · by_cases e' : k' = o
              · rw [if_neg e] at h; rw [if_pos e'] at h'
                exact absurd (old k one hk (by rw [h, Option.some.inj h'])) nv
              · rw [if_neg e] at h; rw [if_neg e'] at h'
                have key : ∀ k k' : Nat, k ≠ o → k' ≠ o → k ∉ T0 → k' ∉ T0 → k ∈ T ++ [o] → k' ∉ T ++ [o] → look M2 k = some v → look M2 k' = some v → k = k' := fun k k' e e' hk hk' hi ho h h' => by
                  have h1 : look M k = some v := by rw [← qa k hi]; exact h
                  rcases (qv v).mp ⟨k', ho, h'⟩ with ⟨k2, hk2, h2⟩ | h2
                  · have := inj k k2 v hk (off k2 hk2) h1 h2
                    exact absurd (this ▸ hi) hk2
                  · exact absurd (inj k o v hk hoT0 h1 (by rw [hl, h2])) e
                by_cases c : k ∈ T ++ [o]
                · by_cases c' : k' ∈ T ++ [o]
                  · exact inj k k' v hk hk' (by rw [← qa k c]; exact h) (by rw [← qa k' c']; exact h')
                  · exact key k k' e e' hk hk' c c' h h'
                · by_cases c' : k' ∈ T ++ [o]
                  · exact (key k' k e' e hk' hk c' c h' h).symm
                  · exact qi k k' v c c' h h'
          · obtain ⟨k, hk, h⟩ := h
            have h : look (mput M2 o one) k = some v := h
            rw [lk] at h
            by_cases e : k = o
            · rw [if_pos e] at h; exact .inr (Option.some.inj h).symm
            · rw [if_neg e] at h
              exact .inl (old k v hk h)
          · rcases h with ⟨k, hk, h⟩ | h
            · by_cases e : k = o
              · have es : v = s := by rw [e, hl] at h; exact (Option.some.inj h).symm
                obtain ⟨k2, hk2, h2⟩ := (qv v).mpr (.inr es)
                refine ⟨k2, off k2 hk2, ?_⟩
                show look (mput M2 o one) k2 = some v
                rw [lk, if_neg (fun e : k2 = o => hk2 (e ▸ inT1))]
                exact h2
              · by_cases c : k ∈ T ++ [o]
                · refine ⟨k, hk, ?_⟩
                  show look (mput M2 o one) k = some v
                  rw [lk, if_neg e, qa k c]
                  exact h
                · obtain ⟨k2, hk2, h2⟩ := (qv v).mpr (.inl ⟨k, c, h⟩)
                  refine ⟨k2, off k2 hk2, ?_⟩
                  show look (mput M2 o one) k2 = some v
                  rw [lk, if_neg (fun e : k2 = o => hk2 (e ▸ inT1))]
                  exact h2
            · refine ⟨o, hoT0, ?_⟩
              show look (mput M2 o one) o = some v
              rw [lk, if_pos rfl, h]
          · obtain ⟨o1, o2⟩ := q.out D hD
            have hoD : ¬ D o := fun z => by
              obtain ⟨s', hs', hA⟩ := hD o z
              rw [hl] at hs'
              rw [← Option.some.inj hs'] at hA
              exact o1 hA
            refine ⟨fun z => hoD (z o List.mem_cons_self), fun t ht => ?_⟩
            show look (mput M2 o one) t = look M t
            rw [lk, if_neg (fun e : t = o => hoD (e ▸ ht))]
            exact o2 t ht
        | false =>
          rw [if_neg (by simp)]
          have q := f rfl
          have e2 : M2 = M := q.same
          subst e2
          have qt : TOk N T2 := q.tok
          have qs : ∀ t ∈ T ++ [o], t ∈ T2 := q.sub
          have hlen : (T ++ [o]).length ≤ T2.length := nd_len tok1.1 qs
          rw [List.length_append, List.length_singleton] at hlen
          have dead2 : ∀ t ∈ T2, t ∉ T0 → ∃ s, look M2 t = some s ∧ ∀ x ∈ A s, x ∈ T2 := fun t ht ht0 => by
            by_cases c : t ∈ T ++ [o]
            · rcases List.mem_append.mp c with c | c
              · obtain ⟨s', a, b⟩ := dead t c ht0
                exact ⟨s', a, fun x hx => qs x (List.mem_append_left _ (b x hx))⟩
              · rw [List.mem_singleton] at c
                exact ⟨s, by rw [c]; exact hl, fun x hx => q.all x hx⟩
            · exact q.dead t ht c
          obtain ⟨w', f'⟩ := seatIn_ok hone ih rest T0 T2 M2 hrest qt (by omega) (fun t ht => qs t (sub1 t ht)) dead2 inj nv
          refine ⟨fun h => ?_, fun h => ?_⟩
          · have q' := w' h
            exact { q' with out := fun D hD => ⟨fun z => (q'.out D hD).1 fun x hx => z x (List.mem_cons_of_mem _ hx), (q'.out D hD).2⟩ }
          · have q' := f' h
            refine { q' with sub := fun t ht => q'.sub t (qs t (List.mem_append_left _ ht)), all := fun x hx => ?_ }
            rcases List.mem_cons.mp hx with e | hx
            · rw [e]; exact q'.sub o (qs o (List.mem_append_right _ (List.mem_singleton.mpr rfl)))
            · exact q'.all x hx
theorem seat_ok (hA : ∀ i x, x ∈ A i → x < N) : ∀ (n : Nat) (T : List Nat) (M : List (Nat × Nat)) (one : Nat), TOk N T → N + 1 ≤ T.length + n → InjOff T M → ¬ ValOff T M one →
      ((seat A n T M one).1 = true → Win A T M one (A one) N (seat A n T M one)) ∧ ((seat A n T M one).1 = false → Fail A T T M (A one) N (seat A n T M one))
  | 0, T, M, one, tok, room, _, _ => by
    have := tok.len
    omega
  | n + 1, T, M, one, tok, room, inj, nv =>
    seatIn_ok (fun x hx => hA one x hx) (fun T M s a b c d => seat_ok hA n T M s a b c d) (A one) T T M (fun _ h => h) tok room (fun _ h => h) (fun t ht z => absurd ht z) inj nv
/-- paired, up to the loop's i-th turn -/
def pairs (A : Nat → List Nat) (F : Nat) : Nat → List (Nat × Nat)
  | 0 => []
  | i + 1 => (seat A F [] (pairs A F i) i).2.2
structure POk (A : Nat → List Nat) (i : Nat) (M : List (Nat × Nat)) (D : Nat → Prop) : Prop where
  nd : (M.map (·.1)).Nodup
  inj : ∀ k k' v, look M k = some v → look M k' = some v → k = k'
  lt : ∀ k v, look M k = some v → v < i
  edge : ∀ k v, look M k = some v → k ∈ A v
  dead : Dead A M D
  free : ∀ v, v < i → (∀ k, look M k ≠ some v) → ∀ x ∈ A v, D x
theorem pairs_ok (hA : ∀ i x, x ∈ A i → x < N) {F : Nat} (hF : N + 1 ≤ F) : ∀ i, ∃ D, POk A i (pairs A F i) D
  | 0 => ⟨fun _ => False, List.nodup_nil, fun k k' v h => by simp [pairs, look] at h, fun k v h => by simp [pairs, look] at h, fun k v h => by simp [pairs, look] at h, fun t h => h.elim, fun v h => absurd h (Nat.not_lt_zero _)⟩
  | i + 1 => by
    obtain ⟨D, q⟩ := pairs_ok hA hF i
    generalize hM : pairs A F i = M at q
    have nv : ¬ ValOff [] M i := fun ⟨k, _, h⟩ => absurd (q.lt k i h) (Nat.lt_irrefl _)
    obtain ⟨w, f⟩ := seat_ok hA F [] M i ⟨List.nodup_nil, fun t h => by simp at h⟩ (by simpa using hF) (fun k k' v _ _ => q.inj k k' v) nv
    show ∃ D, POk A (i + 1) (seat A F [] (pairs A F i) i).2.2 D
    rw [hM]
    cases hb : (seat A F [] M i).1 with
    | true =>
      have r := w hb
      obtain ⟨_, o2⟩ := r.out D q.dead
      refine ⟨D, r.nd q.nd, fun k k' v => r.inj k k' v (by simp) (by simp), fun k v h => ?_, fun k v h => ?_, fun t ht => ?_, fun v hv hn x hx => ?_⟩
      · rcases (r.val v).mp ⟨k, by simp, h⟩ with ⟨k', _, h'⟩ | h'
        · exact Nat.lt_succ_of_lt (q.lt k' v h')
        · rw [h']; exact Nat.lt_succ_self _
      · rcases r.edge k v h with h' | h'
        · exact q.edge k v h'
        · exact h'
      · obtain ⟨s, a, b⟩ := q.dead t ht
        exact ⟨s, by rw [o2 t ht]; exact a, b⟩
      · have hne : v ≠ i := fun e => by
          obtain ⟨k, _, h⟩ := (r.val v).mpr (.inr e)
          exact hn k h
        refine q.free v (by omega) (fun k h => ?_) x hx
        obtain ⟨k', _, h'⟩ := (r.val v).mpr (.inl ⟨k, by simp, h⟩)
        exact hn k' h'
    | false =>
      have r := f hb
      have e := r.same
      rw [e]
      refine ⟨fun t => D t ∨ t ∈ (seat A F [] M i).2.1, q.nd, q.inj, fun k v h => Nat.lt_succ_of_lt (q.lt k v h), q.edge, fun t ht => ?_, fun v hv hn x hx => ?_⟩
      · rcases ht with ht | ht
        · obtain ⟨s, a, b⟩ := q.dead t ht
          exact ⟨s, a, fun x hx => .inl (b x hx)⟩
        · obtain ⟨s, a, b⟩ := r.dead t ht (by simp)
          exact ⟨s, a, fun x hx => .inr (b x hx)⟩
      · by_cases c : v = i
        · rw [c] at hx
          exact .inr (r.all x hx)
        · exact .inl (q.free v (by omega) hn x hx)
end
end K44
/-! gone_over, chains, and the count: in plain Lean. -/
namespace K44
def goneIn (M : List (Nat × Nat)) : List Nat → List Nat → List Nat → List Nat × List Nat
  | [], lows, highs => (lows, highs)
  | o :: r, lows, highs => if o ∈ highs then goneIn M r lows highs else goneIn M r (lows ++ [(look M o).getD 0]) (highs ++ [o])
def gone (A : Nat → List Nat) (M : List (Nat × Nat)) : Nat → Nat → List Nat → List Nat → List Nat × List Nat
  | 0, _, lows, highs => (lows, highs)
  | f + 1, at', lows, highs =>
    if at' < lows.length then gone A M f (at' + 1) (goneIn M (A (lows.getD at' 0)) lows highs).1 (goneIn M (A (lows.getD at' 0)) lows highs).2
    else (lows, highs)
structure GIn (A : Nat → List Nat) (M : List (Nat × Nat)) (D : Nat → Prop) (N : Nat) (L0 lows highs : List Nat) : Prop where
  base : ∀ l ∈ L0, l ∈ lows
  lowsD : ∀ l ∈ lows, ∀ x ∈ A l, D x
  high : ∀ h ∈ highs, (∃ l ∈ lows, h ∈ A l) ∧ ∃ s ∈ lows, look M h = some s
  hnd : highs.Nodup
  hN : ∀ h ∈ highs, h < N
  lowN : ∀ l ∈ lows, l < N
  len : lows.length = L0.length + highs.length
section
variable {A : Nat → List Nat} {M : List (Nat × Nat)} {D : Nat → Prop} {N : Nat} {L0 : List Nat}
theorem GIn.step {lows highs : List Nat} (g : GIn A M D N L0 lows highs) (hA : ∀ i x, x ∈ A i → x < N) (dead : Dead A M D) (hv : ∀ k v, look M k = some v → v < N) {o l : Nat} (hl : l ∈ lows) (ho : o ∈ A l) (hn : o ∉ highs) :
    GIn A M D N L0 (lows ++ [(look M o).getD 0]) (highs ++ [o]) := by
  obtain ⟨s, hs, hD⟩ := dead o (g.lowsD l hl o ho)
  rw [hs, Option.getD_some]
  refine ⟨fun x hx => List.mem_append_left _ (g.base x hx), fun x hx => ?_, fun h hh => ?_, ?_, fun h hh => ?_, fun x hx => ?_, ?_⟩
  · rcases List.mem_append.mp hx with hx | hx
    · exact g.lowsD x hx
    · rw [List.mem_singleton] at hx; rw [hx]; exact hD
  · rcases List.mem_append.mp hh with hh | hh
    · obtain ⟨⟨a, b, c⟩, d, e, f⟩ := g.high h hh
      exact ⟨⟨a, List.mem_append_left _ b, c⟩, d, List.mem_append_left _ e, f⟩
    · rw [List.mem_singleton] at hh
      rw [hh]
      exact ⟨⟨l, List.mem_append_left _ hl, ho⟩, s, List.mem_append_right _ (List.mem_singleton.mpr rfl), hs⟩
  · rw [List.nodup_append]
    exact ⟨g.hnd, by simp, fun a ha b hb q => hn (by rw [List.mem_singleton] at hb; rw [← hb, ← q]; exact ha)⟩
  · rcases List.mem_append.mp hh with hh | hh
    · exact g.hN h hh
    · rw [List.mem_singleton] at hh; rw [hh]; exact hA l o ho
  · rcases List.mem_append.mp hx with hx | hx
    · exact g.lowN x hx
    · rw [List.mem_singleton] at hx; rw [hx]; exact hv o s hs
  · rw [List.length_append, List.length_append, g.len]; simp; omega
theorem GIn.hlen {lows highs : List Nat} (g : GIn A M D N L0 lows highs) : highs.length ≤ N := by
  have := nd_len (l' := List.range N) g.hnd fun t ht => List.mem_range.mpr (g.hN t ht)
  rwa [List.length_range] at this
theorem goneIn_ok (hA : ∀ i x, x ∈ A i → x < N) (dead : Dead A M D) (hv : ∀ k v, look M k = some v → v < N) {l : Nat} : ∀ (os lows highs : List Nat), GIn A M D N L0 lows highs → l ∈ lows → (∀ o ∈ os, o ∈ A l) →
    GIn A M D N L0 (goneIn M os lows highs).1 (goneIn M os lows highs).2 ∧ (∃ t, (goneIn M os lows highs).1 = lows ++ t) ∧ (∀ h ∈ highs, h ∈ (goneIn M os lows highs).2) ∧ ∀ o ∈ os, o ∈ (goneIn M os lows highs).2
  | [], lows, highs, g, _, _ => ⟨g, ⟨[], by simp [goneIn]⟩, fun h hh => hh, fun o ho => by simp at ho⟩
  | o :: r, lows, highs, g, hl, hos => by
    have hr : ∀ o ∈ r, o ∈ A l := fun x hx => hos x (List.mem_cons_of_mem _ hx)
    simp only [goneIn]
    by_cases c : o ∈ highs
    · rw [if_pos c]
      obtain ⟨a, b, d, e⟩ := goneIn_ok hA dead hv r lows highs g hl hr
      refine ⟨a, b, d, fun x hx => ?_⟩
      rcases List.mem_cons.mp hx with q | hx
      · rw [q]; exact d o c
      · exact e x hx
    · rw [if_neg c]
      obtain ⟨a, ⟨t, b⟩, d, e⟩ := goneIn_ok hA dead hv r _ _ (g.step hA dead hv hl (hos o List.mem_cons_self) c) (List.mem_append_left _ hl) hr
      refine ⟨a, ⟨[(look M o).getD 0] ++ t, by rw [b, List.append_assoc]⟩, fun h hh => d h (List.mem_append_left _ hh), fun x hx => ?_⟩
      rcases List.mem_cons.mp hx with q | hx
      · rw [q]; exact d o (List.mem_append_right _ (List.mem_singleton.mpr rfl))
      · exact e x hx
theorem getD_mem {l : List Nat} {i : Nat} (h : i < l.length) : l.getD i 0 ∈ l := by
  rw [List.getD_eq_getElem?_getD, List.getElem?_eq_getElem h]
  exact List.getElem_mem h
theorem gone_ok (hA : ∀ i x, x ∈ A i → x < N) (dead : Dead A M D) (hv : ∀ k v, look M k = some v → v < N) : ∀ (f at' : Nat) (lows highs : List Nat), GIn A M D N L0 lows highs → at' + f > L0.length + N → (∀ j, j < at' → j < lows.length → ∀ x ∈ A (lows.getD j 0), x ∈ highs) →
    GIn A M D N L0 (gone A M f at' lows highs).1 (gone A M f at' lows highs).2 ∧ ∀ l ∈ (gone A M f at' lows highs).1, ∀ x ∈ A l, x ∈ (gone A M f at' lows highs).2
  | 0, at', lows, highs, g, room, done => by
    refine ⟨g, fun l hl x hx => ?_⟩
    have hl : l ∈ lows := hl
    obtain ⟨j, hj, e⟩ := List.mem_iff_getElem.mp hl
    have h1 := g.hlen
    have h2 := g.len
    refine done j (by omega) hj x ?_
    rw [List.getD_eq_getElem?_getD, List.getElem?_eq_getElem hj, Option.getD_some, e]
    exact hx
  | f + 1, at', lows, highs, g, room, done => by
    simp only [gone]
    by_cases c : at' < lows.length
    · rw [if_pos c]
      obtain ⟨a, ⟨t, b⟩, d, e⟩ := goneIn_ok hA dead hv (A (lows.getD at' 0)) lows highs g (getD_mem c) fun _ h => h
      refine gone_ok hA dead hv f (at' + 1) _ _ a (by omega) fun j hj hjl x hx => ?_
      by_cases c2 : j < lows.length
      · have ej : (goneIn M (A (lows.getD at' 0)) lows highs).1.getD j 0 = lows.getD j 0 := by
          rw [b, List.getD_eq_getElem?_getD, List.getElem?_append_left c2, ← List.getD_eq_getElem?_getD]
        rw [ej] at hx
        by_cases c3 : j = at'
        · rw [c3] at hx; exact e x hx
        · exact d x (done j (by omega) c2 x hx)
      · omega
    · rw [if_neg c]
      refine ⟨g, fun l hl x hx => ?_⟩
      have hl : l ∈ lows := hl
      obtain ⟨j, hj, e⟩ := List.mem_iff_getElem.mp hl
      refine done j (by omega) hj x ?_
      rw [List.getD_eq_getElem?_getD, List.getElem?_eq_getElem hj, Option.getD_some, e]
      exact hx
end
/-! ### chains -/
def aft : List (Nat × Nat) → List (Nat × Nat) → List (Nat × Nat)
  | acc, [] => acc
  | acc, (k, v) :: r => aft (mput acc v k) r
theorem aft_no : ∀ (m acc : List (Nat × Nat)) (v : Nat), (∀ k, (k, v) ∉ m) → look (aft acc m) v = look acc v
  | [], acc, v, _ => rfl
  | (k, u) :: r, acc, v, h => by
    simp only [aft]
    rw [aft_no r _ v (fun k' q => h k' (List.mem_cons_of_mem _ q)), look_mput, if_neg]
    intro e
    exact h k (by rw [e]; exact List.mem_cons_self)
theorem aft_yes : ∀ (m acc : List (Nat × Nat)) (k v : Nat), (m.map (·.2)).Nodup → (k, v) ∈ m → look (aft acc m) v = some k
  | [], acc, k, v, _, h => by simp at h
  | (k', u) :: r, acc, k, v, nd, h => by
    simp only [List.map_cons, List.nodup_cons] at nd
    simp only [aft]
    rcases List.mem_cons.mp h with e | h
    · have e1 : k = k' := congrArg Prod.fst e
      have e2 : v = u := congrArg Prod.snd e
      rw [aft_no r _ v (fun k2 q => nd.1 (by rw [← e2]; exact List.mem_map.mpr ⟨(k2, v), q, rfl⟩)), look_mput, if_pos e2, e1]
    · exact aft_yes r _ k v nd.2 h
theorem vals_nd {m : List (Nat × Nat)} (nd : (m.map (·.1)).Nodup) (inj : ∀ k k' v, look m k = some v → look m k' = some v → k = k') : (m.map (·.2)).Nodup := by
  have h := List.pairwise_map.mp nd
  refine List.pairwise_map.mpr (List.Pairwise.imp_of_mem (fun {a b} ha hb q e => ?_) h)
  refine q (inj a.1 b.1 a.2 (mem_look nd ha) ?_)
  rw [e]; exact mem_look nd hb
theorem look_aft {m : List (Nat × Nat)} (nd : (m.map (·.1)).Nodup) (inj : ∀ k k' v, look m k = some v → look m k' = some v → k = k') (v k : Nat) : look (aft [] m) v = some k ↔ look m k = some v := by
  constructor
  · intro h
    by_cases c : ∃ k', (k', v) ∈ m
    · obtain ⟨k', hk'⟩ := c
      have := aft_yes m [] k' v (vals_nd nd inj) hk'
      rw [h] at this
      rw [Option.some.inj this]
      exact mem_look nd hk'
    · rw [aft_no m [] v (fun k' q => c ⟨k', q⟩)] at h
      simp [look] at h
  · intro h
    exact aft_yes m [] k v (vals_nd nd inj) (look_mem h)
def chainF (a : Nat → Option Nat) : Nat → Nat → List Nat
  | 0, x => [x]
  | f + 1, x => match a x with
    | none => [x]
    | some y => x :: chainF a f y
def chainsF (N : Nat) (M : List (Nat × Nat)) : List (List Nat) := ((List.range N).filter fun v => (look M v).isNone).map (chainF (look (aft [] M)) 12)
/-- a chain: rising, of numbers below N -/
def COk (A : Nat → List Nat) (N : Nat) (c : List Nat) : Prop := c.Pairwise (fun x y => y ∈ A x) ∧ ∀ x ∈ c, x < N
section
variable {A : Nat → List Nat} {N : Nat} {rk : Nat → Nat}
theorem COk.len (hrk : ∀ x y, y ∈ A x → rk x < rk y) {c : List Nat} (h : COk A N c) : c.length ≤ N := by
  have nd : c.Nodup := h.1.imp fun q e => absurd (hrk _ _ q) (by rw [e]; exact Nat.lt_irrefl _)
  have := nd_len (l' := List.range N) nd fun t ht => List.mem_range.mpr (h.2 t ht)
  rwa [List.length_range] at this
theorem COk.snoc (tr : ∀ x y z, y ∈ A x → z ∈ A y → z ∈ A x) {p : List Nat} {x y : Nat} (h : COk A N (p ++ [x])) (hy : y ∈ A x) (hN : y < N) : COk A N (p ++ [x] ++ [y]) := by
  refine ⟨?_, fun z hz => ?_⟩
  · rw [List.pairwise_append]
    refine ⟨h.1, List.pairwise_singleton _ _, fun a ha b hb => ?_⟩
    rw [List.mem_singleton] at hb
    rw [hb]
    rcases List.mem_append.mp ha with ha | ha
    · have := (List.pairwise_append.mp h.1).2.2 a ha x (List.mem_singleton.mpr rfl)
      exact tr a x y this hy
    · rw [List.mem_singleton] at ha; rw [ha]; exact hy
  · rcases List.mem_append.mp hz with hz | hz
    · exact h.2 z hz
    · rw [List.mem_singleton] at hz; rw [hz]; exact hN
theorem chainF_ok (hrk : ∀ x y, y ∈ A x → rk x < rk y) (tr : ∀ x y z, y ∈ A x → z ∈ A y → z ∈ A x) (hA : ∀ i x, x ∈ A i → x < N) {a : Nat → Option Nat} (ha : ∀ x y, a x = some y → y ∈ A x) :
    ∀ (f x : Nat) (p : List Nat), COk A N (p ++ [x]) → N + 1 ≤ (p ++ [x]).length + f →
      COk A N (p ++ chainF a f x) ∧ x ∈ chainF a f x ∧ ∀ u ∈ chainF a f x, ∀ v, a u = some v → v ∈ chainF a f x
  | 0, x, p, h, room => by
    have := h.len hrk
    omega
  | f + 1, x, p, h, room => by
    simp only [chainF]
    cases e : a x with
    | none =>
      refine ⟨h, List.mem_singleton.mpr rfl, fun u hu v hv => ?_⟩
      rw [List.mem_singleton] at hu
      rw [hu, e] at hv
      exact absurd hv (by simp)
    | some y =>
      have hy := ha x y e
      have h2 := h.snoc tr hy (hA x y hy)
      obtain ⟨q1, q2, q3⟩ := chainF_ok hrk tr hA ha f y (p ++ [x]) h2 (by rw [List.length_append, List.length_singleton]; omega)
      rw [List.append_assoc] at q1
      refine ⟨q1, List.mem_cons_self, fun u hu v hv => ?_⟩
      rcases List.mem_cons.mp hu with c | hu
      · rw [c, e] at hv
        rw [← Option.some.inj hv]
        exact List.mem_cons_of_mem _ q2
      · exact List.mem_cons_of_mem _ (q3 u hu v hv)
theorem one_ok {x : Nat} (h : x < N) : COk A N ([] ++ [x]) := ⟨List.pairwise_singleton _ _, fun z hz => by rw [List.nil_append, List.mem_singleton] at hz; rw [hz]; exact h⟩
/-- each number stands in a chain -/
theorem chains_cover (hrk : ∀ x y, y ∈ A x → rk x < rk y) (tr : ∀ x y z, y ∈ A x → z ∈ A y → z ∈ A x) (hA : ∀ i x, x ∈ A i → x < N) (hN : N ≤ 12) {M : List (Nat × Nat)} {D : Nat → Prop} (q : POk A N M D) :
    ∀ (n v : Nat), rk v < n → v < N → ∃ c ∈ chainsF N M, v ∈ c
  | 0, v, h, _ => absurd h (Nat.not_lt_zero _)
  | n + 1, v, h, hv => by
    have ha : ∀ x y, look (aft [] M) x = some y → y ∈ A x := fun x y e => q.edge y x ((look_aft q.nd q.inj x y).mp e)
    cases e : look M v with
    | none =>
      refine ⟨chainF (look (aft [] M)) 12 v, List.mem_map.mpr ⟨v, List.mem_filter.mpr ⟨List.mem_range.mpr hv, by rw [e] <;> rfl⟩, rfl⟩, ?_⟩
      exact (chainF_ok hrk tr hA ha 12 v [] (one_ok hv) (by simp; omega)).2.1
    | some u =>
      have hu : v ∈ A u := q.edge v u e
      obtain ⟨c, hc, huc⟩ := chains_cover hrk tr hA hN q n u (by have := hrk u v hu; omega) (q.lt v u e)
      refine ⟨c, hc, ?_⟩
      obtain ⟨x, hx, rfl⟩ := List.mem_map.mp hc
      have hxN : x < N := List.mem_range.mp (List.mem_filter.mp hx).1
      exact (chainF_ok hrk tr hA ha 12 x [] (one_ok hxN) (by simp; omega)).2.2 u huc v ((look_aft q.nd q.inj u v).mpr e)
theorem chains_ok (hrk : ∀ x y, y ∈ A x → rk x < rk y) (tr : ∀ x y z, y ∈ A x → z ∈ A y → z ∈ A x) (hA : ∀ i x, x ∈ A i → x < N) (hN : N ≤ 12) {M : List (Nat × Nat)} {D : Nat → Prop} (q : POk A N M D) :
    ∀ c ∈ chainsF N M, COk A N c := fun c hc => by
  have ha : ∀ x y, look (aft [] M) x = some y → y ∈ A x := fun x y e => q.edge y x ((look_aft q.nd q.inj x y).mp e)
  obtain ⟨x, hx, rfl⟩ := List.mem_map.mp hc
  have hxN : x < N := List.mem_range.mp (List.mem_filter.mp hx).1
  exact (chainF_ok hrk tr hA ha 12 x [] (one_ok hxN) (by simp; omega)).1
end
/-! ### the count -/
theorem inj_len {α β : Type} [DecidableEq β] (f : α → β) : ∀ {l : List α} {l' : List β}, l.Nodup → (∀ x ∈ l, f x ∈ l') → (∀ x ∈ l, ∀ y ∈ l, f x = f y → x = y) → l.length ≤ l'.length := fun {l l'} nd h inj => by
  have : (l.map f).Nodup := List.pairwise_map.mpr (List.Pairwise.imp_of_mem (fun {a b} ha hb q e => q (inj a ha b hb e)) nd)
  have := nd_len (l' := l') this fun x hx => by
    obtain ⟨y, hy, rfl⟩ := List.mem_map.mp hx
    exact h y hy
  rwa [List.length_map] at this
theorem split_len {α : Type} (p : α → Bool) : ∀ l : List α, (l.filter p).length + (l.filter fun x => !p x).length = l.length
  | [] => rfl
  | x :: l => by
    have ih := split_len p l
    simp only [List.filter_cons]
    cases h : p x <;> simp <;> omega
/-- as many lines as loops that are apart -/
theorem count_ok {A : Nat → List Nat} {N : Nat} {M : List (Nat × Nat)} {lows highs : List Nat} (tr : ∀ x y z, y ∈ A x → z ∈ A y → z ∈ A x)
    (inj : ∀ k k' v, look M k = some v → look M k' = some v → k = k') (edge : ∀ k v, look M k = some v → k ∈ A v) (hA : ∀ i x, x ∈ A i → x < N) (hv : ∀ k v, look M k = some v → v < N)
    (base : ∀ v, v < N → (∀ k, look M k ≠ some v) → v ∈ lows) (clo : ∀ l ∈ lows, ∀ x ∈ A l, x ∈ highs) (high : ∀ h ∈ highs, (∃ l ∈ lows, h ∈ A l) ∧ ∃ s ∈ lows, look M h = some s) :
    ((List.range N).filter fun v => decide (v ∈ lows) && !decide (v ∈ highs)).length = ((List.range N).filter fun v => (look M v).isNone).length := by
  have e1 := split_len (fun v => decide (v ∈ lows) && !decide (v ∈ highs)) (List.range N)
  have e2 := split_len (fun v => (look M v).isNone) (List.range N)
  -- a number above that is not low is no high one
  have disj : ∀ v, v ∉ lows → v ∉ highs := fun v h1 h2 => by
    obtain ⟨⟨l, hl, hvl⟩, s, _, _⟩ := high v h2
    have hvN : v < N := hA l v hvl
    by_cases c : ∃ k, look M k = some v
    · obtain ⟨k, hk⟩ := c
      have hk1 : k ∈ A l := tr l v k hvl (edge k v hk)
      obtain ⟨_, s', hs', e⟩ := high k (clo l hl k hk1)
      rw [hk] at e
      exact h1 (Option.some.inj e ▸ hs')
    · exact h1 (base v hvN fun k hk => c ⟨k, hk⟩)
  have key : ((List.range N).filter fun v => !(look M v).isNone).length = ((List.range N).filter fun v => !(decide (v ∈ lows) && !decide (v ∈ highs))).length := by
    refine Nat.le_antisymm ?_ ?_
    · refine inj_len (fun w => if w ∈ highs then w else (look M w).getD 0) (List.Pairwise.filter _ List.nodup_range) (fun w hw => ?_) (fun w hw w' hw' e => ?_)
      · obtain ⟨hw1, hw2⟩ := List.mem_filter.mp hw
        by_cases c : w ∈ highs
        · simp only [if_pos c]
          exact List.mem_filter.mpr ⟨hw1, by simp [c]⟩
        · simp only [if_neg c]
          cases e : look M w with
          | none => rw [e] at hw2; exact absurd hw2 (by simp)
          | some v =>
            simp only [Option.getD_some]
            have hnl : v ∉ lows := fun z => c (clo v z w (edge w v e))
            exact List.mem_filter.mpr ⟨List.mem_range.mpr (hv w v e), by simp [hnl]⟩
      · obtain ⟨hw1, hw2⟩ := List.mem_filter.mp hw
        obtain ⟨hw1', hw2'⟩ := List.mem_filter.mp hw'
        have val : ∀ w, w ∉ highs → (!(look M w).isNone) = true → ∃ v, look M w = some v ∧ v ∉ highs := fun w c hw2 => by
          cases e : look M w with
          | none => rw [e] at hw2; exact absurd hw2 (by simp)
          | some v => exact ⟨v, rfl, disj v fun z => c (clo v z w (edge w v e))⟩
        by_cases c : w ∈ highs
        · by_cases c' : w' ∈ highs
          · simp only [if_pos c, if_pos c'] at e; exact e
          · simp only [if_pos c, if_neg c'] at e
            obtain ⟨v, h1, h2⟩ := val w' c' hw2'
            rw [h1, Option.getD_some] at e
            exact absurd (e ▸ c) h2
        · by_cases c' : w' ∈ highs
          · simp only [if_neg c, if_pos c'] at e
            obtain ⟨v, h1, h2⟩ := val w c hw2
            rw [h1, Option.getD_some] at e
            exact absurd (e ▸ c') h2
          · simp only [if_neg c, if_neg c'] at e
            obtain ⟨v, h1, h2⟩ := val w c hw2
            obtain ⟨v', h1', h2'⟩ := val w' c' hw2'
            rw [h1, h1', Option.getD_some, Option.getD_some] at e
            exact inj w w' v h1 (by rw [e]; exact h1')
    · -- back: the one that has v below it
      have inv : ∀ v, v < N → v ∉ lows → ∃ w, look M w = some v := fun v hvN h => by
        by_cases c : ∃ k, look M k = some v
        · exact c
        · exact absurd (base v hvN fun k hk => c ⟨k, hk⟩) h
      have pick : ∃ g : Nat → Nat, ∀ v, v < N → v ∉ lows → look M (g v) = some v := by
        refine ⟨fun v => (((List.range N).find? fun w => decide (look M w = some v))).getD 0, fun v hvN h => ?_⟩
        obtain ⟨w, hw⟩ := inv v hvN h
        cases e : (List.range N).find? (fun w => decide (look M w = some v)) with
        | none =>
          rw [List.find?_eq_none] at e
          have := e w (List.mem_range.mpr (hA v w (edge w v hw)))
          exact absurd (decide_eq_true hw) this
        | some u =>
          have t := List.find?_some e
          show look M (((List.range N).find? fun w => decide (look M w = some v)).getD 0) = some v
          rw [e, Option.getD_some]
          exact of_decide_eq_true t
      obtain ⟨g, hg⟩ := pick
      refine inj_len (fun v => if v ∈ highs then v else g v) (List.Pairwise.filter _ List.nodup_range) (fun v hv' => ?_) (fun v hv' v' hv'' e => ?_)
      · obtain ⟨h1, h2⟩ := List.mem_filter.mp hv'
        by_cases c : v ∈ highs
        · simp only [if_pos c]
          obtain ⟨_, s, _, hs⟩ := high v c
          exact List.mem_filter.mpr ⟨h1, by rw [hs] <;> rfl⟩
        · simp only [if_neg c]
          have hnl : v ∉ lows := by simpa [c] using h2
          have hgv := hg v (List.mem_range.mp h1) hnl
          exact List.mem_filter.mpr ⟨List.mem_range.mpr (hA v _ (edge _ _ hgv)), by rw [hgv] <;> rfl⟩
      · obtain ⟨h1, h2⟩ := List.mem_filter.mp hv'
        obtain ⟨h1', h2'⟩ := List.mem_filter.mp hv''
        have low : ∀ v, v ∉ highs → (!(decide (v ∈ lows) && !decide (v ∈ highs))) = true → v ∉ lows := fun v c h2 => by simpa [c] using h2
        have mix : ∀ v v' : Nat, v ∈ highs → v' ∉ highs → v' < N → v' ∉ lows → v = g v' → False := fun v v' c c' hN hl e => by
          obtain ⟨_, s, hs, e1⟩ := high v c
          rw [e, hg v' hN hl] at e1
          exact hl (Option.some.inj e1 ▸ hs)
        by_cases c : v ∈ highs
        · by_cases c' : v' ∈ highs
          · simp only [if_pos c, if_pos c'] at e; exact e
          · simp only [if_pos c, if_neg c'] at e
            exact (mix v v' c c' (List.mem_range.mp h1') (low v' c' h2') e).elim
        · by_cases c' : v' ∈ highs
          · simp only [if_neg c, if_pos c'] at e
            exact (mix v' v c' c (List.mem_range.mp h1) (low v c h2) e.symm).elim
          · simp only [if_neg c, if_neg c'] at e
            have a1 := hg v (List.mem_range.mp h1) (low v c h2)
            have a2 := hg v' (List.mem_range.mp h1') (low v' c' h2')
            rw [e, a2] at a1
            exact (Option.some.inj a1).symm
  omega
end K44
/-! Lines and the whole of lines_of: in plain Lean. -/
namespace K44
section
variable {α : Type} [DecidableEq α]
def lineStep (row : List α) (C : Nat → List α) (line : List α) (v : Nat) : List α := line ++ row.filter fun x => !decide (x ∈ C v) && !decide (x ∈ line)
def lineGo (row : List α) (C : Nat → List α) (chain : List Nat) : List α := chain.reverse.foldl (lineStep row C) []
def lineBy (row : List α) (C : Nat → List α) (chain : List Nat) : List α := lineGo row C chain ++ row.filter fun x => !decide (x ∈ lineGo row C chain)
theorem nd_filter {p : α → Bool} {l : List α} (h : l.Nodup) : (l.filter p).Nodup := List.Pairwise.filter p h
theorem step_nd {row : List α} {C : Nat → List α} (hr : row.Nodup) {line : List α} (h : line.Nodup) (v : Nat) : (lineStep row C line v).Nodup := by
  unfold lineStep
  rw [List.nodup_append]
  refine ⟨h, nd_filter hr, fun a ha b hb e => ?_⟩
  have := (List.mem_filter.mp hb).2
  rw [← e] at this
  simp [ha] at this
theorem fold_nd {row : List α} {C : Nat → List α} (hr : row.Nodup) : ∀ (vs : List Nat) (line : List α), line.Nodup → (vs.foldl (lineStep row C) line).Nodup
  | [], _, h => h
  | v :: r, line, h => fold_nd hr r _ (step_nd hr h v)
theorem fold_pre {row : List α} {C : Nat → List α} : ∀ (vs : List Nat) (line : List α), ∃ t, vs.foldl (lineStep row C) line = line ++ t
  | [], line => ⟨[], by simp⟩
  | v :: r, line => by
    obtain ⟨t, e⟩ := fold_pre (row := row) (C := C) r (lineStep row C line v)
    refine ⟨(row.filter fun x => !decide (x ∈ C v) && !decide (x ∈ line)) ++ t, ?_⟩
    rw [List.foldl_cons, e, lineStep, List.append_assoc]
theorem fold_sub {row : List α} {C : Nat → List α} : ∀ (vs : List Nat) (line : List α), (∀ x ∈ line, x ∈ row) → ∀ x ∈ vs.foldl (lineStep row C) line, x ∈ row
  | [], _, h => h
  | v :: r, line, h => fold_sub r _ fun x hx => by
    rcases List.mem_append.mp hx with hx | hx
    · exact h x hx
    · exact (List.mem_filter.mp hx).1
/-- behind v, where all ahead have at least what v has, the line holds what v has not -/
theorem fold_mem {row : List α} {C : Nat → List α} : ∀ (vs : List Nat) (line : List α) (v : Nat), (∀ u ∈ vs, ∀ x ∈ C v, x ∈ C u) → (∀ x ∈ line, x ∈ row ∧ x ∉ C v) → ∀ x ∈ vs.foldl (lineStep row C) line, x ∈ row ∧ x ∉ C v
  | [], _, _, _, h => h
  | u :: r, line, v, hu, h => fold_mem r _ v (fun u' h' => hu u' (List.mem_cons_of_mem _ h')) fun x hx => by
    rcases List.mem_append.mp hx with hx | hx
    · exact h x hx
    · obtain ⟨a, b⟩ := List.mem_filter.mp hx
      refine ⟨a, fun z => ?_⟩
      simp [hu u List.mem_cons_self x z] at b
theorem lineGo_nd {row : List α} {C : Nat → List α} (hr : row.Nodup) (chain : List Nat) : (lineGo row C chain).Nodup := fold_nd hr _ _ List.nodup_nil
theorem lineGo_sub {row : List α} {C : Nat → List α} (chain : List Nat) : ∀ x ∈ lineGo row C chain, x ∈ row := fold_sub _ _ fun x hx => by simp at hx
theorem lineBy_nd {row : List α} {C : Nat → List α} (hr : row.Nodup) (chain : List Nat) : (lineBy row C chain).Nodup := by
  unfold lineBy
  rw [List.nodup_append]
  refine ⟨lineGo_nd hr chain, nd_filter hr, fun a ha b hb e => ?_⟩
  have := (List.mem_filter.mp hb).2
  rw [← e] at this
  simp [ha] at this
theorem lineBy_mem {row : List α} {C : Nat → List α} (chain : List Nat) (x : α) : x ∈ lineBy row C chain ↔ x ∈ row := by
  unfold lineBy
  rw [List.mem_append]
  constructor
  · rintro (h | h)
    · exact lineGo_sub chain x h
    · exact (List.mem_filter.mp h).1
  · intro h
    by_cases c : x ∈ lineGo row C chain
    · exact .inl c
    · exact .inr (List.mem_filter.mpr ⟨h, by simp [c]⟩)
theorem lineBy_perm {row : List α} {C : Nat → List α} (hr : row.Nodup) (chain : List Nat) : (lineBy row C chain).Perm row :=
  (List.perm_ext_iff_of_nodup (lineBy_nd hr chain) hr).mpr (lineBy_mem chain)
theorem lineBy_len {row : List α} {C : Nat → List α} (hr : row.Nodup) (chain : List Nat) : (lineBy row C chain).length = row.length := (lineBy_perm hr chain).length_eq
/-- behind its gap each of the chain has just what it has to come -/
theorem line_drop {row : List α} {C : Nat → List α} (hr : row.Nodup) {chain : List Nat} {v : Nat} (hv : v ∈ chain) (hc : chain.Pairwise fun a b => ∀ x ∈ C a, x ∈ C b) (hn : (C v).Nodup) (hs : ∀ x ∈ C v, x ∈ row) :
    ((lineBy row C chain).drop (row.length - (C v).length)).Perm (C v) := by
  obtain ⟨a, b, e⟩ := List.append_of_mem hv
  have hb : ∀ u ∈ b, ∀ x ∈ C v, x ∈ C u := fun u hu x hx => by
    rw [e] at hc
    have := (List.pairwise_append.mp hc).2.1
    exact (List.pairwise_cons.mp this).1 u hu x hx
  let L0 := b.reverse.foldl (lineStep row C) []
  let L := lineStep row C L0 v
  have hL0 : ∀ x ∈ L0, x ∈ row ∧ x ∉ C v := fold_mem b.reverse [] v (fun u hu => hb u (List.mem_reverse.mp hu)) fun x hx => by simp at hx
  have hLn : L.Nodup := step_nd hr (fold_nd hr _ _ List.nodup_nil) v
  have hLm : ∀ x, x ∈ L ↔ x ∈ row ∧ x ∉ C v := fun x => by
    constructor
    · intro h
      rcases List.mem_append.mp h with h | h
      · exact hL0 x h
      · obtain ⟨p, q⟩ := List.mem_filter.mp h
        refine ⟨p, fun z => ?_⟩
        simp [z] at q
    · intro ⟨h1, h2⟩
      by_cases c : x ∈ L0
      · exact List.mem_append_left _ c
      · exact List.mem_append_right _ (List.mem_filter.mpr ⟨h1, by simp [h2, c]⟩)
  have hgo : ∃ t, lineGo row C chain = L ++ t := by
    obtain ⟨t, q⟩ := fold_pre (row := row) (C := C) a.reverse L
    refine ⟨t, ?_⟩
    rw [← q]
    show chain.reverse.foldl (lineStep row C) [] = a.reverse.foldl (lineStep row C) L
    rw [e, List.reverse_append, List.reverse_cons, List.foldl_append, List.foldl_append]
    rfl
  obtain ⟨t, ht⟩ := hgo
  have hby : ∃ r, lineBy row C chain = L ++ r := ⟨t ++ row.filter fun x => !decide (x ∈ lineGo row C chain), by unfold lineBy; rw [ht, List.append_assoc]⟩
  obtain ⟨r, hr'⟩ := hby
  have nd := lineBy_nd (C := C) hr chain
  rw [hr', List.nodup_append] at nd
  have hrm : ∀ x, x ∈ r ↔ x ∈ C v := fun x => by
    have hm := lineBy_mem (row := row) (C := C) chain x
    rw [hr', List.mem_append] at hm
    constructor
    · intro h
      have hx : x ∈ row := hm.mp (.inr h)
      by_cases c : x ∈ C v
      · exact c
      · exact absurd rfl (nd.2.2 x ((hLm x).mpr ⟨hx, c⟩) x h)
    · intro h
      rcases hm.mpr (hs x h) with q | q
      · exact absurd h ((hLm x).mp q).2
      · exact q
  have perm : r.Perm (C v) := (List.perm_ext_iff_of_nodup nd.2.1 hn).mpr hrm
  have len := lineBy_len (C := C) hr chain
  rw [hr', List.length_append, perm.length_eq] at len
  have el : row.length - (C v).length = L.length := by omega
  rw [hr', el, List.drop_left]
  exact perm
/-! ### the order of loops -/
def within (C : Nat → List α) (i j : Nat) : Bool := (C i).all fun x => decide (x ∈ C j)
def under (C : Nat → List α) (i j : Nat) : Bool := !decide (i = j) && within C i j && (decide (i < j) || !within C j i)
def abv (C : Nat → List α) (N i : Nat) : List Nat := if i < N then (List.range N).filter (under C i) else []
theorem within_iff {C : Nat → List α} {i j : Nat} : within C i j = true ↔ ∀ x ∈ C i, x ∈ C j := by simp [within]
theorem abv_iff {C : Nat → List α} {N i j : Nat} : j ∈ abv C N i ↔ i < N ∧ j < N ∧ i ≠ j ∧ within C i j = true ∧ (i < j ∨ within C j i = false) := by
  unfold abv
  by_cases h : i < N
  · rw [if_pos h, List.mem_filter, List.mem_range]
    simp [under, h, and_assoc]
  · rw [if_neg h]; simp [h]
theorem abv_lt {C : Nat → List α} {N : Nat} : ∀ i x, x ∈ abv C N i → x < N := fun _ _ h => (abv_iff.mp h).2.1
theorem abv_tr {C : Nat → List α} {N : Nat} : ∀ x y z, y ∈ abv C N x → z ∈ abv C N y → z ∈ abv C N x := fun x y z h1 h2 => by
  obtain ⟨a1, a2, a3, a4, a5⟩ := abv_iff.mp h1
  obtain ⟨b1, b2, b3, b4, b5⟩ := abv_iff.mp h2
  have w1 := within_iff.mp a4
  have w2 := within_iff.mp b4
  have w3 : within C x z = true := within_iff.mpr fun u hu => w2 u (w1 u hu)
  have key : within C z x = true → x < y ∧ y < z := fun h => by
    have h3 := within_iff.mp h
    have c1 : within C y x = true := within_iff.mpr fun u hu => h3 u (w2 u hu)
    have c2 : within C z y = true := within_iff.mpr fun u hu => w1 u (h3 u hu)
    refine ⟨a5.resolve_right ?_, b5.resolve_right ?_⟩
    · rw [c1]; simp
    · rw [c2]; simp
  refine abv_iff.mpr ⟨a1, b2, fun e => ?_, w3, ?_⟩
  · have : within C z x = true := by rw [e]; exact within_iff.mpr fun _ h => h
    have := key this
    omega
  · cases h : within C z x with
    | false => exact .inr rfl
    | true => have := key h; exact .inl (by omega)
def rank (C : Nat → List α) (N x : Nat) : Nat := (C x).length * (N + 1) + x
theorem abv_rk {C : Nat → List α} {N : Nat} (hn : ∀ i, i < N → (C i).Nodup) : ∀ x y, y ∈ abv C N x → rank C N x < rank C N y := fun x y h => by
  obtain ⟨a1, a2, a3, a4, a5⟩ := abv_iff.mp h
  have w1 := within_iff.mp a4
  unfold rank
  cases c : within C y x with
  | true =>
    have hl : (C x).length ≤ (C y).length := nd_len (hn x a1) w1
    have lt : x < y := a5.resolve_right (by rw [c]; simp)
    have := Nat.mul_le_mul_right (N + 1) hl
    omega
  | false =>
    have : ¬ ∀ u ∈ C y, u ∈ C x := fun z => by rw [within_iff.mpr z] at c; simp at c
    have ⟨u, hu, hn'⟩ : ∃ u ∈ C y, u ∉ C x := Classical.byContradiction fun z => this fun u hu => Classical.byContradiction fun q => z ⟨u, hu, q⟩
    have hl : (u :: C x).length ≤ (C y).length := nd_len (List.nodup_cons.mpr ⟨hn', hn x a1⟩) fun t ht => by
      rcases List.mem_cons.mp ht with e | ht
      · rw [e]; exact hu
      · exact w1 t ht
    rw [List.length_cons] at hl
    have := Nat.mul_le_mul_right (N + 1) hl
    rw [Nat.add_mul, Nat.one_mul] at this
    omega
/-! ### the whole -/
def mOf (C : Nat → List α) (N : Nat) : List (Nat × Nat) := pairs (abv C N) 13 N
def chOf (C : Nat → List α) (N : Nat) : List (List Nat) := chainsF N (mOf C N)
def low0 (C : Nat → List α) (N : Nat) : List Nat := (List.range N).filter fun v => !decide (v ∈ (mOf C N).map (·.2))
def gOf (C : Nat → List α) (N : Nat) : List Nat × List Nat := gone (abv C N) (mOf C N) 25 0 (low0 C N) []
def apartOf (C : Nat → List α) (N : Nat) : List Nat := (List.range N).filter fun v => decide (v ∈ (gOf C N).1) && !decide (v ∈ (gOf C N).2)
def lineNo (C : Nat → List α) (N v : Nat) : Nat := ((List.range (chOf C N).length).filter fun a => decide (v ∈ (chOf C N).getD a [])).headD 0
def linesOf (row : List α) (C : Nat → List α) (N : Nat) : List (List α) := (chOf C N).map (lineBy row C)
variable {row : List α} {C : Nat → List α} {N : Nat}
theorem m_ok (hN : N ≤ 12) : ∃ D, POk (abv C N) N (mOf C N) D := pairs_ok (N := N) abv_lt (by omega) N
theorem g_ok {D : Nat → Prop} (hN : N ≤ 12) (q : POk (abv C N) N (mOf C N) D) : GIn (abv C N) (mOf C N) D N (low0 C N) (low0 C N) [] := by
  refine ⟨fun _ h => h, fun l hl x hx => ?_, fun h hh => by simp at hh, List.nodup_nil, fun h hh => by simp at hh, fun l hl => List.mem_range.mp (List.mem_filter.mp hl).1, by simp⟩
  obtain ⟨a, b⟩ := List.mem_filter.mp hl
  refine q.free l (List.mem_range.mp a) (fun k hk => ?_) x hx
  have : l ∈ (mOf C N).map (·.2) := List.mem_map.mpr ⟨(k, l), look_mem hk, rfl⟩
  simp [this] at b
theorem low0_len : (low0 C N).length ≤ N := by
  have := List.length_filter_le (fun v => !decide (v ∈ (mOf C N).map (·.2))) (List.range N)
  rwa [List.length_range] at this
theorem gone_all {D : Nat → Prop} (hN : N ≤ 12) (q : POk (abv C N) N (mOf C N) D) :
    GIn (abv C N) (mOf C N) D N (low0 C N) (gOf C N).1 (gOf C N).2 ∧ ∀ l ∈ (gOf C N).1, ∀ x ∈ abv C N l, x ∈ (gOf C N).2 :=
  gone_ok abv_lt q.dead q.lt 25 0 _ _ (g_ok hN q) (by have := low0_len (C := C) (N := N); omega) fun j h => absurd h (Nat.not_lt_zero _)
theorem lines_len (hN : N ≤ 12) : (apartOf C N).length = (linesOf row C N).length := by
  obtain ⟨D, q⟩ := m_ok (C := C) hN
  obtain ⟨g, clo⟩ := gone_all hN q
  unfold linesOf chOf chainsF
  rw [List.length_map, List.length_map]
  refine count_ok abv_tr q.inj q.edge abv_lt q.lt (fun v hv h => g.base v (List.mem_filter.mpr ⟨List.mem_range.mpr hv, ?_⟩)) clo g.high
  have : v ∉ (mOf C N).map (·.2) := fun z => by
    obtain ⟨p, hp, e⟩ := List.mem_map.mp z
    exact h p.1 (mem_look q.nd (by rw [← e]; exact hp))
  simp [this]
theorem lines_perm (hr : row.Nodup) : ∀ l ∈ linesOf row C N, l.Perm row := fun l hl => by
  obtain ⟨c, _, rfl⟩ := List.mem_map.mp hl
  exact lineBy_perm hr c
theorem lineNo_ok (hN : N ≤ 12) (hn : ∀ i, i < N → (C i).Nodup) {v : Nat} (hv : v < N) : lineNo C N v < (chOf C N).length ∧ v ∈ (chOf C N).getD (lineNo C N v) [] := by
  obtain ⟨D, q⟩ := m_ok (C := C) hN
  obtain ⟨c, hc, hvc⟩ := chains_cover (abv_rk hn) abv_tr abv_lt hN q _ v (Nat.lt_succ_self _) hv
  obtain ⟨j, hj, e⟩ := List.mem_iff_getElem.mp hc
  have hj : j < (chOf C N).length := hj
  have hm : j ∈ (List.range (chOf C N).length).filter fun a => decide (v ∈ (chOf C N).getD a []) :=
    List.mem_filter.mpr ⟨List.mem_range.mpr hj, decide_eq_true (by rw [List.getD_eq_getElem?_getD, List.getElem?_eq_getElem hj, Option.getD_some]; exact e ▸ hvc)⟩
  have hh : lineNo C N v ∈ (List.range (chOf C N).length).filter fun a => decide (v ∈ (chOf C N).getD a []) := by
    unfold lineNo
    cases h : (List.range (chOf C N).length).filter fun a => decide (v ∈ (chOf C N).getD a []) with
    | nil => rw [h] at hm; simp at hm
    | cons x r => simp
  obtain ⟨a, b⟩ := List.mem_filter.mp hh
  exact ⟨List.mem_range.mp a, of_decide_eq_true b⟩
theorem lineNo_lt (hN : N ≤ 12) (hn : ∀ i, i < N → (C i).Nodup) {v : Nat} (hv : v < N) : lineNo C N v < (linesOf row C N).length := by
  unfold linesOf
  rw [List.length_map]
  exact (lineNo_ok hN hn hv).1
theorem seat_drop (hN : N ≤ 12) (hr : row.Nodup) (hn : ∀ i, i < N → (C i).Nodup) (hs : ∀ i, i < N → ∀ x ∈ C i, x ∈ row) {v : Nat} (hv : v < N) {l : List α} (hl : (linesOf row C N)[lineNo C N v]? = some l) :
    (l.drop (row.length - (C v).length)).Perm (C v) := by
  obtain ⟨D, q⟩ := m_ok (C := C) hN
  obtain ⟨h1, h2⟩ := lineNo_ok hN hn hv
  unfold linesOf at hl
  rw [List.getElem?_map, List.getElem?_eq_getElem h1] at hl
  rw [List.getD_eq_getElem?_getD, List.getElem?_eq_getElem h1, Option.getD_some] at h2
  have e := Option.some.inj hl
  rw [← e]
  have cok := chains_ok (abv_rk hn) abv_tr abv_lt hN q _ (List.getElem_mem h1)
  exact line_drop hr h2 (cok.1.imp fun {a b} h => within_iff.mp (abv_iff.mp h).2.2.2.1) (hn v hv) (hs v hv)
theorem apart_rise : (apartOf C N).Pairwise (· < ·) := List.Pairwise.filter _ List.pairwise_lt_range
theorem apart_lt : ∀ v ∈ apartOf C N, v < N := fun v hv => List.mem_range.mp (List.mem_filter.mp hv).1
theorem apart_ok (hN : N ≤ 12) {i j : Nat} (hi : i ∈ apartOf C N) (hj : j ∈ apartOf C N) (ne : i ≠ j) : within C i j = false := by
  obtain ⟨D, q⟩ := m_ok (C := C) hN
  obtain ⟨g, clo⟩ := gone_all hN q
  obtain ⟨hi1, hi2⟩ := List.mem_filter.mp hi
  obtain ⟨hj1, hj2⟩ := List.mem_filter.mp hj
  simp only [Bool.and_eq_true, decide_eq_true_eq, Bool.not_eq_true', decide_eq_false_iff_not] at hi2 hj2
  have hi1 := List.mem_range.mp hi1
  have hj1 := List.mem_range.mp hj1
  cases h : within C i j with
  | false => rfl
  | true =>
    by_cases c : i < j ∨ within C j i = false
    · exact absurd (clo i hi2.1 j (abv_iff.mpr ⟨hi1, hj1, ne, h, c⟩)) hj2.2
    · have c1 : ¬ i < j := fun z => c (.inl z)
      have c2 : within C j i = true := by
        cases h' : within C j i with
        | true => rfl
        | false => exact absurd (.inr h') c
      exact absurd (clo j hj2.1 i (abv_iff.mpr ⟨hj1, hi1, ne.symm, c2, .inl (by omega)⟩)) hi2.2
end
end K44
/-! What seated keeps, whatever it is asked: in plain Lean. -/
namespace K44
structure MOk (N : Nat) (M : List (Nat × Nat)) : Prop where
  nd : (M.map (·.1)).Nodup
  lt : ∀ p ∈ M, p.1 < N ∧ p.2 < N
theorem MOk.nil {N : Nat} : MOk N [] := ⟨List.nodup_nil, fun _ h => absurd h (by simp)⟩
theorem MOk.len {N : Nat} {M : List (Nat × Nat)} (h : MOk N M) : M.length ≤ N := by
  have := nd_len (l' := List.range N) h.nd fun x hx => by
    obtain ⟨p, hp, rfl⟩ := List.mem_map.mp hx
    exact List.mem_range.mpr (h.lt p hp).1
  rwa [List.length_map, List.length_range] at this
theorem mem_mput {x y : Nat} : ∀ {M : List (Nat × Nat)} {p : Nat × Nat}, p ∈ mput M x y → p ∈ M ∨ p = (x, y)
  | [], p, h => by simp [mput] at h; exact .inr h
  | (k, v) :: r, p, h => by
    simp only [mput] at h
    by_cases c : k = x
    · rw [if_pos c] at h
      rcases List.mem_cons.mp h with e | h
      · exact .inr (by rw [e, c])
      · exact .inl (List.mem_cons_of_mem _ h)
    · rw [if_neg c] at h
      rcases List.mem_cons.mp h with e | h
      · exact .inl (by rw [e]; exact List.mem_cons_self)
      · rcases mem_mput h with q | q
        · exact .inl (List.mem_cons_of_mem _ q)
        · exact .inr q
theorem MOk.put {N : Nat} {M : List (Nat × Nat)} (h : MOk N M) {x y : Nat} (hx : x < N) (hy : y < N) : MOk N (mput M x y) :=
  ⟨nd_mput h.nd, fun p hp => by
    rcases mem_mput hp with q | q
    · exact h.lt p q
    · rw [q]; exact ⟨hx, hy⟩⟩
theorem MOk.val {N : Nat} {M : List (Nat × Nat)} (h : MOk N M) {k v : Nat} (e : look M k = some v) : v < N := (h.lt _ (look_mem e)).2
structure Kept (N : Nat) (T : List Nat) (r : Res) : Prop where
  m : MOk N r.2.2
  t : TOk N r.2.1
  le : T.length ≤ r.2.1.length
section
variable {A : Nat → List Nat} {N : Nat}
theorem seatIn_kept {n one : Nat} (h1 : one < N) (hA : ∀ i x, x ∈ A i → x < N) (ih : ∀ (T : List Nat) (M : List (Nat × Nat)) (s : Nat), MOk N M → TOk N T → s < N → Kept N T (seat A n T M s)) :
    ∀ (os T : List Nat) (M : List (Nat × Nat)), (∀ x ∈ os, x < N) → MOk N M → TOk N T → Kept N T (seatIn (seat A n) one os T M)
  | [], T, M, _, m, t => ⟨m, t, Nat.le_refl _⟩
  | o :: rest, T, M, hos, m, t => by
    have hoN := hos o List.mem_cons_self
    have hr : ∀ x ∈ rest, x < N := fun x hx => hos x (List.mem_cons_of_mem _ hx)
    simp only [seatIn]
    by_cases c : o ∈ T
    · rw [if_pos c]
      exact seatIn_kept h1 hA ih rest T M hr m t
    · rw [if_neg c]
      have t1 := t.snoc hoN c
      have l1 : T.length ≤ (T ++ [o]).length := by rw [List.length_append]; omega
      cases hl : look M o with
      | none => exact ⟨m.put hoN h1, t1, l1⟩
      | some s =>
        have q := ih (T ++ [o]) M s m t1 (m.val hl)
        simp only
        by_cases b : (seat A n (T ++ [o]) M s).1 = true
        · rw [if_pos b]
          exact ⟨q.m.put hoN h1, q.t, Nat.le_trans l1 q.le⟩
        · rw [if_neg b]
          have q2 := seatIn_kept h1 hA ih rest _ _ hr q.m q.t
          exact ⟨q2.m, q2.t, Nat.le_trans l1 (Nat.le_trans q.le q2.le)⟩
theorem seat_kept (hA : ∀ i x, x ∈ A i → x < N) : ∀ (n : Nat) (T : List Nat) (M : List (Nat × Nat)) (one : Nat), MOk N M → TOk N T → one < N → Kept N T (seat A n T M one)
  | 0, T, M, one, m, t, _ => ⟨m, t, Nat.le_refl _⟩
  | n + 1, T, M, one, m, t, h1 => seatIn_kept h1 hA (fun T M s a b c => seat_kept hA n T M s a b c) (A one) T M (fun x hx => hA one x hx) m t
theorem pairs_kept (hA : ∀ i x, x ∈ A i → x < N) (F : Nat) : ∀ i, i ≤ N → MOk N (pairs A F i)
  | 0, _ => MOk.nil
  | i + 1, h => (seat_kept hA F [] (pairs A F i) i (pairs_kept hA F i (by omega)) ⟨List.nodup_nil, fun _ z => absurd z (by simp)⟩ (by omega)).m
end
end K44
set_option Elab.async false
set_option linter.all false
set_option maxRecDepth 100000
/-! Sets of texts made of a tuple, of any length below the bound; their length, and == of two of them. -/
namespace KSet
open PySem PySem.Spec PyProof.Rows
/-- each text once, in the order in which they come -/
def ddStep (l : List Str) (x : Str) : List Str := if x ∈ l then l else l ++ [x]
def dd (xs : List Str) : List Str := xs.foldl ddStep []
theorem ddGo_mem : ∀ (xs l : List Str) (k : Str), k ∈ xs.foldl ddStep l ↔ k ∈ l ∨ k ∈ xs
  | [], l, k => by simp
  | x :: r, l, k => by
    rw [List.foldl_cons, ddGo_mem r]
    unfold ddStep
    by_cases h : x ∈ l
    · rw [if_pos h, List.mem_cons]
      constructor
      · rintro (a | a)
        · exact .inl a
        · exact .inr (.inr a)
      · rintro (a | a | a)
        · exact .inl a
        · exact .inl (a ▸ h)
        · exact .inr a
    · rw [if_neg h, List.mem_append, List.mem_singleton, List.mem_cons, or_assoc]
theorem dd_mem (xs : List Str) (k : Str) : k ∈ dd xs ↔ k ∈ xs := by
  unfold dd
  rw [ddGo_mem]; simp
theorem ddGo_nd : ∀ (xs l : List Str), l.Nodup → (xs.foldl ddStep l).Nodup
  | [], _, h => h
  | x :: r, l, h => by
    rw [List.foldl_cons]
    refine ddGo_nd r _ ?_
    unfold ddStep
    by_cases c : x ∈ l
    · rw [if_pos c]; exact h
    · rw [if_neg c, List.nodup_append]
      exact ⟨h, by simp, fun a ha b hb q => c (by rw [List.mem_singleton] at hb; rw [← hb, ← q]; exact ha)⟩
theorem dd_nd (xs : List Str) : (dd xs).Nodup := ddGo_nd xs [] List.nodup_nil
theorem dd_snoc (xs : List Str) (x : Str) : dd (xs ++ [x]) = ddStep (dd xs) x := by unfold dd; rw [List.foldl_append]; rfl
theorem ddGo_len : ∀ (xs l : List Str), (xs.foldl ddStep l).length ≤ l.length + xs.length
  | [], _ => Nat.le_refl _
  | x :: r, l => by
    rw [List.foldl_cons]
    have := ddGo_len r (ddStep l x)
    have h2 : (ddStep l x).length ≤ l.length + 1 := by
      unfold ddStep
      by_cases c : x ∈ l
      · rw [if_pos c]; omega
      · rw [if_neg c, List.length_append]; simp
    rw [List.length_cons]
    omega
theorem dd_len (xs : List Str) : (dd xs).length ≤ xs.length := by
  have := ddGo_len xs []
  rw [List.length_nil, Nat.zero_add] at this
  exact this
theorem dd_of_nd : ∀ (xs l : List Str), (l ++ xs).Nodup → xs.foldl ddStep l = l ++ xs
  | [], l, _ => by simp
  | x :: r, l, h => by
    have hx : x ∉ l := fun z => (List.nodup_append.mp h).2.2 x z x List.mem_cons_self rfl
    rw [List.foldl_cons, show ddStep l x = l ++ [x] from if_neg hx, dd_of_nd r (l ++ [x]) (by rw [List.append_assoc]; exact h), List.append_assoc]
    rfl
/-- the set at a holds the texts xs -/
def Holds (P : Program) (w : World) (h : Heap) (a : Addr) (xs : List Str) : Prop := h.SetOf (strKind P w) a (fun k => decide (k ∈ dd xs)) (dd xs).length
section
variable {prog : Program} {w : World} {A : Around} {R : Result → Shared → Prop} {I : Addr} {fp wr : List Addr} {G : Array GenState → Array GenState → Prop} {n : Nat} {P : Nat → Value → Prop} {St : Nat → Shared → Prop}
theorem moves {h h' : Heap} {a : Addr} {xs : List Str} (hS : Holds prog w h a xs) (k : ∀ o, h.get? a = some o → h'.get? a = some o) : Holds prog w h' a xs := by
  obtain ⟨o, es, ep, t, ho, r⟩ := hS
  exact ⟨o, es, ep, t, k o ho, r⟩
/-- set.update's own loop over a walk of texts: the texts are taken in, one by one -/
theorem takes_in (W : WalksS prog w A.in1 I fp wr G n P St) {S : Addr} (far : S ∉ fp) {xs : List Str} (len : xs.length = n) (room : n + 1 < scanBound)
    (is : ∀ i v, P i v → ∃ t x, xs[i]? = some x ∧ v = .str x t) :
    ∀ (left i : Nat) (s : Shared), i + left = n → St i s → Holds prog w s.heap S (xs.take i) →
      (∀ s', Moved (S :: wr) G s s' → Holds prog w s'.heap S xs → R (.ok (.ret .none)) s') →
      codeAny (model prog w) A (.builtin "set.update.loop" ⟨[.ref S, .ref I], []⟩) R s := by
  have notwr : S ∉ wr := fun z => far (W.sub _ z)
  have more : ∀ b ∈ wr, b ∈ S :: wr := fun _ z => List.mem_cons_of_mem _ z
  intro left
  induction left with
  | zero =>
    intro i s e st hS fin
    have ei : i = n := by omega
    rw [ei] at st hS
    refine codeAny_builtin F.entry_set_update_loop ?_
    rw [Around.under_plainId F.plain_set_update_loop _]
    refine wpAny_bind (W.done s _ _ st fun s' mv => wpAny_pure (fin s' (mv.mono more) ?_))
    have := moves hS fun o ho => mv.heap S o notwr ho
    rwa [← len, List.take_length] at this
  | succ left ih =>
    intro i s e st hS fin
    have lt : i < n := by omega
    refine codeAny_builtin F.entry_set_update_loop ?_
    rw [Around.under_plainId F.plain_set_update_loop _]
    refine wpAny_bind (W.item i s _ _ lt st fun v s' yv st' mv => ?_)
    obtain ⟨t, x, hx, rfl⟩ := is i v yv
    have hS' : Holds prog w s'.heap S (xs.take i) := moves hS fun o ho => mv.heap S o notwr ho
    show wpAny _ A.in1 (holding [Value.str x t] (setAdd S (.str x t)) >>= _) _ _ s'
    refine wpAny_bind (wpAny_holding ?_)
    unfold setAdd
    refine wpAny_holding (wpAny_bind ((strKind prog w).pyHash (k := x) (strKind_is _ _ _ _) ?_))
    have small : (dd (xs.take i)).length + 1 < scanBound := by
      have h1 := dd_len (xs.take i)
      have h3 : (xs.take i).length ≤ n := by rw [List.length_take, len]; exact Nat.min_le_right _ _
      omega
    refine wpAny_setAddHashed_of (knd := strKind prog w) (s := { s' with toks := s'.toks + 1 }) (strKind_is _ _ _ _) rfl hS' small fun h' only new => ?_
    have next : Holds prog w h' S (xs.take (i + 1)) := by
      have ed : dd (xs.take (i + 1)) = ddStep (dd (xs.take i)) x := by
        rw [← dd_snoc, List.take_add_one, hx]
        rfl
      unfold Holds
      rw [ed]
      refine SetOf_congr new (fun k => ?_) ?_
      · unfold ddStep
        by_cases c : x ∈ dd (xs.take i)
        · rw [if_pos c]
          by_cases ek : k = x
          · rw [ek, decide_eq_true c]; rfl
          · rw [decide_eq_false ek, Bool.or_false]
        · rw [if_neg c]
          by_cases c2 : k ∈ dd (xs.take i)
          · rw [decide_eq_true c2, Bool.true_or, decide_eq_true (List.mem_append_left _ c2)]
          · by_cases ek : k = x
            · rw [decide_eq_true ek, Bool.or_true, decide_eq_true (by rw [ek]; exact List.mem_append_right _ (List.mem_singleton.mpr rfl))]
            · rw [decide_eq_false c2, decide_eq_false ek, decide_eq_false (fun z => by rcases List.mem_append.mp z with z | z; exact c2 z; exact ek (List.mem_singleton.mp z))]; rfl
      · unfold ddStep
        by_cases c : x ∈ dd (xs.take i)
        · rw [if_pos c, if_pos (decide_eq_true c)]
        · rw [if_neg c, if_neg (by rw [decide_eq_false c]; exact Bool.false_ne_true), List.length_append]; rfl
    have other : ∀ b o, b ≠ S → s'.heap.get? b = some o → h'.get? b = some o := fun b o ne q => by rw [only.2 b ne]; exact q
    refine wpAny_pure ⟨plainId_quiet F.plain_set_update_loop _, ih (i + 1) _ (by omega) (W.frame _ s' _ _ st' (Nat.le_succ _) fun b hb o q => other b o (fun z => far (z ▸ hb)) q) next fun s2 mv2 hS2 => ?_⟩
    exact fin s2 (Moved.trans W.gtrans ((mv.mono more).then_heap (Nat.le_succ _) fun b o hb q => other b o (fun z => hb (by rw [z]; exact List.mem_cons_self)) q) mv2) hS2
end
section
variable {prog : Program} {w : World} {A : Around} {E : Value → Shared → Prop} {s : Shared}
/-- a new set, empty -/
abbrev bare (led : Bool) : Obj := { cls := .type "set", dict := none, data := .set #[] 0 (.fresh 0 0 led) }
set_option maxHeartbeats 3200000 in
/-- set(t), t a tuple of texts -/
theorem set_of_tuple {l : Addr} {items : Array Value} {xs : List Str} {Q : Value → Shared → Prop}
    (hh : A.handled = none) (hl : s.heap.IsTuple l items) (hi : StrsAre items.toList xs) (room : xs.length + 1 < scanBound)
    (h : ∀ (h' : Heap) (tk : Nat), Holds prog w h' s.heap.objs.size xs →
      (∀ b o, b < s.heap.objs.size → s.heap.get? b = some o → h'.get? b = some o) → Q (.ref s.heap.objs.size) { s with heap := h', toks := tk }) :
    wpAny (model prog w) A (call (.type "set") [.ref l]) Q E s := by
  have mro := PySem.F.called_set.mro
  obtain ⟨c, tl, mro⟩ := mro
  have m1 := PySem.F.called_set.made
  have m2 := PySem.F.called_set.sub
  refine wpAny_call (codeAny_of_tree ?_)
  show wpAny _ _ (callAny (.type "set") _) _ _ _
  refine wpAny_pure ⟨Code.quiet_builtin _ (by decide +kernel), codeAny_builtin PySem.F.entry_type_call ?_⟩
  rw [Around.under_plain (weight_type_call_type "set" [.ref l] []) rfl]
  have m3 := PySem.F.called_set.notType
  have m4 := PySem.F.called_set.canCreate
  have m5 := PySem.F.typeCall_set_1 (.ref l)
  repeat (any_goals (first | assumption | wp_step))
  let Q1 : Value → Shared → Prop := fun u t => ∃ led : Bool, u = .ref s.heap.objs.size ∧ t = { s with heap := s.heap.push (bare led) }
  refine codeAny_mono (code_set_new_1 (.ref l) (E := E) (Q₁ := Q1) fun led => ⟨led, rfl, rfl⟩) fun r t hr => ?_
  rcases r with e | fl
  · exact hr
  cases fl
  case ret obj =>
    obtain ⟨led, rfl, rfl⟩ := hr
    have new : (s.heap.push (bare led)).get? s.heap.objs.size = some (bare led) := Heap.get?_push_size _ rfl
    have ty : Shared.TypeIs { s with heap := s.heap.push (bare led) } (.ref s.heap.objs.size) "set" := ⟨_, new, rfl⟩
    have i1 := PySem.F.called_set.init.lookup
    have i2 := PySem.F.called_set.init.bind (.ref s.heap.objs.size)
    repeat (any_goals (first | assumption | wp_step))
    let Q2 : Value → Shared → Prop := fun u t => u = .none ∧ ∃ h' tk, t = { s with heap := h', toks := tk } ∧ Holds prog w h' s.heap.objs.size xs ∧
      ∀ b o, b < s.heap.objs.size → s.heap.get? b = some o → h'.get? b = some o
    refine codeAny_mono (codeAny_call_builtin (R := wants Q2 E) PySem.F.called_set.init.plain PySem.F.entry_set_init (check_set_init_1 ty ?_)) fun r t hr => ?_
    · obtain ⟨⟨oc, od, odt, osl⟩, hol, hcl, nl, hdl⟩ := hl
      simp only at hcl hdl
      subst hcl; subst hdl
      have n1 := PySem.F.sub_tuple_set
      have n2 := PySem.F.sub_tuple_frozenset
      have n3 : (Value.type "tuple" == Value.type "dict") = false := by decide
      have tup : (s.heap.push (bare led)).IsTuple l items := ⟨_, Heap.get?_push_of_some _ hol, rfl, nl, rfl⟩
      have got : (s.heap.push (bare led)).get? l = some { cls := .type "tuple", dict := od, data := .seq items nl, slots := osl } := Heap.get?_push_of_some _ hol
      unfold Builtin.«set.__init__» noKeywords Builtin.Frozenset.updateFrom
      generalize hPI : pyIter = PI
      wp_walk
      subst hPI
      refine wpAny_pyIter_tuple tup (wpAny_bind (wpAny_runValue ?_))
      have below : l < s.heap.objs.size := Heap.lt_size hol
      have quiet : A.in1.in1.in1.handled = none := by simp [hh]
      have apart : l ≠ (s.heap.push (bare led)).objs.size := by
        rw [Heap.size_push]; exact Nat.ne_of_lt (Nat.lt_succ_of_lt below)
      have far : s.heap.objs.size ∉ [(s.heap.push (bare led)).objs.size, l] := by
        rw [Heap.size_push]
        simp only [List.mem_cons, List.not_mem_nil, or_false, not_or]
        exact ⟨Nat.ne_of_lt (Nat.lt_succ_self _), Nat.ne_of_gt below⟩
      have len : xs.length = items.size := by rw [← StrsAre.len_eq hi, Array.length_toList]
      have is : ∀ (i : Nat) (v : Value), items[i]? = some v → ∃ t x, xs[i]? = some x ∧ v = .str x t := fun i v hv => by
        obtain ⟨t, e⟩ := SS.strs_at hi i v (by rw [Array.getElem?_toList]; exact hv)
        have lt : i < xs.length := by rw [len]; exact (Array.getElem?_eq_some_iff.mp hv).1
        exact ⟨t, xs[i], List.getElem?_eq_getElem lt, by rw [e, List.getD_eq_getElem?_getD, List.getElem?_eq_getElem lt] <;> rfl⟩
      refine takes_in ((Walks.tuple quiet _ l apart items).toS) far len (by rw [← len]; exact room) is items.size 0 _ (Nat.zero_add _)
        ⟨⟨_, Heap.get?_push_size _ rfl, rfl, rfl⟩, tup.push _⟩ ?_ fun s' mv hS => ?_
      · have q := (setObjOf_fresh (knd := strKind prog w) led).setOf (Heap.get?_push_of_some { cls := .type "tuple_iterator", data := .fields #[.ref l, .int 0 0] } new) (by unfold scanBound; omega)
        exact SetOf_congr q (fun k => rfl) rfl
      · obtain ⟨h', g', d', tk', os'⟩ := s'
        obtain rfl : g' = s.gens := mv.gens
        obtain rfl : d' = s.drawn := mv.drawn
        obtain rfl : os' = s.os := mv.os
        refine wpAny_pure (wpAny_pure ⟨rfl, h', tk', rfl, hS, fun b o hb e => ?_⟩)
        refine mv.heap b o (fun z => ?_) (Heap.get?_push_of_some _ (Heap.get?_push_of_some _ e))
        rcases List.mem_cons.mp z with z | z
        · exact Nat.ne_of_lt hb z
        · rw [List.mem_singleton, Heap.size_push] at z
          exact Nat.ne_of_lt (Nat.lt_succ_of_lt hb) z
    · rcases r with e | fl2
      · exact hr
      cases fl2
      case ret u =>
        obtain ⟨rfl, h', tk, rfl, hS, keep⟩ := hr
        repeat (any_goals (first | assumption | wp_step))
        exact h _ _ hS keep
      all_goals exact hr.elim
  all_goals exact hr.elim
end
end KSet
set_option Elab.async false
set_option linter.all false
set_option maxRecDepth 100000
namespace KSet
open PySem PySem.Spec PyProof.Rows
/-- no more than those among which they stand -/
theorem nd_le : ∀ {l l' : List Str}, l.Nodup → (∀ x ∈ l, x ∈ l') → l.length ≤ l'.length
  | [], _, _, _ => Nat.zero_le _
  | x :: l, l', nd, h => by
    rw [List.nodup_cons] at nd
    have hx : x ∈ l' := h x List.mem_cons_self
    have ih : l.length ≤ (l'.erase x).length := nd_le nd.2 fun y hy => by
      have ne : y ≠ x := fun e => nd.1 (e ▸ hy)
      exact (List.mem_erase_of_ne ne).mpr (h y (List.mem_cons_of_mem _ hy))
    rw [List.length_erase_of_mem hx] at ih
    have : 0 < l'.length := List.length_pos_of_mem hx
    rw [List.length_cons]
    omega
theorem entry_set_eq : entryFor table "set.__eq__" = some Builtin.«frozenset.__eq__» :=
  entryFor_alias (id' := "frozenset.__eq__") (by kernel_rfl) rfl (by decide +kernel) (by kernel_rfl)
section
variable {prog : Program} {w : World} {A : Around} {E : Value → Shared → Prop} {s : Shared}
/-- what stands in a set of texts is a text -/
theorem is_text {es : List (Int × Value)} (h : ElemsOf (strKind prog w) es) : ∀ e ∈ es, ∃ k t, e.2 = .str k t ∧ e.1 = (strKind prog w).hash k ∧ (strKind prog w).is k e.2 = true := fun e he => by
  obtain ⟨⟨k, hk, hh⟩, _⟩ := h e he
  obtain ⟨i, v⟩ := e
  cases v with
  | str z t =>
    have : k = z := (strKind prog w).inj _ _ _ hk (strKind_is _ _ _ _)
    exact ⟨k, t, by rw [this], hh, hk⟩
  | _ => exact (nomatch (show false = true from hk))
theorem quiet_text {k : Str} {t : Tok} {Q : Bool → Shared → Prop} (h : Q true s) : wpAny (model prog w) A (Builtin.Frozenset.quietEq (.str k t)) Q E s := wpAny_pure h
theorem holds_get {h : Heap} {a : Addr} {xs : List Str} (H : Holds prog w h a xs) : ∃ o es ep t, h.get? a = some o ∧ o.cls = .type "set" ∧ o.data = .set es ep t ∧ ElemsOf (strKind prog w) es.toList ∧ t.fits es.size = true ∧ es.size = (dd xs).length ∧
    ∀ k, k ∈ xs ↔ ∃ e ∈ es.toList, (strKind prog w).is k e.2 = true := by
  obtain ⟨o, es, ep, t, ho, hc, hd, hel, hm, _, hf, hn⟩ := H
  refine ⟨o, es, ep, t, ho, hc.1, hd, hel, hf, hn, fun k => ?_⟩
  rw [← hm k, decide_eq_true_eq, dd_mem]
theorem walk_quiet {es : List (Int × Value)} {f : Int × Value → Option (List (Int × Value)) × Unit → Sem (ForInStep (Option (List (Int × Value)) × Unit))}
    {Q : Option (List (Int × Value)) × Unit → Shared → Prop} (hel : ∀ e ∈ es, ∃ k t, e.2 = .str k t)
    (hf : ∀ (i : Int) (k : Str) (t : Tok) b (Q' : ForInStep (Option (List (Int × Value)) × Unit) → Shared → Prop), Q' (.yield (none, ())) s → wpAny (model prog w) A (f (i, .str k t) b) Q' E s)
    (h : Q (none, ()) s) : wpAny (model prog w) A (forIn es (none, ()) f) Q E s := by
  refine wpAny_forIn_list f (fun l b s' => s' = s ∧ b = (none, ()) ∧ ∀ e ∈ l, ∃ k t, e.2 = .str k t) Q ?_ ?_ es _ ⟨rfl, rfl, hel⟩
  · rintro ⟨i, v⟩ rest b s' ⟨rfl, rfl, hl⟩
    obtain ⟨k, t, e⟩ := hl (i, v) List.mem_cons_self
    have e : v = .str k t := e
    subst e
    exact hf i k t _ _ ⟨rfl, rfl, fun e he => hl e (List.mem_cons_of_mem _ he)⟩
  · rintro b s' ⟨rfl, rfl, _⟩
    exact h
set_option maxHeartbeats 3200000 in
theorem subset_of {id : String} {a b : Addr} {xs ys : List Str} {Q : Bool → Shared → Prop} (ha : Holds prog w s.heap a xs) (hb : Holds prog w s.heap b ys) (len : (dd xs).length = (dd ys).length)
    (h : Q (decide (∀ k ∈ xs, k ∈ ys)) s) : wpAny (model prog w) A (Builtin.Frozenset.subsetOf id a b) Q E s := by
  obtain ⟨o, es, ep, t, ho, hc, hd, hel, hf, hn, hm⟩ := holds_get ha
  obtain ⟨o', es', ep', t', ho', hc', hd', hel', hf', hn', hm'⟩ := holds_get hb
  unfold Builtin.Frozenset.subsetOf Builtin.Frozenset.sizeOf
  refine wpAny_bind (wpAny_bind (wpAny_setEntries_of ho hd hf (wpAny_pure ?_)))
  refine wpAny_bind (wpAny_bind (wpAny_setEntries_of ho' hd' hf' (wpAny_pure ?_)))
  rw [if_neg (by rw [hn, hn', len]; exact Nat.lt_irrefl _)]
  refine wpAny_bind (wpAny_setEpoch_of ho hd hf ?_)
  refine wpAny_bind ?_
  unfold Builtin.Frozenset.walkUnseen
  refine wpAny_bind (wpAny_setEntries_of ho hd hf ?_)
  refine wpAny_bind (wpAny_setEntries_of ho' hd' hf' ?_)
  refine wpAny_bind (walk_quiet (fun e he => ?_) (fun i k t b Q' q => ?_) ?_)
  · rcases List.mem_append.mp he with z | z
    · obtain ⟨k, t, e1, _⟩ := is_text hel e z
      exact ⟨k, t, e1⟩
    · obtain ⟨k, t, e1, _⟩ := is_text hel' e z
      exact ⟨k, t, e1⟩
  · refine wpAny_bind (quiet_text ?_)
    exact wpAny_pure q
  refine wpAny_pure ?_
  refine wpAny_bind (wpAny_forIn_list _ (fun l q s' => s' = s ∧ q = (none, ()) ∧ (∀ e ∈ l, e ∈ es.toList) ∧ ∀ k ∈ xs, (∃ e ∈ l, (PySem.strKind prog w).is k e.2 = true) ∨ k ∈ ys) _ ?_ ?_ es.toList _ ⟨rfl, rfl, fun e he => he, fun k hk => .inl ((hm k).mp hk)⟩)
  · rintro ⟨i, v⟩ rest q s' ⟨rfl, rfl, hl, hx⟩
    obtain ⟨k, u, e1, e2, e3⟩ := is_text hel (i, v) (hl (i, v) List.mem_cons_self)
    have e1 : v = .str k u := e1
    have e2 : i = (PySem.strKind prog w).hash k := e2
    subst e1; subst e2
    have hkx : k ∈ xs := (hm k).mpr ⟨_, hl _ List.mem_cons_self, e3⟩
    refine wpAny_bind (wpAny_holding (wpAny_setFind_of (knd := PySem.strKind prog w) e3 rfl hb fun r hr => ?_))
    cases r with
    | none =>
      have no : k ∉ ys := fun z => by
        rw [decide_eq_true ((dd_mem ys k).mpr z)] at hr
        exact nomatch hr
      rw [decide_eq_false (fun z => no (z k hkx))] at h
      exact wpAny_pure (wpAny_pure h)
    | some j =>
      have yes : k ∈ ys := by
        have := of_decide_eq_true hr.symm
        exact (dd_mem ys k).mp this
      show wpAny _ _ (Builtin.Frozenset.unchanged id a ep >>= _) _ _ _
      unfold Builtin.Frozenset.unchanged
      refine wpAny_bind (wpAny_bind (wpAny_setEpoch_of ho hd hf ?_))
      simp only [bne_self_eq_false, Bool.false_eq_true, ↓reduceIte]
      refine wpAny_pure (wpAny_pure ⟨rfl, rfl, fun e he => hl e (List.mem_cons_of_mem _ he), fun k' hk' => ?_⟩)
      rcases hx k' hk' with ⟨e, he, q⟩ | z
      · rcases List.mem_cons.mp he with z | z
        · rw [z] at q
          have := (PySem.strKind prog w).inj _ _ _ q e3
          exact .inr (this ▸ yes)
        · exact .inl ⟨e, z, q⟩
      · exact .inr z
  · rintro q s' ⟨rfl, rfl, _, hx⟩
    rw [decide_eq_true (fun k hk => (hx k hk).resolve_left fun ⟨e, he, _⟩ => nomatch he)] at h
    exact wpAny_pure h
/-- the same length, and the one within the other: the same texts -/
theorem same_of {xs ys : List Str} (len : (dd xs).length = (dd ys).length) (h : ∀ k ∈ xs, k ∈ ys) : ∀ k ∈ ys, k ∈ xs := fun k hk => by
  refine Classical.byContradiction fun no => ?_
  have sub : ∀ x ∈ k :: dd xs, x ∈ dd ys := fun x hx => by
    rcases List.mem_cons.mp hx with e | e
    · rw [e]; exact (dd_mem ys k).mpr hk
    · exact (dd_mem ys x).mpr (h x ((dd_mem xs x).mp e))
  have nd : (k :: dd xs).Nodup := List.nodup_cons.mpr ⟨fun z => no ((dd_mem xs k).mp z), dd_nd xs⟩
  have := nd_le nd sub
  rw [List.length_cons, len] at this
  exact Nat.not_succ_le_self _ this
theorem len_of {xs ys : List Str} (h : ∀ k ∈ xs, k ∈ ys) (h' : ∀ k ∈ ys, k ∈ xs) : (dd xs).length = (dd ys).length :=
  Nat.le_antisymm (nd_le (dd_nd xs) fun x hx => (dd_mem ys x).mpr (h x ((dd_mem xs x).mp hx))) (nd_le (dd_nd ys) fun x hx => (dd_mem xs x).mpr (h' x ((dd_mem ys x).mp hx)))
set_option maxHeartbeats 3200000 in
/-- == of two sets of texts -/
theorem eq_sets {a b : Addr} {xs ys : List Str} {Q : Value → Shared → Prop} (ha : Holds prog w s.heap a xs) (hb : Holds prog w s.heap b ys) (hu : A.units < cLine)
    (h : Q (.bool (decide ((∀ k ∈ xs, k ∈ ys) ∧ ∀ k ∈ ys, k ∈ xs))) s) : wpAny (model prog w) A (compareOp .Eq (.ref a) (.ref b)) Q E s := by
  obtain ⟨o, es, ep, t, ho, hc, hd, hel, hf, hn, hm⟩ := holds_get ha
  obtain ⟨o', es', ep', t', ho', hc', hd', hel', hf', hn', hm'⟩ := holds_get hb
  have ta : s.TypeIs (.ref a) "set" := ⟨o, ho, hc⟩
  have tb : s.TypeIs (.ref b) "set" := ⟨o', ho', hc'⟩
  refine wpAny_richCompare_same_room (op := .Eq) ta tb PySem.F.slot_set_eq (wpAny_call_entry PySem.F.slot_set_eq ta entry_set_eq ?_ (PySem.F.args_set_eq_2 _ _)) hu
  unfold Builtin.«frozenset.__eq__»
  refine wpAny_bind (m := Builtin.Frozenset.slot1 "__eq__" ⟨[.ref a, .ref b], []⟩) (wpAny_pure ?_)
  refine wpAny_bind (m := Builtin.Frozenset.isAnySet (.ref b)) ?_
  unfold Builtin.Frozenset.isAnySet
  refine wpAny_bind (wpAny_isInstance (T := "set") tb sub_set_self (wpAny_pure ?_))
  simp only [Bool.not_true, Bool.false_eq_true, ↓reduceIte]
  refine wpAny_bind (wpAny_pure (wpAny_bind (wpAny_pure ?_)))
  unfold Builtin.Frozenset.sizeOf
  refine wpAny_bind (wpAny_bind (wpAny_setEntries_of ho hd hf (wpAny_pure ?_)))
  refine wpAny_bind (wpAny_bind (wpAny_setEntries_of ho' hd' hf' (wpAny_pure ?_)))
  refine wpAny_bind ?_
  by_cases len : (dd xs).length = (dd ys).length
  · have e : (es.size != es'.size) = false := by rw [hn, hn', len]; exact bne_self_eq_false _
    rw [e]
    simp only [Bool.false_eq_true, ↓reduceIte]
    refine wpAny_bind (wpAny_bind (wpAny_isInstance (T := "set") ta PySem.F.sub_set_frozenset (wpAny_pure ?_)))
    simp only [Bool.false_eq_true, ↓reduceIte]
    refine subset_of ha hb len (wpAny_pure ⟨_, rfl, ⟨(fun z => nomatch z), ?_⟩⟩)
    have : decide ((∀ k ∈ xs, k ∈ ys) ∧ ∀ k ∈ ys, k ∈ xs) = decide (∀ k ∈ xs, k ∈ ys) := decide_eq_decide.mpr ⟨fun z => z.1, fun z => ⟨z, same_of len z⟩⟩
    rw [← this]
    exact h
  · have e : (es.size != es'.size) = true := by rw [hn, hn']; exact bne_iff_ne.mpr len
    rw [e]
    simp only [↓reduceIte]
    refine wpAny_pure (wpAny_pure ⟨_, rfl, ⟨(fun z => nomatch z), ?_⟩⟩)
    rw [decide_eq_false (fun z => len (len_of z.1 z.2))] at h
    exact h
end
end KSet
set_option Elab.async false
set_option linter.all false
set_option maxRecDepth 100000
/-! The layer's rules for what stands in this program and in no module: sets of texts, sorted of a tuple of texts, k not in d.values(). -/
namespace KRule
open PySem PySem.Spec PyProof.Rows L2
/-- the set of the texts xs at a -/
def SetT (P : Program) (w : World) (a : Addr) (xs : List Str) : HO := .ext fun h => KSet.Holds P w h a xs
section
variable {X : Cx}
theorem setT_ok {w : World} {P : Program} {H : Hp} {h : Heap} {a : Addr} {xs : List Str} (R : KSet.Holds P w h a xs) : ObjOk P w H h a (SetT P w a xs) := by
  obtain ⟨o, _, _, _, ho, _⟩ := id R
  exact ⟨R, ⟨o, ho⟩, fun h1 h2 p k => KSet.moves p fun o q => k o q⟩
theorem setT_get {pins : List (Addr × Obj)} {σ : L2.St} {H : Hp} {s : Shared} {a : Addr} {xs : List Str} (I : Inv X pins σ H s) (ha : H a = some (SetT X.prog X.w a xs)) : KSet.Holds X.prog X.w s.heap a xs := (I.hok a _ ha).1
theorem texts_of : ∀ {ys : List Str} {us : List Value}, Vals (ys.map V.str) us → StrsAre us ys
  | [], _, .nil => .nil
  | y :: ys, _, .cons ⟨k, e⟩ t => by
    subst e
    exact .cons y k (texts_of t)
/-- set(t), t a tuple of texts -/
def rSetT (X : Cx) : List V → Hp → VK → Prop := fun vs H Q => ∃ (l : Addr) (xs : List Str), vs = [V.ref l] ∧ SqT X.K H l (xs.map V.str) ∧ xs.length + 1 < scanBound ∧ ∀ p, H p = none → Q (.ref p) (upd H p (SetT X.prog X.w p xs))
theorem cr_setT (hc : X.calm = true) : CallR X (.type "set") (rSetT X) := by
  intro pins s σ H vs us Q I r h
  obtain ⟨l, xs, rfl, hT, room, q⟩ := h
  rw [Vals.ref1 r]
  obtain ⟨its, rv, pl, _⟩ := I.tuple hT
  refine KSet.set_of_tuple (I.ok.hd hc) pl (texts_of (by simpa using rv)) room fun h' tk hS keep => ?_
  exact ⟨.ref _, upd H s.heap.objs.size (SetT X.prog X.w s.heap.objs.size xs), I.laid (t' := tk) (fun b u e => keep b u (Heap.lt_size e) e) (Nat.le_refl _) (setT_ok hS), rfl, q _ (I.hok.fresh (Nat.le_refl _))⟩
/-- len(s), s a set of texts -/
def rLenT (X : Cx) : List V → Hp → VK → Prop := fun vs H Q => ∃ (a : Addr) (xs : List Str), vs = [V.ref a] ∧ H a = some (SetT X.prog X.w a xs) ∧ Q (.int ((KSet.dd xs).length : Nat)) H
theorem cr_lenT : CallR X (.builtin "len") (rLenT X) := by
  intro pins s σ H vs us Q I r h
  obtain ⟨a, xs, rfl, ha, q⟩ := h
  rw [Vals.ref1 r]
  obtain ⟨o, es, ep, t, ho, hex, hd, _, _, hb, hf, hn⟩ := setT_get I ha
  refine call_len_set ho hex hd hf (by have e : scanBound = 4096 := rfl; omega) ⟨.int ((KSet.dd xs).length : Nat), H, I.tok _, ⟨_, by rw [hn]⟩, q⟩
/-- s == t, two sets of texts -/
def rEqT (X : Cx) : V → V → Hp → VK → Prop := fun x y H Q => ∃ (a b : Addr) (xs ys : List Str), x = .ref a ∧ y = .ref b ∧ H a = some (SetT X.prog X.w a xs) ∧ H b = some (SetT X.prog X.w b ys) ∧
  Q (.bl (decide ((∀ k ∈ xs, k ∈ ys) ∧ ∀ k ∈ ys, k ∈ xs))) H
theorem op_eqT (hu : X.A.units < cLine) : OpR X (compareOp .Eq) (rEqT X) := by
  intro pins s σ H x y v u Q I rx ry h
  obtain ⟨a, b, xs, ys, rfl, rfl, ha, hb, q⟩ := h
  cases rx
  cases ry
  exact KSet.eq_sets (setT_get I ha) (setT_get I hb) hu ⟨.bl _, H, I, rfl, q⟩
/-- sorted(t), t a tuple or a list of texts, fewer than 64 -/
def rSortT (X : Cx) : List V → Hp → VK → Prop := fun vs H Q => ∃ (a : Addr) (xs : List Str), vs = [V.ref a] ∧ SqT X.K H a (xs.map V.str) ∧ xs.length < 64 ∧ ∀ (ys : List Str) (p : Addr), ys.Perm xs → sortedS ys = true → H p = none → Q (.ref p) (upd H p (.lst (ys.map V.str)))
theorem cr_sortT : CallR X (.builtin "sorted") (rSortT X) := by
  intro pins s σ H vs us Q I r h
  obtain ⟨a, xs, rfl, hT, h64, q⟩ := h
  rw [Vals.ref1 r]
  obtain ⟨its, rv, pl, hz⟩ := I.tuple hT
  have hS : StrsAre its xs := texts_of rv
  have hl : its.length = xs.length := StrsAre.len_eq hS
  obtain ⟨ob, hob, hcl, n, hdt⟩ := pl
  refine Calls.call_function_entry kind_sorted plain_sorted entry_sorted (args_sorted1 _) ?_
  unfold Builtin.«sorted»
  refine wpAny_bind (m := checkCount "sorted" 1 1 _) (wpAny_pure ?_)
  refine wpAny_bind (wpAny_collect_seq a (.inr rfl) hob hcl hdt (fun h' keep => ?_) (by rw [List.size_toArray, hl, sizeLine_eq]; omega))
  have I1 : Inv X pins σ H { s with heap := h' } := I.kept (t' := s.toks) keep
  refine wpAny_bind (wpAny_newList ?_ (by rw [Array.length_toList, List.size_toArray, hl, sizeLine_eq]; omega))
  have new : (h'.push (seqObj "list" its.toArray.toList.toArray 0)).get? h'.objs.size = some (seqObj "list" its.toArray.toList.toArray 0) := Heap.get?_push_size _ rfl
  show wpAny _ _ _ _ _ { s with heap := h'.push (seqObj "list" its.toArray.toList.toArray 0) }
  have hS2 : StrsAre its.toArray.toList xs := hS
  refine wpAny_bind (wpAny_holding (wpAny_call_entry slot_list_sort ⟨_, new, rfl⟩ entry_list_sort
    (list_sort_treeK strKind_oneLt (s := { s with heap := h'.push (seqObj "list" its.toArray.toList.toArray 0) }) new hS2.keysOf (fun v₁ v₂ rest e => keyKind_strs (by rw [← e]; exact hS2)) (by rw [StrsAre.len_eq hS2]; exact h64) fun st' hp hs => ⟨_, rfl, ?_⟩)
    (args_list_sort _)))
  obtain ⟨ys, g1, g2, g3⟩ := sorted_out_str hS2 hp hs
  obtain ⟨ep, at'⟩ := sortedHeap_at (vs := its.toArray.toList) (out := (arrOf st').map (·.2)) new
  have few : (ys.map V.str).length ≤ sizeLine := by
    rw [List.length_map, g2.length_eq]; exact small64 h64
  refine wpAny_pure ⟨_, rfl, .ref h'.objs.size, upd H h'.objs.size (.lst (ys.map V.str)), I1.laid (t' := s.toks) (fun b u e => ?_) (Nat.le_refl _)
    (show ObjOk X.prog X.w _ _ _ (.lst (ys.map V.str)) from ⟨few, ((arrOf st').map (·.2)).toList, ep, vals_of_strs g1, by rw [Array.toArray_toList]; exact at'⟩), rfl, q ys _ g2 g3 (I1.hok.fresh (Nat.le_refl _))⟩
  have below : b < h'.objs.size := Heap.lt_size e
  rw [sortedHeap_old (Nat.ne_of_lt below) (by rw [size_push']; exact Nat.lt_succ_of_lt below)]
  exact Heap.get?_push_of_some _ e
end
/-! ### k not in d.values() -/
theorem entry_in_iter : entryFor table "proto.contains_iter" = some Builtin.«proto.contains_iter» := entryFor_of_tree (by kernel_rfl)
theorem plain_in_iter : plainId "proto.contains_iter" = true := by decide +kernel
theorem no_contains : typeLookup (.type "dict_values") "__contains__" = pure none := by rw [typeLookup_type, builtinLookup_eq_fast]; kernel_rfl
section
variable {prog : Program} {w : World} {A : Around} {R : Result → Shared → Prop} {I : Addr} {fp wr : List Addr} {G : Array GenState → Array GenState → Prop} {n : Nat} {P : Nat → Value → Prop} {St : Nat → Shared → Prop}
/-- the search along a walk of ints -/
theorem finds (W : WalksS prog w A.in1 I fp wr G n P St) {ns : List Int} (len : ns.length = n) (is : ∀ i v, P i v → ∃ t k, ns[i]? = some k ∧ v = .int k t) {k : Int} {t : Tok} :
    ∀ (left i : Nat) (s : Shared), i + left = n → St i s → k ∉ ns.take i → (∀ s', Moved wr G s s' → R (.ok (.ret (.bool (decide (k ∈ ns))))) s') →
      codeAny (model prog w) A (.builtin "proto.contains_iter" ⟨[.ref I, .int k t], []⟩) R s := by
  intro left
  induction left with
  | zero =>
    intro i s e st no fin
    have ei : i = n := by omega
    rw [ei] at st no
    rw [← len, List.take_length] at no
    rw [decide_eq_false no] at fin
    refine codeAny_builtin entry_in_iter ?_
    rw [Around.under_plainId plain_in_iter _]
    exact wpAny_bind (W.done s _ _ st fun s' mv => wpAny_bind (wpAny_rule (wpAny_pure (fin s' mv))))
  | succ left ih =>
    intro i s e st no fin
    have lt : i < n := by omega
    refine codeAny_builtin entry_in_iter ?_
    rw [Around.under_plainId plain_in_iter _]
    refine wpAny_bind (W.item i s _ _ lt st fun v s' yv st' mv => ?_)
    obtain ⟨u, j, hj, rfl⟩ := is i v yv
    refine wpAny_bind (wpAny_eqBool_int ?_)
    by_cases c : j = k
    · have hk : k ∈ ns := by rw [← c]; exact List.mem_of_getElem? hj
      rw [decide_eq_true hk] at fin
      rw [c, beq_self_eq_true]
      exact wpAny_bind (wpAny_rule (wpAny_pure (fin s' mv)))
    · rw [beq_eq_false_iff_ne.mpr c]
      refine wpAny_pure ⟨plainId_quiet plain_in_iter _, ih (i + 1) s' (by omega) st' (fun z => ?_) fun s2 mv2 => fin s2 (Moved.trans W.gtrans mv mv2)⟩
      rw [List.take_add_one, hj] at z
      rcases List.mem_append.mp z with z | z
      · exact no z
      · exact c (List.mem_singleton.mp z).symm
end
/-- the values' view at p of the dict at a -/
def ViewV (p a : Addr) : HO := .ext fun h => h.get? p = some { cls := .type "dict_values", data := .fields #[.ref a] }
section
variable {X : Cx}
theorem viewV_ok {P : Program} {w : World} {H : Hp} {h : Heap} {p d : Addr} (e : h.get? p = some { cls := .type "dict_values", data := .fields #[.ref d] }) : ObjOk P w H h p (ViewV p d) := ⟨e, ⟨_, e⟩, fun h1 h2 q k => k _ q⟩
/-- k not in v, v a view of a dict's values, ints -/
def rNotInV : V → V → Hp → VK → Prop := fun x y H Q => ∃ (k : Int) (p a : Addr) (kvs : List (Key × V)) (ns : List Int), x = .int k ∧ y = .ref p ∧ H p = some (ViewV p a) ∧ H a = some (.dK kvs) ∧ kvs.map (·.2) = ns.map V.int ∧ Q (.bl (!decide (k ∈ ns))) H
theorem op_notInV (hc : X.calm = true) : OpR X (compareOp .NotIn) rNotInV := by
  intro pins s σ H x y v u Q I rx ry h
  obtain ⟨k, p, a, kvs, ns, rfl, rfl, hp, ha, hv, q⟩ := h
  obtain ⟨t, rfl⟩ := rx
  cases ry
  have gp : s.heap.get? p = some { cls := .type "dict_values", data := .fields #[.ref a] } := (I.hok p _ hp).1
  have view : s.heap.IsValuesView p a := ⟨_, gp, rfl, rfl⟩
  obtain ⟨_, _, vs, rel, dof⟩ := dk_of I.hok ha
  obtain ⟨ep, dat⟩ := dof.dictAt
  have below : a < s.heap.objs.size := by
    obtain ⟨ob, es, ho, _⟩ := id dat
    exact Heap.lt_size ho
  have len : ns.length = vs.length := by
    have e1 := congrArg List.length hv
    rw [List.length_map, List.length_map] at e1
    rw [← e1]
    exact KV.length rel
  have is : ∀ (i : Nat) (v : Value), (∃ k, vs[i]? = some (k, v)) → ∃ t k, ns[i]? = some k ∧ v = Value.int k t := fun i v ⟨k, hk⟩ => by
    obtain ⟨x, h1, h2⟩ := KV.at' rel hk
    have e1 : (kvs.map (·.2))[i]? = some x := by rw [List.getElem?_map, h1] <;> rfl
    rw [hv, List.getElem?_map] at e1
    obtain ⟨j, hj, e2⟩ := Option.map_eq_some_iff.mp e1
    subst e2
    obtain ⟨t, e3⟩ := h2
    exact ⟨t, j, hj, e3⟩
  show wpAny (model X.prog X.w) X.A (contains (.ref p) (.int k t) >>= fun b => pure (Value.bool (!b))) _ _ s
  refine wpAny_bind ?_
  unfold contains
  refine wpAny_holding ?_
  refine wpAny_bind (wpAny_specialOf view.typeIs no_contains ?_)
  show wpAny _ _ (if ((none : Option Value) == some Value.none) = true then _ else _) _ _ s
  rw [if_neg (by decide)]
  refine wpAny_bind ?_
  unfold callSpecialUnlessNone?
  refine wpAny_bind (wpAny_specialOf view.typeIs no_contains (wpAny_pure ?_))
  refine wpAny_bind (wpAny_rule (wpAny_bind (wpAny_tryCatch ?_)))
  refine wpAny_pyIter_values view dat ?_
  have W := (Walks.dictValues (prog := X.prog) (w := X.w) (knd := mixKind X.prog X.w) (A := X.A.in1) (I.ok.hd hc) s.heap.objs.size a (Nat.ne_of_lt below) vs ep).toS
  refine wpAny_bind (wpAny_runValue (finds W len is vs.length 0 _ (Nat.zero_add _) ?_ (by simp) fun s' mv => ?_))
  · exact ⟨⟨_, Heap.get?_push_size _ rfl, rfl, rfl⟩, dat.keep fun b u e => Heap.get?_push_of_some _ e⟩
  · obtain ⟨h', g', d', tk', os'⟩ := s'
    obtain rfl : g' = s.gens := mv.gens
    obtain rfl : d' = s.drawn := mv.drawn
    obtain rfl : os' = s.os := mv.os
    refine wpAny_pure (wpAny_pure ⟨.bl (!decide (k ∈ ns)), H, I.kept (t' := tk') fun b u e => ?_, rfl, q⟩)
    refine mv.heap b u (fun z => ?_) (Heap.get?_push_of_some _ e)
    rw [List.mem_singleton] at z
    exact Nat.ne_of_lt (Heap.lt_size e) z
/-- o.values(), a dict with keys of ints and texts -/
def tVals (td : TE) : TE := fun σ H Q => td σ H fun x H1 => ∃ a kvs, x = V.ref a ∧ H1 a = some (.dK kvs) ∧ ∀ p, H1 p = none → Q (.ref p) (upd H1 p (ViewV p a))
theorem pe_vals {o : Expr} {apos mpos : Pos} {td : TE} (hd : PE X o td) (hbase : attributeBase o "values" X.env (eval o X.env) = eval o X.env := by rfl) (hline : (apos.endLine == mpos.line) = true := by rfl) :
    PE X (.Call (.Attribute o "values" apos) [] [] mpos) (tVals td) := by
  refine ⟨fun pins s σ H Q I h => ?_⟩
  refine wpAny_Call_method0_late hbase hline (thn (hd.run pins s σ H _ I h) fun v s1 ⟨x, H1, I1, r1, a, kvs, ex, ha, q⟩ => ?_)
  subst ex
  obtain rfl : v = Value.ref a := r1
  obtain ⟨_, hsys, vs, rel, dof⟩ := dk_of I1.hok ha
  obtain ⟨ep, dat⟩ := id dof.dictAt
  obtain ⟨ob, es, ho, ex, hdat, hko, hpr, hnd⟩ := id dat
  refine ⟨"dict", "dict.values", F.plainAttrs_dict, F.slot_dict_values, F.type_dict_values, ⟨ob, ho, ex.1⟩, fun b e => ?_, Calls.callWith_builtin rfl (PySem.evalArgs_none ?_)⟩
  · cases e
    exact ⟨ob, ho, ex.2.1⟩
  refine call_meetsIn F.slot_dict_values ⟨ob, ho, ex.1⟩ F.entry_dict_values (F.args_dict_values_1 _) (meets_dict_values (mixKind X.prog X.w) a hsys) ⟨⟨vs, dof⟩, ?_⟩
  exact ⟨.ref _, upd H1 s1.heap.objs.size (ViewV s1.heap.objs.size a), I1.laid (t' := s1.toks) (fun b u e => Heap.get?_push_of_some _ e) (Nat.le_refl _) (viewV_ok (Heap.get?_push_size _ rfl)), rfl, q _ (I1.hok.fresh (Nat.le_refl _))⟩
end
end KRule
set_option Elab.async false
set_option linter.all false
set_option maxRecDepth 100000
/-! Walks over what is a list or a tuple (the kind is a letter): for, comprehensions, enumerate. -/
namespace KIt
open PySem PySem.Spec PyProof.Rows L2
/-- a list, or a tuple -/
def seqO (b : Bool) (xs : List V) : HO := if b = true then .lst xs else .tup xs
/-- at a stands a list (b) or a tuple -/
abbrev Sq (H : Hp) (b : Bool) (a : Addr) (xs : List V) : Prop := H a = some (seqO b xs)
theorem Sq.either {K : PySem.W.Frag} {H : Hp} {b : Bool} {a : Addr} {xs : List V} (h : Sq H b a xs) : SqL K H a xs ∨ SqT K H a xs := by
  cases b
  · exact .inr (.inl (.inl h))
  · exact .inl (.inl (.inl h))
def Itb (K : PySem.W.Frag) (b : Bool) (a : Addr) : It := if b = true then Itl K a else Itt K a
section
variable {X : Cx} {tg : Expr}
def iSeq (K : PySem.W.Frag) (tl : TE) : TI := fun σ H R => tl σ H fun x H1 => ∃ (b : Bool) (a : Addr) (xs : List V), x = .ref a ∧ Sq H1 b a xs ∧ R (Itb K b a) H1
theorem pi_seq {l : Expr} {tl : TE} (hl : PE X l tl) : PI X tg l (iSeq X.K tl) := by
  refine ⟨fun pins s σ H R I h => ?_⟩
  refine thn (hl.run pins s σ H _ I h) fun v s1 ⟨x, H1, I1, r1, b, a, xs, e, hq, q⟩ => ?_
  subst e
  cases r1
  have lay : ∀ (o : Obj), Inv X pins σ H1 { s1 with heap := s1.heap.push o } := fun o => I1.kept (t' := s1.toks) fun b u e => Heap.get?_push_of_some _ e
  have free : ∀ c ∈ [s1.heap.objs.size], FpOk X pins H1 c := fun c hc => by
    rw [List.mem_singleton] at hc
    rw [hc]
    exact I1.fpOk (Nat.le_refl _) (I1.hok.fresh (Nat.le_refl _))
  cases b with
  | false =>
    have hT : SqT X.K H1 a xs := .inl (.inl hq)
    obtain ⟨its, rv, p, hz⟩ := I1.tuple hT
    refine wpAny_pyIter_tuple (show s1.heap.IsTuple a its.toArray from p) ?_
    exact ⟨_, _, _, _, H1, rfl, lay _, turn_tuple a _, ⟨_, Heap.get?_push_size _ rfl, rfl, rfl⟩, free, q⟩
  | true =>
    have hL : SqL X.K H1 a xs := .inl (.inl hq)
    obtain ⟨its, rv, p, hz⟩ := I1.list hL
    refine wpAny_pyIter_list p.isList ?_
    exact ⟨_, _, _, _, H1, rfl, lay _, turn_list a _, ⟨_, Heap.get?_push_size _ rfl, rfl, rfl⟩, free, q⟩
end
/-- for over a list or tuple that stands still -/
theorem for_seq {K : PySem.W.Frag} {b : Bool} {a : Addr} {xs : List V} {g : TG} {tb : TS} {D : Ends} {σ : L2.St} {H : Hp} (Pv : Nat → L2.St → Hp → Prop) (h0 : Pv 0 σ H) (hl : ∀ i σ H, i ≤ xs.length → Pv i σ H → Sq H b a xs)
    (hs : ∀ i x σ H, xs[i]? = some x → Pv i σ H → g x σ H fun σ2 H2 => tb { D with nx := Pv (i + 1), ct := Pv (i + 1), bk := D.nx } σ2 H2) (hd : ∀ σ H, Pv xs.length σ H → D.nx σ H) :
    ∃ W : Nat → Nat → L2.St → Hp → Prop, (∃ m, W 0 m σ H) ∧ ∀ i m σ H, W i m σ H → ((Itb K b a).stop i H ∧ D.nx σ H) ∨
      ((Itb K b a).go i H ∧ ∃ N : L2.St → Hp → Prop, (∀ σ' H', N σ' H' → ∃ m', m' < m ∧ W (i + 1) m' σ' H') ∧ ∀ x H', (Itb K b a).yld i H x H' → g x σ H' fun σ2 H2 => tb { D with nx := N, ct := N, bk := D.nx } σ2 H2) := by
  cases b
  · exact for_tup Pv h0 (fun i σ H hi p => .inl (.inl (hl i σ H hi p))) hs hd
  · exact for_list Pv h0 (fun i σ H hi p => .inl (.inl (hl i σ H hi p))) hs hd
/-- a comprehension over such -/
theorem lc_seq {K : PySem.W.Frag} {b : Bool} {a : Addr} {xs : List V} {g : TG} {tt : TT} {te : TE} {vs : List Nat} {σ : L2.St} {H1 : Hp} {D : Addr} {Qd : Hp → Prop} (Pv : Nat → Hp → Prop) (h0 : Pv 0 (upd H1 D (.lst []))) (hl : ∀ i H, i ≤ xs.length → Pv i H → Sq H b a xs)
    (hs : ∀ i x H, xs[i]? = some x → Pv i H → g x (wipe σ vs) H fun σ2 H2 => wipe σ2 vs = wipe σ vs ∧ tt σ2 H2 fun c H3 =>
      if c = true then te σ2 H3 fun y H4 => ∃ acc, H4 D = some (.lst acc) ∧ acc.length < sizeLine ∧ Pv (i + 1) (upd H4 D (.lst (acc ++ [y]))) else Pv (i + 1) H3) (hd : ∀ H, Pv xs.length H → Qd H) :
    ∃ W : Nat → Nat → Hp → Prop, (∃ m, W 0 m (upd H1 D (.lst []))) ∧ ∀ i m H, W i m H →
      ((Itb K b a).stop i H ∧ Qd H) ∨ ((Itb K b a).go i H ∧ ∃ Nx : Hp → Prop, (∀ H', Nx H' → ∃ m', m' < m ∧ W (i + 1) m' H') ∧ ∀ x H', (Itb K b a).yld i H x H' → g x (wipe σ vs) H' fun σ2 H2 => wipe σ2 vs = wipe σ vs ∧ tt σ2 H2 fun c H3 =>
        if c = true then te σ2 H3 fun y H4 => ∃ acc, H4 D = some (.lst acc) ∧ acc.length < sizeLine ∧ Nx (upd H4 D (.lst (acc ++ [y]))) else Nx H3) := by
  cases b
  · exact lc_tup Pv h0 (fun i H hi p => .inl (.inl (hl i H hi p))) hs hd
  · exact lc_list Pv h0 (fun i H hi p => .inl (.inl (hl i H hi p))) hs hd
/-! ### enumerate of a tuple -/
set_option maxHeartbeats 1000000 in
theorem new_enum (l : Addr) (items : Array Value) (n : Nat) (dct : Option Addr) (sl : Array (Option Value)) :
    Meets (Builtin.«enumerate.__new__» ⟨[.type "enumerate", .ref l], []⟩) (fun _ R s => s.heap.get? l = some { cls := .type "tuple", dict := dct, data := .seq items n, slots := sl } ∧
      R (.ok (.ret (.ref (s.heap.push { cls := .type "tuple_iterator", data := .fields #[.ref l, .int 0 0] }).objs.size)))
        { s with heap := (s.heap.push { cls := .type "tuple_iterator", data := .fields #[.ref l, .int 0 0] }).push { cls := .type "enumerate", data := .fields #[.none, .bool false, .ref s.heap.objs.size, rawInt 0, .none, .none] } }) :=
  .of_wp fun prog w A R s h => by
    obtain ⟨hp, g, d, tk, os⟩ := s
    obtain ⟨hl, h⟩ := h
    have hsub := sub_enumerate
    have tup : Heap.IsTuple (Shared.heap ⟨hp, g, d, tk, os⟩) l items := ⟨_, hl, rfl, n, rfl⟩
    have q1 : ∀ {A' : Around} {E : Value → Shared → Prop} {Q : Value → Shared → Prop}, Q (.ref hp.objs.size) ⟨hp.push { cls := .type "tuple_iterator", data := .fields #[.ref l, .int 0 0] }, g, d, tk, os⟩ → wpAny (model prog w) A' (pyIter (.ref l)) Q E ⟨hp, g, d, tk, os⟩ :=
      fun q => wpAny_pyIter_tuple tup q
    wp_walk using q1
    refine wpAny_stack_any fun st => wpAny_pure ?_
    split
    · rename_i c _ _ _ _ _
      cases (c == Value.type "enumerate")
      · wp_walk using q1
        exact ⟨_, rfl, h⟩
      · wp_walk using q1
        exact ⟨_, rfl, h⟩
    · wp_walk using q1
      exact ⟨_, rfl, h⟩
section
variable {prog : Program} {w : World} {A : Around} {E : Value → Shared → Prop} {s : Shared}
theorem call_enum_tuple {l : Addr} {items : Array Value} {Q : Value → Shared → Prop} (tup : s.heap.IsTuple l items)
    (h : ∀ h', IsEnum h' (s.heap.objs.size + 1) s.heap.objs.size 0 .none → h'.IsTupleIter s.heap.objs.size l 0 → 
      (∀ b o, s.heap.get? b = some o → h'.get? b = some o) → Q (.ref (s.heap.objs.size + 1)) { s with heap := h' }) :
    wpAny (model prog w) A (call (.type "enumerate") [.ref l]) Q E s := by
  obtain ⟨⟨c, dct, dt, sl⟩, hl, hc, n, hd⟩ := tup
  obtain rfl : c = .type "tuple" := hc
  obtain rfl : dt = .seq items n := hd
  refine callType_new F.called_enumerate (by decide) (F.typeCall_enumerate_1 _) (F.newCall_enumerate_1 _) (fun obj => F.args_object_init_2 obj _) F.entry_enumerate_new
    (new_enum l items n dct sl) ⟨hl, ?_⟩
  let o1 : Obj := { cls := .type "tuple_iterator", data := .fields #[.ref l, .int 0 0] }
  let o2 : Obj := { cls := .type "enumerate", data := .fields #[.none, .bool false, .ref s.heap.objs.size, rawInt 0, .none, .none] }
  have size : (s.heap.push o1).objs.size = s.heap.objs.size + 1 := Heap.size_push ..
  have at2 : ((s.heap.push o1).push o2).get? (s.heap.objs.size + 1) = some o2 := by
    have q := Heap.get?_push_size (s.heap.push o1) (o := o2) rfl
    rw [size] at q
    exact q
  show _ ∧ _
  rw [size]
  exact ⟨⟨o2, at2, rfl⟩, h _ at2 ⟨o1, Heap.get?_push_of_some _ (Heap.get?_push_size _ rfl), rfl, rfl⟩ fun b o x => Heap.get?_push_of_some _ (Heap.get?_push_of_some _ x)⟩
end
/-- the tuple at a, each item in a new pair with its number -/
def Iet (K : PySem.W.Frag) (a : Addr) : It :=
  ⟨fun i H => ∃ (xs : List V) (x : V), SqT K H a xs ∧ xs[i]? = some x, fun i H v H' => ∃ T x, v = .ref T ∧ H T = none ∧ H' = upd H T (.tup [.int (i : Nat), x]) ∧ ∀ xs, SqT K H a xs → xs[i]? = some x, fun i H => ∃ xs : List V, SqT K H a xs ∧ xs.length ≤ i⟩
theorem turn_enumT {P : Program} {w : World} {K : PySem.W.Frag} {elts : List Expr} {kk : Nat} {tpos : Pos} (a e it : Addr) :
    Turn P w K (.Tuple elts kk tpos) (Iet K a) [e, it] e (fun i h => (∃ old, IsEnum h e it ((i : Nat) : Int) old) ∧ h.IsTupleIter it a i ∧ e ≠ it) where
  mem := by simp
  obj := fun i h st b hb => by
    obtain ⟨⟨old, he⟩, ⟨o, ho, hc, hd⟩, _⟩ := st
    rcases List.mem_cons.mp hb with z | z
    · rw [z]; exact ⟨_, he, fun v q => nomatch q⟩
    · rw [List.mem_singleton.mp z]; exact ⟨o, ho, fun v q => by rw [hd] at q; exact nomatch q⟩
  keep := fun i h h' st k => let ⟨⟨old, he⟩, hi, hne⟩ := st; ⟨⟨old, k e (by simp) _ he⟩, hi.at fun o q => k it (by simp) o q, hne⟩
  item := by
    intro X hP hw hK hc i pins s σ H E I hf st hg
    subst hP hw hK
    obtain ⟨⟨old, he⟩, hit, hne⟩ := st
    obtain ⟨xs, x, hq, hx⟩ := hg
    obtain ⟨its, rv, p, hz⟩ := I.tuple hq
    obtain ⟨u, hu, ru⟩ := rv.get hx
    have tup : s.heap.IsTuple a its.toArray := p
    have hel : e < s.heap.objs.size := Heap.lt_size he
    have hil : it < s.heap.objs.size := by obtain ⟨_, q, _⟩ := hit; exact Heap.lt_size q
    -- the tuple is neither of the two
    have kind : ∀ b, (∃ o, s.heap.get? b = some o ∧ o.cls ≠ .type "tuple") → a ≠ b := fun b ⟨o, ho, hc⟩ z => by
      obtain ⟨o', ho', hc', _⟩ := tup
      rw [z, ho] at ho'
      exact hc (by rw [Option.some.inj ho']; exact hc')
    have ai : a ≠ it := kind it (let ⟨o, ho, hc, _⟩ := hit; ⟨o, ho, fun z => absurd (Value.type.inj (hc.symm.trans z)) (by decide)⟩)
    have ae : a ≠ e := kind e ⟨_, he, fun z => absurd (Value.type.inj z) (by decide)⟩
    have len : i < its.toArray.size := by
      have := (List.getElem?_eq_some_iff.mp hu).1
      rwa [List.size_toArray]
    refine wpAny_pyNext_enum_itemD (Draws.tuple (prog := X.prog) (w := X.w) (A := X.A.in1) (I.ok.hd hc) it a ai its.toArray) he ⟨hit, tup⟩ len hne (by
      intro z
      rcases List.mem_cons.mp z with z | z
      · exact hne z
      · exact ae (List.mem_singleton.mp z).symm) fun v h' tk hv ho hst hT hsz hk => ?_
    have ev : v = u := by
      have h1 : its.toArray[i]? = some u := by simpa using hu
      rw [h1] at hv
      exact (Option.some.inj hv).symm
    subst ev
    refine ⟨_, rfl, wpAny_letOwnedTupleGo_enum (s := { s with heap := h', toks := tk + 1 }) ho fun h'' he' sb => ?_⟩
    have at'' : h''.get? s.heap.objs.size = some { cls := .type "tuple", data := .seq #[.int i tk, v] } := (sb.2 _ (Nat.ne_of_gt hel)).trans hT
    have new : ObjOk X.prog X.w (upd H s.heap.objs.size (.tup [.int (i : Nat), x])) h'' s.heap.objs.size (.tup [.int (i : Nat), x]) :=
      ⟨by show 2 ≤ sizeLine; decide, [.int i tk, v], .cons ⟨_, rfl⟩ (.cons ru .nil), ⟨_, at'', rfl, _, rfl⟩⟩
    have I1 : Inv X pins σ (upd H s.heap.objs.size (.tup [.int (i : Nat), x])) { s with heap := h'', toks := tk + 1 } :=
      I.turnedNew (ch := [e, it]) (fun b ob hb q => (sb.2 b (fun z => hb (by simp [z]))).trans (hk b ob (fun z => hb (by simp [z])) (fun z => hb (by simp [z])) q)) hf (Nat.le_refl _) new
    refine ⟨.ref s.heap.objs.size, _, I1, rfl, ⟨_, x, rfl, I.hok.fresh (Nat.le_refl _), rfl, fun ys hy => by rw [I.tuple_inj hy hq]; exact hx⟩, ⟨⟨v, ?_⟩, hst.1.at fun o q => (sb.2 it (Ne.symm hne)).trans q, hne⟩, fun b hb => ?_⟩
    · have e1 : ((i + 1 : Nat) : Int) = (i : Int) + 1 := by omega
      rw [e1]; exact he'
    · have below : b < s.heap.objs.size := by
        rcases List.mem_cons.mp hb with z | z
        · rw [z]; exact hel
        · rw [List.mem_singleton.mp z]; exact hil
      rw [upd_ne (Nat.ne_of_lt below)]
      exact (hf b hb).1
  done := by
    intro X hP hw hK hc i pins s σ H E I hf st hg
    subst hP hw hK
    obtain ⟨⟨old, he⟩, hit, hne⟩ := st
    obtain ⟨xs, hq, hx⟩ := hg
    obtain ⟨its, rv, p, hz⟩ := I.tuple hq
    obtain ⟨f0, f1, f2, f3, f4, f5⟩ := hf it (by simp)
    have hl := rv.length
    have tup : s.heap.IsTuple a its.toArray := p
    have out : its.toArray[i]? = none := by rw [List.getElem?_toArray]; exact List.getElem?_eq_none (by omega)
    have D : Draws X.prog X.w X.A.in1 it [it, a] i (fun _ _ => False) (fun j h => j = i ∧ h.IsTupleIter it a i ∧ h.IsTuple a its.toArray) := {
      live := fun _ _ st => let ⟨_, ⟨o, ho, _⟩, _⟩ := st; ⟨o, ho⟩
      frame := fun _ _ _ st hk => ⟨st.1, st.2.1.at fun o e => hk it (by simp) o e, st.2.2.at fun o e => hk a (by simp) o e⟩
      item := fun j s' Q E hj st hQ => by
        rw [st.1] at hj
        exact absurd hj (Nat.lt_irrefl _)
      done := fun s' Q E st hE => wpAny_nextOf_tuple_end (I.ok.hd hc) st.2.1 st.2.2 out hE }
    exact wpAny_pyNext_enum_endD (n := i) D he ⟨rfl, hit, tup⟩ fun h' eb => ⟨rfl, I.turned (t' := s.toks) (fun b o hb q => eb b o hb q) f0 f1 f3 f4 f5⟩
  self := fun A i s Q E st h => let ⟨⟨_, he⟩, _⟩ := st; wpAny_pyIter_enum he h
def Ieb (K : PySem.W.Frag) (b : Bool) (a : Addr) : It := if b = true then Ite K a else Iet K a
def iEnumS (K : PySem.W.Frag) (ta : TA) : TI := fun σ H R => ta σ H fun vs H1 => ∃ (b : Bool) (a : Addr) (xs : List V), vs = [.ref a] ∧ Sq H1 b a xs ∧ R (Ieb K b a) H1
theorem pi_enumS {X : Cx} {e : Expr} {ta : TA} {p pos tpos : Pos} {elts : List Expr} {kk : Nat} (hg : Gl X "enumerate") (hm : X.mg "enumerate" = none) (ha : PA X [e] ta) (hs : starEach [e] X.env = [(false, eval e X.env)] := by rfl) :
    PI X (.Tuple elts kk tpos) (.Call (.Name "enumerate" p) [e] [] pos) (iEnumS X.K ta) := by
  refine ⟨fun pins s σ H R I h => ?_⟩
  refine Call_ (ld_blt I hg hm boot_enumerate (PyProof.Rows.callWith_type1 (thn (ha.run pos pins s σ H _ I h) fun us s1 ⟨vs, H1, I1, r1, b, a, xs, ex, hq, q⟩ => ?_) hs rfl))
  subst ex
  rw [Vals.ref1 r1]
  have free : ∀ c ∈ [s1.heap.objs.size + 1, s1.heap.objs.size], FpOk X pins H1 c := fun c hc => by
    have le : s1.heap.objs.size ≤ c := by
      rcases List.mem_cons.mp hc with z | z
      · rw [z]; exact Nat.le_succ _
      · rw [List.mem_singleton.mp z]; exact Nat.le_refl _
    exact I1.fpOk le (I1.hok.fresh le)
  cases b with
  | false =>
    have hT : SqT X.K H1 a xs := .inl (.inl hq)
    obtain ⟨its, rv, p', hz⟩ := I1.tuple hT
    refine call_enum_tuple (show s1.heap.IsTuple a its.toArray from p') fun h' he hit hk => wpAny_pyIter_enum he ?_
    exact ⟨s1.heap.objs.size + 1, [s1.heap.objs.size + 1, s1.heap.objs.size], _, _, H1, rfl, I1.kept (t' := s1.toks) hk, turn_enumT a _ _, ⟨⟨.none, he⟩, hit, Nat.succ_ne_self _⟩, free, q⟩
  | true =>
    have hL : SqL X.K H1 a xs := .inl (.inl hq)
    obtain ⟨its, rv, p', hz⟩ := I1.list hL
    refine call_enumerate_list p'.isList fun h' he hit hsz hk => wpAny_pyIter_enum he ?_
    exact ⟨s1.heap.objs.size + 1, [s1.heap.objs.size + 1, s1.heap.objs.size], _, _, H1, rfl, I1.kept (t' := s1.toks) hk, turn_enum a _ _, ⟨⟨.none, he⟩, hit, Nat.succ_ne_self _⟩, free, q⟩
/-- for k, x in enumerate(xs): the pair is a new tuple at T -/
theorem for_enumS {K : PySem.W.Frag} {b : Bool} {a : Addr} {xs : List V} {g : TG} {tb : TS} {D : Ends} {σ : L2.St} {H : Hp} (Pv : Nat → L2.St → Hp → Prop) (h0 : Pv 0 σ H) (hl : ∀ i σ H, i ≤ xs.length → Pv i σ H → Sq H b a xs)
    (hs : ∀ i x T σ H, xs[i]? = some x → Pv i σ H → H T = none → g (.ref T) σ (upd H T (.tup [.int (i : Nat), x])) fun σ2 H2 => tb { D with nx := Pv (i + 1), ct := Pv (i + 1), bk := D.nx } σ2 H2) (hd : ∀ σ H, Pv xs.length σ H → D.nx σ H) :
    ∃ W : Nat → Nat → L2.St → Hp → Prop, (∃ m, W 0 m σ H) ∧ ∀ i m σ H, W i m σ H → ((Ieb K b a).stop i H ∧ D.nx σ H) ∨
      ((Ieb K b a).go i H ∧ ∃ N : L2.St → Hp → Prop, (∀ σ' H', N σ' H' → ∃ m', m' < m ∧ W (i + 1) m' σ' H') ∧ ∀ x H', (Ieb K b a).yld i H x H' → g x σ H' fun σ2 H2 => tb { D with nx := N, ct := N, bk := D.nx } σ2 H2) := by
  refine ⟨fun i m σ H => i ≤ xs.length ∧ m = xs.length - i ∧ Pv i σ H, ⟨xs.length, Nat.zero_le _, by omega, h0⟩, fun i m σ H ⟨hi, em, p⟩ => ?_⟩
  have at' := hl i σ H hi p
  cases b with
  | false =>
    have hq : SqT K H a xs := .inl (.inl at')
    by_cases c : i < xs.length
    · refine .inr ⟨⟨xs, xs[i], hq, List.getElem?_eq_getElem c⟩, Pv (i + 1), fun σ' H' q => ⟨xs.length - (i + 1), by omega, by omega, rfl, q⟩, fun x H' y => ?_⟩
      obtain ⟨T, v, rfl, nT, rfl, hv⟩ := y
      exact hs i v T σ H (hv xs hq) p nT
    · have e : i = xs.length := by omega
      rw [e] at p
      exact .inl ⟨⟨xs, hq, by omega⟩, hd σ H p⟩
  | true =>
    have hq : SqL K H a xs := .inl (.inl at')
    by_cases c : i < xs.length
    · refine .inr ⟨⟨xs, xs[i], hq, List.getElem?_eq_getElem c⟩, Pv (i + 1), fun σ' H' q => ⟨xs.length - (i + 1), by omega, by omega, rfl, q⟩, fun x H' y => ?_⟩
      obtain ⟨T, v, rfl, nT, rfl, hv⟩ := y
      exact hs i v T σ H (hv xs hq) p nT
    · have e : i = xs.length := by omega
      rw [e] at p
      exact .inl ⟨⟨xs, hq, by omega⟩, hd σ H p⟩
end KIt
set_option Elab.async false
set_option linter.all false
set_option maxRecDepth 100000
/-! The text by places, and what all walks use. -/
namespace W44
open PySem PySem.Spec PyProof.Rows L2 KIt
def topS (i : Nat) : Stmt := PySem.Challenge.pw_stirround_k44_whole_fewest_lines.main.body.getD i (.Pass ⟨0, 0, 0, 0⟩)
/-! ### heaps -/
theorem same_new {H : Hp} {p : Addr} {o : HO} (h : H p = none) : Same H (upd H p o) := fun b u q => by rw [upd_ne (ne_of_none q h)]; exact q
theorem same_same {H H1 : Hp} {p : Addr} {o : HO} (s : Same H H1) (h : H1 p = none) : Same H (upd H1 p o) := s.trans (same_new h)
/-! ### loops as data -/
structure Lp where
  rule : Str
  gap : Int
  coming : List Str
def LpAt (H : Hp) (p : Addr) (l : Lp) : Prop := ∃ c, H p = some (.tup [.str l.rule, .int l.gap, .ref c]) ∧ H c = some (.tup (l.coming.map V.str))
theorem LpAt.same {H H' : Hp} {p : Addr} {l : Lp} (h : LpAt H p l) (s : Same H H') : LpAt H' p l := let ⟨c, a, b⟩ := h; ⟨c, s _ _ a, s _ _ b⟩
/-- some loops at some places -/
structure LpsAt (H : Hp) (ps : List Addr) (ls : List Lp) : Prop where
  len : ps.length = ls.length
  at' : ∀ (i : Nat) (p : Addr) (l : Lp), ps[i]? = some p → ls[i]? = some l → LpAt H p l
theorem LpsAt.same {H H' : Hp} {ps : List Addr} {ls : List Lp} (h : LpsAt H ps ls) (s : Same H H') : LpsAt H' ps ls := ⟨h.len, fun i p l a b => (h.at' i p l a b).same s⟩
/-- ints of numbers -/
abbrev nV (n : Nat) : V := .int (n : Int)
abbrev nsV (l : List Nat) : List V := l.map nV
/-! ### texts in a list -/
theorem inV_str (x : Str) : ∀ xs : List Str, inV (.str x) (xs.map V.str) = decide (x ∈ xs)
  | [] => rfl
  | y :: r => by
    have ih := inV_str x r
    unfold inV at ih ⊢
    rw [List.map_cons, List.any_cons, ih]
    have e : eqV (.str y) (.str x) = decide (y = x) := by
      show (y == x) = decide (y = x)
      by_cases h : y = x
      · rw [h, beq_self_eq_true, decide_eq_true rfl]
      · rw [beq_eq_false_iff_ne.mpr h, decide_eq_false h]
    rw [e]
    by_cases h : y = x
    · rw [decide_eq_true h, Bool.true_or, decide_eq_true (by rw [h]; exact List.mem_cons_self)]
    · rw [decide_eq_false h, Bool.false_or]
      by_cases h2 : x ∈ r
      · rw [decide_eq_true h2, decide_eq_true (List.mem_cons_of_mem _ h2)]
      · rw [decide_eq_false h2, decide_eq_false fun z => (List.mem_cons.mp z).elim (fun e => h e.symm) h2]
theorem flat_strs' (xs : List Str) : (xs.map V.str).all flatV = true := by
  rw [List.all_map, List.all_eq_true]
  exact fun _ _ => rfl
theorem inV_nat (k : Nat) : ∀ xs : List Nat, inV (nV k) (nsV xs) = decide (k ∈ xs)
  | [] => rfl
  | y :: r => by
    have ih := inV_nat k r
    unfold inV at ih ⊢
    rw [nsV, List.map_cons, List.any_cons, ih]
    have e : eqV (nV y) (nV k) = decide (y = k) := by
      show ((y : Int) == (k : Int)) = decide (y = k)
      by_cases h : y = k
      · rw [h, beq_self_eq_true, decide_eq_true rfl]
      · rw [beq_eq_false_iff_ne.mpr (fun z : (y : Int) = (k : Int) => h (Int.ofNat.inj z)), decide_eq_false h]
    rw [e]
    by_cases h : y = k
    · rw [decide_eq_true h, Bool.true_or, decide_eq_true (by rw [h]; exact List.mem_cons_self)]
    · rw [decide_eq_false h, Bool.false_or]
      by_cases h2 : k ∈ r
      · rw [decide_eq_true h2, decide_eq_true (List.mem_cons_of_mem _ h2)]
      · rw [decide_eq_false h2, decide_eq_false fun z => (List.mem_cons.mp z).elim (fun e => h e.symm) h2]
theorem flat_nats (xs : List Nat) : (nsV xs).all flatV = true := by
  rw [nsV, List.all_map, List.all_eq_true]
  exact fun _ _ => rfl
theorem map_at {α β : Type} {f : α → β} {xs : List α} {i : Nat} {y : β} (h : (xs.map f)[i]? = some y) : ∃ x, xs[i]? = some x ∧ y = f x := by
  rw [List.getElem?_map] at h
  obtain ⟨x, a, b⟩ := Option.map_eq_some_iff.mp h
  exact ⟨x, a, b.symm⟩
theorem at_map {α β : Type} {f : α → β} {xs : List α} {i : Nat} {x : α} (h : xs[i]? = some x) : (xs.map f)[i]? = some (f x) := by
  rw [List.getElem?_map, h] <;> rfl
theorem lt_of_at {α : Type} {xs : List α} {i : Nat} {x : α} (h : xs[i]? = some x) : i < xs.length := (List.getElem?_eq_some_iff.mp h).1
theorem take_snoc {α : Type} {xs : List α} {i : Nat} {x : α} (h : xs[i]? = some x) : xs.take (i + 1) = xs.take i ++ [x] := by rw [List.take_add_one, h] <;> rfl
theorem few {n : Nat} (h : n ≤ 1000) : n ≤ sizeLine := Nat.le_of_lt (small1000 h)
/-- an item of a list or tuple, by its number -/
theorem rIx_of {K : PySem.W.Frag} {H : Hp} {b : Bool} {a : Addr} {xs : List V} {i : Nat} {v : V} {Q : VK} (h : Sq H b a xs) (hv : xs[i]? = some v) (q : Q v H) : rIx K (.ref a) (nV i) H Q := by
  cases b
  · exact .inr (.inl ⟨a, xs, _, v, rfl, rfl, SqT.of h, atI_nat hv, q⟩)
  · exact .inl ⟨a, xs, _, v, rfl, rfl, SqL.of h, atI_nat hv, q⟩
theorem LpsAt.get {H : Hp} {ps : List Addr} {ls : List Lp} (h : LpsAt H ps ls) {i : Nat} (hi : i < ls.length) : ∃ p, ps[i]? = some p ∧ LpAt H p ls[i] := by
  have hp : i < ps.length := by rw [h.len]; exact hi
  exact ⟨ps[i], List.getElem?_eq_getElem hp, h.at' i _ _ (List.getElem?_eq_getElem hp) (List.getElem?_eq_getElem hi)⟩
/-- what the i-th of some loops has to come -/
def cOf (ls : List Lp) (i : Nat) : List Str := match ls[i]? with
  | some l => l.coming
  | none => []
theorem cOf_at {ls : List Lp} {i : Nat} (h : i < ls.length) : cOf ls i = ls[i].coming := by unfold cOf; rw [List.getElem?_eq_getElem h]
abbrev rLenQ (K : PySem.W.Frag) : List V → Hp → VK → Prop := fun xs H Q => ∃ p ys, xs = [.ref p] ∧ (SqL K H p ys ∨ SqT K H p ys) ∧ Q (.int ys.length) H
abbrev rListQ (K : PySem.W.Frag) : List V → Hp → VK → Prop := fun xs H Q => ∃ p ys, xs = [.ref p] ∧ (SqL K H p ys ∨ SqT K H p ys) ∧ ∀ l, H l = none → Q (.ref l) (upd H l (.lst ys))
end W44
set_option Elab.async false
set_option linter.all false
set_option maxRecDepth 100000
set_option maxHeartbeats 4000000
/-! is_within, stands_under -/
namespace W44
open PySem PySem.Spec PyProof.Rows L2 KIt
abbrev sWithin : Stmt := topS 11
theorem scWithin : FnScope ["one", "other", "have", "name"] ["one", "other"] (defScope sWithin) := ⟨rfl, rfl, rfl, by decide +kernel, rfl, by decide +kernel, by decide +kernel⟩
section
variable {P : Program} {w : World} {K : PySem.W.Frag} {mg : Str → Option Value} {base : Heap}
/-- is_within: whether all of the one's is the other's -/
def spWithin : Sp := fun vs H Q _ => ∃ (p q : Addr) (l m : Lp), vs = [.ref p, .ref q] ∧ LpAt H p l ∧ LpAt H q m ∧ l.coming.length ≤ 40 ∧ m.coming.length ≤ 40 ∧
  ∀ H', Same H H' → Q (.bl (l.coming.all fun x => decide (x ∈ m.coming))) H'
theorem ok_within {f : Addr} {fd : FuncData} {k : Nat} (F : Fun K "is_within" "is_within" sWithin f fd) (ma : mg "all" = none) : FnOk P w K mg base CX0 (k + 1) f fd ["one", "other"] spWithin := by
  refine F.ok scWithin (fun vs H Q E h => ?_) (fun cdv A outer s H vs Q E hr h => ?_)
  · obtain ⟨p, q, l, m, rfl, _⟩ := h
    rfl
  obtain ⟨p, q, l, m, rfl, ⟨c, hp, hc⟩, ⟨d, hq, hd⟩, hl, hm, fin⟩ := h
  have hu := hu_of hr
  refine ⟨_, pss_cons (ps_set (i := 2) scWithin.nd rfl (.inr rfl) pe_dnewK)
    (pss_cons (ps_for PassesOwn.never rfl (pi_tup (pe_ix ix_tup (pv 1) pe_int (fun _ _ => rfl))) (pg_name (i := 3) scWithin.nd rfl (.inl rfl))
      (pss_one (ps_dput hu (pv 2) (pv 3) pe_bl rfl)))
    (pss_one (ps_ret (pe_callB (cr_all rfl) (by rfl) ma (by decide +kernel) (pa_cons
      (pe_lc (own := [("name", 3)]) (g := gName 3) (tt := tYes) rfl scWithin.nd (pi_tup (pe_ix ix_tup (pv 0) pe_int (fun _ _ => rfl)))
        (blkOk_by (N := ["one", "other", "have", "name"]) (sc := defScope sWithin) (by decide +kernel)) (fun _ _ _ _ _ => pg_name (i := 3) scWithin.nd rfl (Or.inl rfl)) (fun _ _ _ _ _ => pts_nil)
        (fun _ _ _ _ _ => pe_cmp (pc_din hu (pv 3) (pv 2)) rfl)) pa_nil))))), ?_⟩
  intro hv nhv
  have s1 : Same H (upd H hv (.dK [])) := same_new nhv
  refine ⟨_, rfl, q, _, _, _, rfl, rfl, SqT.of (s1 _ _ hq), atI_nat (j := 2) rfl, d, rfl, ⟨_, SqT.of (s1 _ _ hd)⟩, ?_⟩
  refine for_tup (xs := m.coming.map V.str) (fun i σ H' => ∃ y kvs, σ = [some (.ref p), some (.ref q), some (.ref hv), y] ∧ Same H H' ∧ H' hv = some (.dK kvs) ∧ kvs.length ≤ i ∧ ∀ z : Str, (valV kvs (Sum.inr z)).isSome = decide (z ∈ m.coming.take i))
    ⟨none, [], rfl, s1, upd_same, Nat.le_refl _, fun z => by rw [List.take_zero]; rfl⟩ (fun i σ H' _ ⟨_, _, _, sm, _⟩ => SqT.of (sm _ _ hd)) (fun i x σ H' hx ⟨y, kvs, e, sm, hk, hlen, hval⟩ => ?_) (fun σ H' ⟨y, kvs, e, sm, hk, _, hval⟩ => ?_)
  · subst e
    obtain ⟨z, hz, rfl⟩ := map_at hx
    have hi := lt_of_at hz
    refine ⟨_, rfl, _, rfl, hv, _, rfl, DPut.k (k := Sum.inr z) hk (small1000 (by omega)), _, _, rfl, fun b u hb => ?_, upd_same, ?_, fun z' => ?_⟩
    · rw [upd_ne (ne_of_none hb nhv)]
      exact sm b u hb
    · have := length_putK kvs (Sum.inr z : Key) (.bl true)
      omega
    · rw [valV_put, take_snoc hz]
      by_cases c : z' = z
      · rw [if_pos (by rw [c]), decide_eq_true (by rw [c]; exact List.mem_append_right _ (List.mem_singleton.mpr rfl))]
        rfl
      · rw [if_neg (fun e => c (Sum.inr.inj e)), hval z']
        by_cases c2 : z' ∈ m.coming.take i
        · rw [decide_eq_true c2, decide_eq_true (List.mem_append_left _ c2)]
        · rw [decide_eq_false c2, decide_eq_false fun q => (List.mem_append.mp q).elim c2 fun q => c (List.mem_singleton.mp q)]
  · subst e
    rw [List.length_map, List.take_length] at hval
    refine ⟨_, rfl, p, _, _, _, rfl, rfl, SqT.of (sm _ _ hp), atI_nat (j := 2) rfl, c, rfl, ⟨_, SqT.of (sm _ _ hc)⟩, fun D nD => ?_⟩
    refine lc_tup (xs := l.coming.map V.str) (fun i H2 => Same H' H2 ∧ H2 D = some (.lst (((l.coming.take i).map fun x => decide (x ∈ m.coming)).map V.bl)))
      ⟨same_new nD, upd_same⟩ (fun i H2 _ q => SqT.of (q.1 _ _ (sm _ _ hc))) (fun i x H2 hx ⟨sm2, hD⟩ => ?_) (fun H2 ⟨sm2, hD⟩ => ?_)
    · obtain ⟨z, hz, rfl⟩ := map_at hx
      have hi := lt_of_at hz
      refine ⟨rfl, _, rfl, _, rfl, hv, _, rfl, DGet.k (k := Sum.inr z) (sm2 _ _ hk), _, hD, ?_, fun b u hb => ?_, ?_⟩
      · rw [List.length_map, List.length_map, List.length_take]
        exact small1000 (by omega)
      · rw [upd_ne (ne_of_none hb nD)]
        exact sm2 b u hb
      · rw [upd_same, hval z, take_snoc hz, List.map_append, List.map_append]
        rfl
    · rw [List.length_map, List.take_length] at hD
      refine ⟨D, _, rfl, SqL.of hD, ?_⟩
      have e : ((l.coming.map fun x => decide (x ∈ m.coming)).all id) = l.coming.all fun x => decide (x ∈ m.coming) := by rw [List.all_map]; rfl
      rw [e]
      exact fin H2 (sm.trans sm2)
end
end W44
set_option Elab.async false
set_option linter.all false
set_option maxRecDepth 100000
/-! Texts: their order, and data made of them. -/
namespace W44
open PySem PySem.Spec PyProof.Rows L2 KIt
theorem sorted_tail {x : Str} {r : List Str} (h : sortedS (x :: r) = true) : sortedS r = true := by
  cases r with
  | nil => rfl
  | cons y t =>
    have h : (!ltCps y.cps.toList x.cps.toList && risingS y t) = true := h
    rw [Bool.and_eq_true] at h
    exact h.2
theorem sorted_head : ∀ {r : List Str} {x : Str}, sortedS (x :: r) = true → ∀ y ∈ r, ¬ y.cps.toList < x.cps.toList
  | [], _, _, y, hy => by simp at hy
  | z :: t, x, h, y, hy => by
    have h' : (!ltCps z.cps.toList x.cps.toList && risingS z t) = true := h
    rw [Bool.and_eq_true, ltCps_eq] at h'
    have h1 : ¬ z.cps.toList < x.cps.toList := by simpa using h'.1
    rcases List.mem_cons.mp hy with e | hy
    · rw [e]; exact h1
    · have h2 := sorted_head (r := t) (x := z) h'.2 y hy
      have a : x.cps.toList ≤ z.cps.toList := List.not_lt.mp h1
      have b : z.cps.toList ≤ y.cps.toList := List.not_lt.mp h2
      exact List.not_lt.mpr (List.le_trans a b)
theorem sorted_pw : ∀ {l : List Str}, sortedS l = true → l.Pairwise fun a b => ¬ b.cps.toList < a.cps.toList
  | [], _ => List.Pairwise.nil
  | x :: r, h => List.pairwise_cons.mpr ⟨sorted_head h, sorted_pw (sorted_tail h)⟩
/-- two sorted lists of the same texts are one -/
theorem sorted_same {a b : List Str} (p : a.Perm b) (ha : sortedS a = true) (hb : sortedS b = true) : a = b := by
  refine p.eq_of_pairwise (fun x y _ _ h1 h2 => ?_) (sorted_pw ha) (sorted_pw hb)
  have e : x.cps.toList = y.cps.toList := List.le_antisymm (List.not_lt.mp h1) (List.not_lt.mp h2)
  obtain ⟨xc⟩ := x
  obtain ⟨yc⟩ := y
  have e : xc.toList = yc.toList := e
  rw [Array.toList_inj.mp e]
theorem sorted_filter {l : List Str} (p : Str → Bool) (h : sortedS l = true) : sortedS (l.filter p) = true := by
  refine sortedS_of_pairwise _ (((sorted_pw h).filter p).imp fun {a b} q => ?_)
  rw [ltCps_eq]
  exact decide_eq_false q
/-! ### rows and loops that are well formed -/
def TxOk (x : Str) : Prop := PyData.strOk x = true ∧ x.length ≤ 64
structure RowOk (row : List Str) : Prop where
  nd : row.Nodup
  len : row.length ≤ 40
  tx : ∀ x ∈ row, TxOk x
def rules : List Str := ["none", "ahead", "all"]
structure LpOk (row : List Str) (l : Lp) : Prop where
  rule : l.rule ∈ rules
  lo : 0 ≤ l.gap
  hi : l.gap ≤ (row.length : Int)
  srt : sortedS l.coming = true
  nd : l.coming.Nodup
  sub : ∀ x ∈ l.coming, x ∈ row
theorem LpOk.len {row : List Str} {l : Lp} (h : LpOk row l) (r : RowOk row) : l.coming.length ≤ 40 := Nat.le_trans (K44.nd_len h.nd h.sub) r.len
theorem LpOk.tx {row : List Str} {l : Lp} (h : LpOk row l) (r : RowOk row) : ∀ x ∈ l.coming, TxOk x := fun x hx => r.tx x (h.sub x hx)
/-! ### data -/
def dS (xs : List Str) : List PyData := xs.map PyData.str
theorem dp_strs {K : PySem.W.Frag} {H : Hp} : ∀ xs : List Str, DpAll K H (xs.map V.str) (dS xs)
  | [] => .nil
  | x :: r => .cons (.str x) (dp_strs r)
theorem can_strs : ∀ {xs : List Str}, (∀ x ∈ xs, TxOk x) → PyData.canLayAll0 (dS xs) = true
  | [], _ => rfl
  | x :: r, h => by
    have h1 : PyData.canLay0 (.str x) = true := (h x List.mem_cons_self).1
    show (PyData.canLay0 (.str x) && PyData.canLayAll0 (dS r)) = true
    rw [h1, can_strs fun y hy => h y (List.mem_cons_of_mem _ hy)]; rfl
theorem depth_strs : ∀ xs : List Str, PyData.depthAll (dS xs) = 0
  | [] => rfl
  | x :: r => by
    show max (PyData.depth (.str x)) (PyData.depthAll (dS r)) = 0
    rw [depth_strs r]; rfl
theorem shaped_strs {xs : List Str} (h : ∀ x ∈ xs, TxOk x) : SeqAt.shaped (.list (dS xs)) = true := by
  unfold SeqAt.shaped
  rw [show PyData.canLay0 (.list (dS xs)) = PyData.canLayAll0 (dS xs) from rfl, can_strs h]
  have : PyData.depth (.list (dS xs)) = 1 := by
    show PyData.depthAll (dS xs) + 1 = 1
    rw [depth_strs]
  rw [this]; rfl
theorem shaped_nil : SeqAt.shaped (.list []) = true := rfl
theorem refl_shaped {d : PyData} (h : SeqAt.shaped d = true) : PyData.eqv d d = true := PySem.SeqAt.eqv_refl d (SeqAt.canLay_of_shaped h)
end W44
set_option Elab.async false
set_option linter.all false
set_option maxRecDepth 100000
set_option maxHeartbeats 4000000
/-! stands_under -/
namespace W44
open PySem PySem.Spec PyProof.Rows L2 KIt
abbrev sstands_under : Stmt := topS 12
theorem scstands_under : FnScope ["loops", "one", "other"] ["loops", "one", "other"] (defScope sstands_under) := ⟨rfl, rfl, rfl, by decide +kernel, rfl, by decide +kernel, by decide +kernel⟩
section
variable {P : Program} {w : World} {K : PySem.W.Frag} {mg : Str → Option Value} {base : Heap}
def spUnder : Sp := fun vs H Q _ => ∃ (la : Addr) (b : Bool) (ps : List Addr) (ls : List Lp) (i j : Nat), vs = [.ref la, nV i, nV j] ∧ Sq H b la (ps.map V.ref) ∧ LpsAt H ps ls ∧ (∀ l ∈ ls, l.coming.length ≤ 40) ∧ i < ls.length ∧ j < ls.length ∧
  ∀ H', Same H H' → Q (.bl (K44.under (cOf ls) i j)) H'
theorem ok_under {f g : Addr} {fd gd : FuncData} {k : Nat} (F : Fun K "stands_under" "stands_under" sstands_under f fd) (Gis_within : FnOk P w K mg base CX0 k g gd ["one", "other"] spWithin) (kis_within : PySem.W.keepIn K (.ref g) = true) (bis_within : Binds K gd ["one", "other"] []) (mis_within : mg "is_within" = some (.ref g)) :
    FnOk P w K mg base CX0 (k + 1) f fd ["loops", "one", "other"] spUnder := by
  refine F.ok scstands_under (fun vs H Q E h => ?_) (fun cdv A outer s H vs Q E hr h => ?_)
  · obtain ⟨la, b, ps, ls, i, j, rfl, _⟩ := h
    rfl
  obtain ⟨la, b, ps, ls, i, j, rfl, hq, hl, h40, hi, hj, fin⟩ := h
  refine ⟨_, (pss_cons (ps_if (PW.pt (pw_or (pt_cmpR op_eq (pv 1) (pv 2) (nomark _)) (pw_or1 (pt_not (pt_val (pe_call Gis_within hr rfl mis_within kis_within bis_within .nil pass0 (pa_cons (pe_ix ix_seq (pv 0) (pv 1) (fun _ _ => rfl)) (pa_cons (pe_ix ix_seq (pv 0) (pv 2) (fun _ _ => rfl)) pa_nil)))))))) (pss_one (ps_ret pe_bl)) pss_nil)
    (pss_one (ps_ret (pe_or (pe_cmpR op_lt (pv 1) (pv 2) (nomark _)) (pe_one (pe_not (pe_call Gis_within hr rfl mis_within kis_within bis_within .nil pass0 (pa_cons (pe_ix ix_seq (pv 0) (pv 2) (fun _ _ => rfl)) (pa_cons (pe_ix ix_seq (pv 0) (pv 1) (fun _ _ => rfl)) pa_nil))))))))), ?_⟩
  obtain ⟨p, hp, lp⟩ := hl.get hi
  obtain ⟨q, hq', lq⟩ := hl.get hj
  have c1 : ls[i].coming.length ≤ 40 := h40 _ (List.getElem_mem hi)
  have c2 : ls[j].coming.length ≤ 40 := h40 _ (List.getElem_mem hj)
  have e1 : K44.within (cOf ls) i j = ls[i].coming.all fun x => decide (x ∈ ls[j].coming) := by unfold K44.within; rw [cOf_at hi, cOf_at hj]
  have e2 : K44.within (cOf ls) j i = ls[j].coming.all fun x => decide (x ∈ ls[i].coming) := by unfold K44.within; rw [cOf_at hi, cOf_at hj]
  have eij : decide (nV i = nV j) = decide (i = j) := decide_eq_decide.mpr ⟨fun z => Int.ofNat.inj (V.int.inj z), fun z => by rw [z]⟩
  refine ⟨_, rfl, _, rfl, rfl, _, rfl, ?_⟩
  rw [eij]
  refine ite2 (fun c => ?_) (fun c => ?_)
  · refine iteT ?_
    have q := fin H (Same.refl H)
    rw [K44.under, of_decide_eq_true c, decide_eq_true rfl] at q
    exact q
  · have nij : i ≠ j := of_decide_eq_false (Bool.eq_false_iff.mpr c)
    refine ⟨_, rfl, _, rfl, rIx_of hq (at_map hp) ⟨_, rfl, _, rfl, rIx_of hq (at_map hq') ⟨p, q, ls[i], ls[j], rfl, lp, lq, c1, c2, fun H1 s1 => ⟨_, rfl, ?_⟩⟩⟩⟩
    rw [← e1]
    cases cw : K44.within (cOf ls) i j with
    | false =>
      refine iteT ?_
      have q := fin H1 s1
      rw [K44.under, decide_eq_false nij, cw] at q
      exact q
    | true =>
      refine iteF ?_
      refine ⟨_, rfl, _, rfl, _, _, rfl, rfl, _, rfl, ?_⟩
      have elt : decide ((i : Int) < (j : Int)) = decide (i < j) := decide_eq_decide.mpr Int.ofNat_lt
      rw [elt]
      refine ite2 (fun c3 => ?_) (fun c3 => ?_)
      · have q := fin H1 s1
        rw [K44.under, decide_eq_false nij, cw, c3] at q
        exact q
      · have c3 := Bool.eq_false_iff.mpr c3
        have hq1 : Sq H1 b la (ps.map V.ref) := s1 _ _ hq
        refine ⟨_, rfl, _, rfl, rIx_of hq1 (at_map hq') ⟨_, rfl, _, rfl, rIx_of hq1 (at_map hp) ⟨q, p, ls[j], ls[i], rfl, lq.same s1, lp.same s1, c2, c1, fun H2 s2 => ⟨_, rfl, ?_⟩⟩⟩⟩
        rw [← e2]
        have q := fin H2 (s1.trans s2)
        rw [K44.under, decide_eq_false nij, cw, c3] at q
        exact q
end
end W44
set_option Elab.async false
set_option linter.all false
set_option maxRecDepth 100000
set_option maxHeartbeats 4000000
/-! is_loop, look_at_loops -/
namespace W44
open PySem PySem.Spec PyProof.Rows L2 KIt
abbrev sis_loop : Stmt := topS 6
theorem scis_loop : FnScope ["row", "thing", "rule", "gap", "coming", "name"] ["row", "thing"] (defScope sis_loop) := ⟨rfl, rfl, rfl, by decide +kernel, rfl, by decide +kernel, by decide +kernel⟩
abbrev slook_at_loops : Stmt := topS 9
theorem sclook_at_loops : FnScope ["row", "loops", "loop"] ["row", "loops"] (defScope slook_at_loops) := ⟨rfl, rfl, rfl, by decide +kernel, rfl, by decide +kernel, by decide +kernel⟩
/-- the tuple of rules as the top has left it -/
def RulesAt (K : PySem.W.Frag) (aR : Addr) : Prop := ∃ (o : Obj) (its : Array Value) (n : Nat), K.lookup aR = some o ∧ o.cls = .type "tuple" ∧ o.data = .seq its n ∧ its.size ≤ sizeLine ∧ Vals (rules.map V.str) its.toList
section
variable {P : Program} {w : World} {K : PySem.W.Frag} {mg : Str → Option Value} {base : Heap}
/-- is_loop of a loop of the row -/
def spIsLoop : Sp := fun vs H Q _ => ∃ (ra p : Addr) (b : Bool) (row : List Str) (l : Lp), vs = [.ref ra, .ref p] ∧ Sq H b ra (row.map V.str) ∧ RowOk row ∧ LpAt H p l ∧ LpOk row l ∧ ∀ H', Same H H' → Q (.bl true) H'
theorem ok_is_loop {f aR : Addr} {fd : FuncData} {k : Nat} (F : Fun K "is_loop" "is_loop" sis_loop f fd) (mRULES : mg "RULES" = some (.ref aR)) (hR : RulesAt K aR) (mlen : mg "len" = none) (mlist : mg "list" = none) (msorted : mg "sorted" = none) (mset : mg "set" = none) (mall : mg "all" = none) :
    FnOk P w K mg base CX0 (k + 1) f fd ["row", "thing"] spIsLoop := by
  refine F.ok scis_loop (fun vs H Q E h => ?_) (fun cdv A outer s H vs Q E hr h => ?_)
  · obtain ⟨ra, p, b, row, l, rfl, _⟩ := h
    rfl
  obtain ⟨ra, p, b, row, l, rfl, hrow, rok, ⟨c, hp, hc⟩, lok, fin⟩ := h
  refine ⟨_, (pss_cons (ps_asg (pv 1) (pg_tup rfl (pgs_cons (pg_name (i := 2) scis_loop.nd rfl (.inl rfl)) (pgs_cons (pg_name (i := 3) scis_loop.nd rfl (.inl rfl)) (pgs_cons (pg_name (i := 4) scis_loop.nd rfl (.inl rfl)) pgs_nil)))))
    (pss_cons (ps_if (PW.pt (pw_or (pt_cmpR op_notIn_seq (pv 2) (pe_glob (v := .ref aR) rfl mRULES rfl) rfl) (pw_or (pt_cmpR op_lt (pv 3) pe_int (nomark _)) (pw_or1 (pt_cmpR op_gt (pv 3) (pe_callB call_len_seq (by rfl) mlen (by decide +kernel) (pa_cons (pv 0) pa_nil)) (nomark _)))))) (pss_one (ps_ret pe_bl)) pss_nil)
    (pss_cons (ps_if (PW.pt (pw_or (pt_cmpR (op_neD hr.units) (pe_callTy call_list_of (by rfl) mlist (by decide +kernel) (pa_cons (pv 4) pa_nil)) (pe_callB KRule.cr_sortT (by rfl) msorted (by decide +kernel) (pa_cons (pv 4) pa_nil)) (nomark _)) (pw_or1 (pt_cmpR op_ne (pe_callB KRule.cr_lenT (by rfl) mlen (by decide +kernel) (pa_cons (pe_callTy (KRule.cr_setT rfl) (by rfl) mset (by decide +kernel) (pa_cons (pv 4) pa_nil)) pa_nil)) (pe_callB call_len_seq (by rfl) mlen (by decide +kernel) (pa_cons (pv 4) pa_nil)) (nomark _))))) (pss_one (ps_ret pe_bl)) pss_nil)
    (pss_one (ps_ret (pe_callB (cr_all rfl) (by rfl) mall (by decide +kernel) (pa_cons (pe_lc (own := [("name", 5)]) (g := (gName 5)) (tt := tYes) rfl scis_loop.nd (pi_tup (pv 4)) (blkOk_by (N := ["row", "thing", "rule", "gap", "coming", "name"]) (sc := defScope sis_loop) (by decide +kernel)) (fun _ _ _ _ _ => (pg_name (i := 5) scis_loop.nd rfl (.inl rfl))) (fun _ _ _ _ _ => pts_nil) (fun _ _ _ _ _ => (pe_cmpR (r := rIn K false) op_in_seq (pv 5) (pv 0) rfl))) pa_nil))))))), ?_⟩
  have few40 := lok.len rok
  refine ⟨_, rfl, p, _, rfl, SqT.of hp, rfl, _, _, rfl, _, _, rfl, _, _, rfl, rfl, ?_⟩
  -- the rule, the gap
  refine ⟨_, rfl, aR, rules.map V.str, rfl, .inr (.inr hR), rfl, flat_strs' _, _, rfl, ?_⟩
  rw [if_pos rfl, inV_str, decide_eq_true lok.rule]
  refine iteF ?_
  refine ⟨_, rfl, l.gap, 0, rfl, rfl, _, rfl, ?_⟩
  rw [decide_eq_false (show ¬ l.gap < 0 by have := lok.lo; omega)]
  refine iteF ?_
  refine ⟨_, rfl, _, rfl, ra, _, rfl, hrow.either, l.gap, _, rfl, rfl, _, rfl, ?_⟩
  have lenrow : (row.map V.str).length = row.length := List.length_map _
  rw [lenrow, decide_eq_false (show ¬ (row.length : Int) < l.gap by have := lok.hi; omega)]
  refine iteF ?_
  -- list(coming) != sorted(coming)
  refine ⟨_, rfl, c, _, rfl, .inr (SqT.of hc), fun n1 nn1 => ?_⟩
  have s1 : Same H (upd H n1 (.lst (l.coming.map V.str))) := same_new nn1
  refine ⟨_, rfl, c, l.coming, rfl, SqT.of (s1 _ _ hc), by omega, fun ys n2 pm srt nn2 => ?_⟩
  have eys : ys = l.coming := sorted_same pm srt lok.srt
  subst eys
  have s2 := same_same s1 (o := .lst (l.coming.map V.str)) nn2
  have h1 : upd (upd H n1 (.lst (l.coming.map V.str))) n2 (.lst (l.coming.map V.str)) n1 = some (.lst (l.coming.map V.str)) := same_new nn2 _ _ upd_same
  have shp := shaped_strs (lok.tx rok)
  refine ⟨.list (dS l.coming), .list (dS l.coming), .lst (SqL.of h1) (dp_strs _), .lst (SqL.of upd_same) (dp_strs _), shp, shp, _, rfl, ?_⟩
  rw [refl_shaped shp]
  refine iteF ?_
  -- len(set(coming)) != len(coming)
  refine ⟨_, rfl, c, l.coming, rfl, SqT.of (s2 _ _ hc), by have e : scanBound = 4096 := rfl; omega, fun n3 nn3 => ?_⟩
  have s3 := same_same s2 (o := KRule.SetT P w n3 l.coming) nn3
  refine ⟨n3, l.coming, rfl, upd_same, _, rfl, c, _, rfl, .inr (SqT.of (s3 _ _ hc)), rfl, _, rfl, ?_⟩
  have edd : (KSet.dd l.coming).length = l.coming.length := by
    have := KSet.dd_of_nd l.coming [] (by simpa using lok.nd)
    rw [show KSet.dd l.coming = l.coming.foldl KSet.ddStep [] from rfl, this, List.nil_append]
  have lenc : (l.coming.map V.str).length = l.coming.length := List.length_map _
  rw [edd, lenc, decide_eq_true rfl]
  refine iteF ?_
  -- all of it stands in the row
  refine ⟨_, rfl, c, rfl, ⟨_, SqT.of (s3 _ _ hc)⟩, fun D nD => ?_⟩
  refine lc_tup (xs := l.coming.map V.str) (fun i H2 => Same H H2 ∧ H2 D = some (.lst ((List.replicate i true).map V.bl))) ⟨same_same s3 nD, upd_same⟩ (fun i H2 _ q => SqT.of (q.1 _ _ hc)) (fun i x H2 hx ⟨sm, hD⟩ => ?_) (fun H2 ⟨sm, hD⟩ => ?_)
  · obtain ⟨z, hz, rfl⟩ := map_at hx
    have hi := lt_of_at hz
    have hzr : z ∈ row := lok.sub z (List.mem_of_getElem? hz)
    refine ⟨rfl, _, rfl, _, rfl, ra, _, rfl, Sq.either (sm _ _ hrow), rfl, flat_strs' _, _, hD, ?_, fun b' u hb => ?_, ?_⟩
    · rw [List.length_map, List.length_replicate]
      exact small1000 (by omega)
    · rw [upd_ne (ne_of_none hb (s3.free nD))]
      exact sm _ _ hb
    · rw [upd_same, inV_str, decide_eq_true hzr, List.replicate_succ', List.map_append]
      rfl
  · refine ⟨D, _, rfl, SqL.of hD, ?_⟩
    have e : (List.replicate (l.coming.map V.str).length true).all id = true := by
      rw [List.all_eq_true]
      intro x hx
      rw [List.eq_of_mem_replicate hx]; rfl
    rw [e]
    exact fin H2 sm
/-- look_at_loops, where nothing is refused -/
def spLook : Sp := fun vs H Q _ => ∃ (ra la : Addr) (b c : Bool) (row : List Str) (ps : List Addr) (ls : List Lp), vs = [.ref ra, .ref la] ∧ Sq H b ra (row.map V.str) ∧ RowOk row ∧ Sq H c la (ps.map V.ref) ∧ LpsAt H ps ls ∧ ls.length ≤ 12 ∧ (∀ l ∈ ls, LpOk row l) ∧
  ∀ H', Same H H' → Q .non H'
theorem ok_look_at_loops {f g : Addr} {fd gd : FuncData} {k : Nat} (F : Fun K "look_at_loops" "look_at_loops" slook_at_loops f fd) (Gis_loop : FnOk P w K mg base CX0 k g gd ["row", "thing"] spIsLoop) (kis_loop : PySem.W.keepIn K (.ref g) = true) (bis_loop : Binds K gd ["row", "thing"] []) (mis_loop : mg "is_loop" = some (.ref g))
    {tM : Tok} (mMOST_LOOPS : mg "MOST_LOOPS" = some (.int 12 tM)) (mlen : mg "len" = none) : FnOk P w K mg base CX0 (k + 1) f fd ["row", "loops"] spLook := by
  refine F.ok sclook_at_loops (fun vs H Q E h => ?_) (fun cdv A outer s H vs Q E hr h => ?_)
  · obtain ⟨ra, la, b, c, row, ps, ls, rfl, _⟩ := h
    rfl
  obtain ⟨ra, la, b, c, row, ps, ls, rfl, hrow, rok, hls, hps, h12, hok, fin⟩ := h
  refine ⟨_, (pss_cons (ps_if (pt_cmpR op_gt (pe_callB call_len_seq (by rfl) mlen (by decide +kernel) (pa_cons (pv 1) pa_nil)) (pe_glob (v := .int 12) rfl mMOST_LOOPS ⟨_, rfl⟩) (nomark _)) (pss_one ps_never) pss_nil)
    (pss_one (ps_for PassesOwn.never rfl (pi_seq (pv 1)) (pg_name (i := 2) sclook_at_loops.nd rfl (.inl rfl)) (pss_one (ps_if (pt_not (pt_val (pe_call Gis_loop hr rfl mis_loop kis_loop bis_loop .nil pass0 (pa_cons (pv 0) (pa_cons (pv 2) pa_nil))))) (pss_one ps_never) pss_nil))))), ?_⟩
  have el : (ps.map V.ref).length = ls.length := by rw [List.length_map, hps.len]
  refine ⟨_, rfl, la, _, rfl, hls.either, _, _, rfl, rfl, _, rfl, ?_⟩
  rw [el, decide_eq_false (show ¬ (12 : Int) < (ls.length : Int) by omega)]
  refine iteF ?_
  refine ⟨_, rfl, c, la, _, rfl, hls, ?_⟩
  refine for_seq (xs := ps.map V.ref) (fun i σ H' => ∃ y, σ = [some (.ref ra), some (.ref la), y] ∧ Same H H') ⟨none, rfl, Same.refl H⟩ (fun i σ H' _ ⟨_, _, sm⟩ => sm _ _ hls) (fun i x σ H' hx ⟨y, e, sm⟩ => ?_) (fun σ H' ⟨y, e, sm⟩ => ?_)
  · subst e
    obtain ⟨p, hp, rfl⟩ := map_at hx
    have hi : i < ls.length := by rw [← hps.len]; exact lt_of_at hp
    refine ⟨_, rfl, _, rfl, ra, p, b, row, ls[i], rfl, sm _ _ hrow, rok, (hps.at' i p _ hp (List.getElem?_eq_getElem hi)).same sm, hok _ (List.getElem_mem hi), fun H2 sm2 => ⟨_, rfl, ?_⟩⟩
    refine iteF ?_
    exact ⟨_, rfl, sm.trans sm2⟩
  · exact fin H' sm
end
end W44
set_option Elab.async false
set_option linter.all false
set_option maxRecDepth 100000
set_option maxHeartbeats 4000000
/-! seated, paired -/
namespace W44
open PySem PySem.Spec PyProof.Rows L2 KIt
/-! ### the dict of pairs -/
theorem key_ne {a b : Nat} (h : a ≠ b) : ¬ (Sum.inl (a : Int) : Key) = Sum.inl (b : Int) := fun e => h (Int.ofNat.inj (Sum.inl.inj e))
def kvM (M : List (Nat × Nat)) : List (Key × V) := M.map fun p => (Sum.inl (p.1 : Int), nV p.2)
theorem kvM_val : ∀ (M : List (Nat × Nat)) (k : Nat), valV (kvM M) (Sum.inl (k : Int)) = (K44.look M k).map nV
  | [], _ => rfl
  | (a, v) :: r, k => by
    have ih := kvM_val r k
    simp only [K44.look]
    by_cases h : a = k
    · rw [if_pos h]
      exact valV_pos (p := (Sum.inl (a : Int), nV v)) (by rw [h])
    · rw [if_neg h, ← ih]
      exact valV_neg (p := (Sum.inl (a : Int), nV v)) fun e => h (Int.ofNat.inj (Sum.inl.inj e))
theorem kvM_any (x : Nat) : ∀ M : List (Nat × Nat), ((kvM M).any fun kv => decide (kv.1 = Sum.inl (x : Int))) = decide (x ∈ M.map (·.1))
  | [] => rfl
  | (a, v) :: r => by
    have ih := kvM_any x r
    show (decide ((Sum.inl (a : Int) : Key) = Sum.inl (x : Int)) || (kvM r).any _) = _
    rw [ih]
    by_cases h : a = x
    · rw [decide_eq_true (by rw [h]), Bool.true_or, decide_eq_true (by rw [h]; exact List.mem_cons_self)]
    · rw [decide_eq_false (key_ne h), Bool.false_or]
      refine decide_eq_decide.mpr ⟨fun q => List.mem_cons_of_mem _ q, fun q => (List.mem_cons.mp q).elim (fun e => absurd e.symm h) id⟩
theorem mput_map (x y : Nat) : ∀ M : List (Nat × Nat), (M.map (·.1)).Nodup → x ∈ M.map (·.1) → K44.mput M x y = M.map fun p => if p.1 = x then (p.1, y) else p
  | [], _, h => by simp at h
  | (a, v) :: r, nd, h => by
    simp only [List.map_cons, List.nodup_cons] at nd
    simp only [K44.mput, List.map_cons]
    by_cases c : a = x
    · rw [if_pos c, if_pos c]
      congr 1
      have : ∀ p ∈ r, (if p.1 = x then (p.1, y) else p) = p := fun p hp => if_neg fun e => nd.1 (by rw [c, ← e]; exact List.mem_map.mpr ⟨p, hp, rfl⟩)
      rw [List.map_congr_left this, List.map_id']
    · rw [if_neg c, if_neg c, mput_map x y r nd.2 ((List.mem_cons.mp h).resolve_left fun e => c e.symm)]
theorem mput_new (x y : Nat) : ∀ M : List (Nat × Nat), x ∉ M.map (·.1) → K44.mput M x y = M ++ [(x, y)]
  | [], _ => rfl
  | (a, v) :: r, h => by
    simp only [List.map_cons, List.mem_cons, not_or] at h
    simp only [K44.mput]
    rw [if_neg fun e => h.1 e.symm, mput_new x y r h.2]
    rfl
theorem kvM_put {M : List (Nat × Nat)} (nd : (M.map (·.1)).Nodup) (x y : Nat) : putK (kvM M) (Sum.inl (x : Int)) (nV y) = kvM (K44.mput M x y) := by
  unfold putK
  rw [kvM_any]
  by_cases h : x ∈ M.map (·.1)
  · rw [if_pos (decide_eq_true h), mput_map x y M nd h]
    unfold kvM
    rw [List.map_map, List.map_map]
    refine List.map_congr_left fun p _ => ?_
    show (if (Sum.inl (p.1 : Int) : Key) = Sum.inl (x : Int) then (Sum.inl (p.1 : Int), nV y) else (Sum.inl (p.1 : Int), nV p.2)) = (fun p => (Sum.inl (p.1 : Int), nV p.2)) (if p.1 = x then (p.1, y) else p)
    by_cases c : p.1 = x
    · rw [if_pos c, if_pos (by rw [c])]
    · rw [if_neg c, if_neg (key_ne c)]
  · rw [if_neg (by rw [decide_eq_false h]; exact Bool.false_ne_true), mput_new x y M h]
    unfold kvM
    rw [List.map_append]
    rfl
theorem kvM_len (M : List (Nat × Nat)) : (kvM M).length = M.length := List.length_map _
theorem kvM_vals (M : List (Nat × Nat)) : (kvM M).map (·.2) = ((M.map (·.2)).map fun n : Nat => (n : Int)).map V.int := by
  unfold kvM
  rw [List.map_map, List.map_map, List.map_map]; rfl
/-! ### the list of lists of what stands above each -/
structure AbvAt (H : Hp) (ab : Addr) (rows : List Addr) (A : Nat → List Nat) (N : Nat) : Prop where
  lst : H ab = some (.lst (rows.map V.ref))
  len : rows.length = N
  row : ∀ (i : Nat) (p : Addr), rows[i]? = some p → H p = some (.lst (nsV (A i)))
  lt : ∀ i x, x ∈ A i → x < N
  few : ∀ i, (A i).length ≤ N
theorem AbvAt.keep {H H' : Hp} {ab : Addr} {rows : List Addr} {A : Nat → List Nat} {N : Nat} (h : AbvAt H ab rows A N) (k : ∀ b, b = ab ∨ b ∈ rows → H' b = H b) : AbvAt H' ab rows A N :=
  ⟨(k ab (.inl rfl)).trans h.lst, h.len, fun i p hp => (k p (.inr (List.mem_of_getElem? hp))).trans (h.row i p hp), h.lt, h.few⟩
theorem AbvAt.same {H H' : Hp} {ab : Addr} {rows : List Addr} {A : Nat → List Nat} {N : Nat} (h : AbvAt H ab rows A N) (s : Same H H') : AbvAt H' ab rows A N :=
  ⟨s _ _ h.lst, h.len, fun i p hp => s _ _ (h.row i p hp), h.lt, h.few⟩
theorem AbvAt.get {H : Hp} {ab : Addr} {rows : List Addr} {A : Nat → List Nat} {N : Nat} (h : AbvAt H ab rows A N) {i : Nat} (hi : i < N) : ∃ p, rows[i]? = some p ∧ H p = some (.lst (nsV (A i))) := by
  have hp : i < rows.length := by rw [h.len]; exact hi
  exact ⟨rows[i], List.getElem?_eq_getElem hp, h.row i _ (List.getElem?_eq_getElem hp)⟩
abbrev sseated : Stmt := topS 13
theorem scseated : FnScope ["above", "below", "one", "tried", "other"] ["above", "below", "one", "tried"] (defScope sseated) := ⟨rfl, rfl, rfl, by decide +kernel, rfl, by decide +kernel, by decide +kernel⟩
abbrev spaired : Stmt := topS 14
theorem scpaired : FnScope ["above", "below", "one"] ["above"] (defScope spaired) := ⟨rfl, rfl, rfl, by decide +kernel, rfl, by decide +kernel, by decide +kernel⟩
section
variable {P : Program} {w : World} {K : PySem.W.Frag} {mg : Str → Option Value} {base : Heap}
/-- what seated is handed -/
structure SeatAt (H : Hp) (A : Nat → List Nat) (N : Nat) (ab bl tr : Addr) (rows : List Addr) (T : List Nat) (M : List (Nat × Nat)) : Prop where
  abv : AbvAt H ab rows A N
  d : H bl = some (.dK (kvM M))
  t : H tr = some (.lst (nsV T))
  ne : tr ≠ ab ∧ tr ∉ rows
  m : K44.MOk N M
  tok : K44.TOk N T
/-- only the dict and the list tried change -/
def But2 (bl tr : Addr) (H H' : Hp) : Prop := ∀ b o, b ≠ bl → b ≠ tr → H b = some o → H' b = some o
theorem But2.trans {bl tr : Addr} {H H1 H2 : Hp} (a : But2 bl tr H H1) (b : But2 bl tr H1 H2) : But2 bl tr H H2 := fun c o h1 h2 q => b c o h1 h2 (a c o h1 h2 q)
theorem SeatAt.bl_ne {H : Hp} {A : Nat → List Nat} {N : Nat} {ab bl tr : Addr} {rows : List Addr} {T : List Nat} {M : List (Nat × Nat)} (h : SeatAt H A N ab bl tr rows T M) : bl ≠ ab ∧ bl ∉ rows ∧ bl ≠ tr := by
  refine ⟨ne_of h.d h.abv.lst (by intro z; cases z), fun z => ?_, ne_of h.d h.t (by intro z; cases z)⟩
  obtain ⟨i, hi, e⟩ := List.mem_iff_getElem.mp z
  exact ne_of h.d (h.abv.row i bl (by rw [List.getElem?_eq_getElem hi, e])) (by intro z; cases z) rfl
theorem SeatAt.next {H H' : Hp} {A : Nat → List Nat} {N : Nat} {ab bl tr : Addr} {rows : List Addr} {T T' : List Nat} {M M' : List (Nat × Nat)} (h : SeatAt H A N ab bl tr rows T M) (b : But2 bl tr H H') (d : H' bl = some (.dK (kvM M'))) (t : H' tr = some (.lst (nsV T'))) (m : K44.MOk N M') (tok : K44.TOk N T') :
    SeatAt H' A N ab bl tr rows T' M' := by
  obtain ⟨n1, n2, n3⟩ := h.bl_ne
  refine ⟨⟨b _ _ (fun e => n1 e.symm) (fun e => h.ne.1 e.symm) h.abv.lst, h.abv.len, fun i p hp => b _ _ (fun e => n2 (e ▸ List.mem_of_getElem? hp)) (fun e => h.ne.2 (e ▸ List.mem_of_getElem? hp)) (h.abv.row i p hp), h.abv.lt, h.abv.few⟩, d, t, h.ne, m, tok⟩
/-- seated, n calls deep -/
def spSeat (n : Nat) : Sp := fun vs H Q _ => ∃ (ab bl tr : Addr) (rows : List Addr) (A : Nat → List Nat) (N one : Nat) (T : List Nat) (M : List (Nat × Nat)), vs = [.ref ab, .ref bl, nV one, .ref tr] ∧ SeatAt H A N ab bl tr rows T M ∧ one < N ∧ N ≤ 12 ∧ N + 1 ≤ T.length + n ∧
  ∀ H', But2 bl tr H H' → H' bl = some (.dK (kvM (K44.seat A n T M one).2.2)) → H' tr = some (.lst (nsV (K44.seat A n T M one).2.1)) → Q (.bl (K44.seat A n T M one).1) H'
theorem ok_seated {f : Addr} {fd : FuncData} {n : Nat} (F : Fun K "seated" "seated" sseated f fd) (Gseated : FnOk P w K mg base CX0 n f fd ["above", "below", "one", "tried"] (spSeat n)) (bseated : Binds K fd ["above", "below", "one", "tried"] []) (kseated : PySem.W.keepIn K (.ref f) = true) (mseated : mg "seated" = some (.ref f)) :
    FnOk P w K mg base CX0 (n + 1) f fd ["above", "below", "one", "tried"] (spSeat (n + 1)) := by
  refine F.ok scseated (fun vs H Q E h => ?_) (fun cdv A' outer s H vs Q E hr h => ?_)
  · obtain ⟨ab, bl, tr, rows, A, N, one, T, M, rfl, _⟩ := h
    rfl
  obtain ⟨ab, bl, tr, rows, A, N, one, T, M, rfl, sa, h1, h12, room, fin⟩ := h
  have hu := hu_of hr
  refine ⟨_, (pss_cons (ps_for PassesOwn.never rfl (pi_list (pe_ix ix_list (pv 0) (pv 2) (fun _ _ => rfl))) (pg_name (i := 4) scseated.nd rfl (.inl rfl)) (pss_one (ps_if (pt_cmpR op_notIn_seq (pv 4) (pv 3) rfl) (pss_cons (ps_expr (pe_bm PySem.F.plainAttrs_list PySem.F.slot_list_append PySem.F.type_list_append mt_append (pv 3) (pa_cons (pv 4) pa_nil)))
    (pss_one (ps_if (PW.pt (pw_or (pt_cmp (pc_dnotin hu (pv 4) (pv 1)) rfl) (pw_or1 (pt_val (pe_call Gseated hr rfl mseated kseated bseated .nil pass0 (pa_cons (pv 0) (pa_cons (pv 1) (pa_cons (pe_dget hu (pv 1) (pv 4) (fun _ _ => rfl)) (pa_cons (pv 3) pa_nil))))))))) (pss_cons (ps_dput hu (pv 1) (pv 4) (pv 2) rfl)
    (pss_one (ps_ret pe_bl))) pss_nil))) pss_nil)))
    (pss_one (ps_ret pe_bl))), ?_⟩
  obtain ⟨p, hp, hrow⟩ := sa.abv.get h1
  refine ⟨_, rfl, _, rfl, ab, _, _, _, rfl, rfl, SqL.of sa.abv.lst, atI_nat (at_map hp), p, rfl, ⟨_, SqL.of hrow⟩, ?_⟩
  refine for_list (xs := nsV (A one)) (fun i σ H' => ∃ y T' M', σ = [some (.ref ab), some (.ref bl), some (nV one), some (.ref tr), y] ∧ But2 bl tr H H' ∧ SeatAt H' A N ab bl tr rows T' M' ∧ T.length ≤ T'.length ∧
      K44.seatIn (K44.seat A n) one ((A one).drop i) T' M' = K44.seat A (n + 1) T M one)
    ⟨none, T, M, rfl, fun _ _ _ _ q => q, sa, Nat.le_refl _, by rw [List.drop_zero]; rfl⟩ (fun i σ H' _ ⟨_, _, _, _, _, sa', _, _⟩ => SqL.of (sa'.abv.row _ _ hp)) (fun i x σ H' hx ⟨y, T', M', e, but, sa', le, eq⟩ => ?_) (fun σ H' ⟨y, T', M', e, but, sa', le, eq⟩ => ?_)
  · subst e
    obtain ⟨o, ho, rfl⟩ := map_at hx
    have hoA : o ∈ A one := List.mem_of_getElem? ho
    have hoN := sa.abv.lt one o hoA
    have ed : (A one).drop i = o :: (A one).drop (i + 1) := by
      have hi := lt_of_at ho
      rw [List.drop_eq_getElem_cons hi]
      rw [List.getElem?_eq_getElem hi] at ho
      rw [Option.some.inj ho]
    rw [ed, K44.seatIn] at eq
    refine ⟨_, rfl, _, rfl, tr, nsV T', rfl, .inl (SqL.of sa'.t), rfl, flat_nats _, _, rfl, ?_⟩
    rw [if_pos rfl, inV_nat]
    by_cases c : o ∈ T'
    · rw [decide_eq_true c]
      refine iteF ?_
      rw [if_pos c] at eq
      exact ⟨_, T', M', rfl, but, sa', le, eq⟩
    · rw [decide_eq_false c]
      refine iteT ?_
      rw [if_neg c] at eq
      -- tried.append(other)
      have tok1 := sa'.tok.snoc hoN c
      have lenT := tok1.len
      have lenM := sa'.m.len
      refine ⟨_, rfl, .inl ⟨rfl, _, SqL.of sa'.t⟩, _, rfl, tr, nsV T', _, rfl, rfl, sa'.t, ?_, ?_⟩
      · rw [List.length_map]
        rw [List.length_append] at lenT
        exact small1000 (by omega)
      have et : nsV T' ++ [nV o] = nsV (T' ++ [o]) := by rw [nsV, nsV, List.map_append]; rfl
      rw [et]
      have ne3 : bl ≠ tr := sa'.bl_ne.2.2
      have sa1 : SeatAt (upd H' tr (.lst (nsV (T' ++ [o])))) A N ab bl tr rows (T' ++ [o]) M' :=
        sa'.next (fun b u _ h2 q => by rw [upd_ne h2]; exact q) (by rw [upd_ne ne3]; exact sa'.d) upd_same sa'.m tok1
      have but1 : But2 bl tr H (upd H' tr (.lst (nsV (T' ++ [o])))) := but.trans fun b u _ h2 q => by rw [upd_ne h2]; exact q
      have le1 : T.length ≤ (T' ++ [o]).length := by rw [List.length_append]; omega
      refine ⟨_, rfl, _, rfl, bl, _, rfl, DGet.k (k := Sum.inl (o : Int)) sa1.d, _, rfl, ?_⟩
      rw [kvM_val]
      cases hl : K44.look M' o with
      | none =>
        rw [hl] at eq
        refine iteT ?_
        refine iteT ?_
        refine ⟨_, rfl, _, rfl, _, rfl, bl, _, rfl, DPut.k (k := Sum.inl (o : Int)) sa1.d (by rw [kvM_len]; exact small1000 (by omega)), ?_⟩
        rw [kvM_put sa1.m.nd]
        rw [← eq] at fin
        refine fin _ (fun b u h1 h2 q => ?_) upd_same (by rw [upd_ne (fun e => ne3 e.symm)]; exact upd_same)
        rw [upd_ne h1]
        exact but1 b u h1 h2 q
      | some s' =>
        rw [hl] at eq
        refine iteF ?_
        have hs' : s' < N := sa1.m.val hl
        have hget : DGet (upd H' tr (.lst (nsV (T' ++ [o])))) bl (nV o) (some (nV s')) := by
          have q : DGet (upd H' tr (.lst (nsV (T' ++ [o])))) bl (nV o) (valV (kvM M') (Sum.inl (o : Int))) := DGet.k (k := Sum.inl (o : Int)) sa1.d
          rw [kvM_val, hl] at q
          exact q
        refine ⟨_, rfl, _, rfl, _, rfl, _, rfl, bl, _, rfl, hget, _, rfl, ab, bl, tr, rows, A, N, s', T' ++ [o], M', rfl, sa1, hs', h12, by rw [List.length_append, List.length_singleton]; omega, fun H2 but2 d2 t2 => ⟨_, rfl, ?_⟩⟩
        dsimp only at eq
        have kept := K44.seat_kept sa.abv.lt n (T' ++ [o]) M' s' sa1.m tok1 hs'
        generalize K44.seat A n (T' ++ [o]) M' s' = r at kept d2 t2 eq ⊢
        obtain ⟨b, T2, M2⟩ := r
        have d2 : H2 bl = some (.dK (kvM M2)) := d2
        have t2 : H2 tr = some (.lst (nsV T2)) := t2
        have m2 : K44.MOk N M2 := kept.m
        have tok2 : K44.TOk N T2 := kept.t
        have lenM2 := m2.len
        have sa2 := sa1.next but2 d2 t2 m2 tok2
        have butH2 := but1.trans but2
        cases b with
        | true =>
          refine iteT ?_
          refine ⟨_, rfl, _, rfl, _, rfl, bl, _, rfl, DPut.k (k := Sum.inl (o : Int)) d2 (by rw [kvM_len]; exact small1000 (show M2.length ≤ 1000 by omega)), ?_⟩
          rw [kvM_put m2.nd]
          have eq : (true, T2, K44.mput M2 o one) = K44.seat A (n + 1) T M one := eq
          rw [← eq] at fin
          refine fin _ (fun b u h1 h2 q => ?_) upd_same (by rw [upd_ne (fun e => ne3 e.symm)]; exact t2)
          rw [upd_ne h1]
          exact butH2 b u h1 h2 q
        | false =>
          refine iteF ?_
          have eq : K44.seatIn (K44.seat A n) one ((A one).drop (i + 1)) T2 M2 = K44.seat A (n + 1) T M one := eq
          exact ⟨_, T2, M2, rfl, butH2, sa2, Nat.le_trans le1 kept.le, eq⟩
  · subst e
    have el : (nsV (A one)).length = (A one).length := List.length_map _
    rw [el, List.drop_length, K44.seatIn] at eq
    rw [← eq] at fin
    exact fin H' but sa'.d sa'.t
/-- no call is left: nothing can be asked -/
theorem none_seated {f : Addr} {fd : FuncData} : FnOk P w K mg base CX0 0 f fd ["above", "below", "one", "tried"] (spSeat 0) := by
  have no : ∀ vs H Q E, ¬ spSeat 0 vs H Q E := fun vs H Q E h => by
    obtain ⟨ab, bl, tr, rows, A, N, one, T, M, _, sa, _, _, room, _⟩ := h
    have := sa.tok.len
    omega
  exact ⟨fun vs H Q E h => absurd h (no vs H Q E), fun A outer s H args us vs Q E _ _ _ _ h => absurd h (no vs H Q E)⟩
theorem all_seated {f : Addr} {fd : FuncData} (F : Fun K "seated" "seated" sseated f fd) (b : Binds K fd ["above", "below", "one", "tried"] []) (m : mg "seated" = some (.ref f)) : ∀ n, FnOk P w K mg base CX0 n f fd ["above", "below", "one", "tried"] (spSeat n)
  | 0 => none_seated
  | n + 1 => ok_seated F (all_seated F b m n) b F.kp m
/-- paired: the pairs -/
def spPaired : Sp := fun vs H Q _ => ∃ (ab : Addr) (rows : List Addr) (A : Nat → List Nat) (N : Nat), vs = [.ref ab] ∧ AbvAt H ab rows A N ∧ N ≤ 12 ∧
  ∀ H' bl, Same H H' → H bl = none → H' bl = some (.dK (kvM (K44.pairs A 13 N))) → Q (.ref bl) H'
theorem ok_paired {f g : Addr} {fd gd : FuncData} (F : Fun K "paired" "paired" spaired f fd) (Gseated : FnOk P w K mg base CX0 13 g gd ["above", "below", "one", "tried"] (spSeat 13)) (bseated : Binds K gd ["above", "below", "one", "tried"] []) (kseated : PySem.W.keepIn K (.ref g) = true) (mseated : mg "seated" = some (.ref g))
    (mrange : mg "range" = none) (mlen : mg "len" = none) : FnOk P w K mg base CX0 14 f fd ["above"] spPaired := by
  refine F.ok scpaired (fun vs H Q E h => ?_) (fun cdv A' outer s H vs Q E hr h => ?_)
  · obtain ⟨ab, rows, A, N, rfl, _⟩ := h
    rfl
  obtain ⟨ab, rows, A, N, rfl, abv, h12, fin⟩ := h
  refine ⟨_, (pss_cons (ps_set (i := 1) scpaired.nd rfl (.inl rfl) pe_dnewK)
    (pss_cons (ps_for PassesOwn.never rfl (pi_range1 (by rfl) mrange (pa_cons (pe_callB call_len_seq (by rfl) mlen (by decide +kernel) (pa_cons (pv 0) pa_nil)) pa_nil)) (pg_name (i := 2) scpaired.nd rfl (.inl rfl)) (pss_one (ps_expr (pe_call Gseated hr rfl mseated kseated bseated .nil pass0 (pa_cons (pv 0) (pa_cons (pv 1) (pa_cons (pv 2) (pa_cons (pe_lst pa_nil) pa_nil))))))))
    (pss_one (ps_ret (pv 1))))), ?_⟩
  intro bl nbl
  have s1 : Same H (upd H bl (.dK [])) := same_new nbl
  have el : (rows.map V.ref).length = N := by rw [List.length_map, abv.len]
  refine ⟨_, rfl, ab, _, rfl, .inl (SqL.of (s1 _ _ abv.lst)), _, rfl, by omega, by rw [el]; omega, ?_⟩
  rw [el, Int.toNat_natCast]
  refine for_range (lo := 0) (n := N) (fun i σ H' => ∃ y, σ = [some (.ref ab), some (.ref bl), y] ∧ Same H H' ∧ H' bl = some (.dK (kvM (K44.pairs A 13 i)))) ⟨none, rfl, s1, upd_same⟩ (fun i σ H' hi ⟨y, e, sm, hb⟩ => ?_) (fun σ H' ⟨y, e, sm, hb⟩ => ?_)
  · subst e
    rw [Int.zero_add]
    have m := K44.pairs_kept abv.lt 13 i (by omega)
    refine ⟨_, rfl, _, rfl, _, rfl, Nat.zero_le _, fun tr ntr => ?_⟩
    have s2 := same_same sm (o := .lst []) ntr
    have hb2 : upd H' tr (.lst []) bl = some (.dK (kvM (K44.pairs A 13 i))) := by rw [upd_ne (ne_of_none hb ntr)]; exact hb
    have nt : H tr = none := sm.free ntr
    refine ⟨ab, bl, tr, rows, A, N, i, [], K44.pairs A 13 i, rfl, ⟨abv.same s2, hb2, upd_same, ⟨(ne_of_none abv.lst nt).symm, fun z => ?_⟩, m, List.nodup_nil, fun _ z => absurd z (by simp)⟩, hi, h12, by simp; omega, fun H2 but2 d2 t2 => ?_⟩
    · obtain ⟨j, hj, e⟩ := List.mem_iff_getElem.mp z
      exact ne_of_none (abv.row j tr (by rw [List.getElem?_eq_getElem hj, e])) nt rfl
    · refine ⟨_, rfl, fun b u q => but2 b u (ne_of_none q nbl) (ne_of_none q nt) (s2 _ _ q), d2⟩
  · subst e
    exact ⟨_, rfl, fin H' bl sm nbl hb⟩
end
end W44
set_option Elab.async false
set_option linter.all false
set_option maxRecDepth 100000
set_option maxHeartbeats 4000000
/-! gone_over -/
namespace W44
open PySem PySem.Spec PyProof.Rows L2 KIt
abbrev sgone_over : Stmt := topS 15
theorem scgone_over : FnScope ["above", "below", "lows", "one", "highs", "at", "other"] ["above", "below"] (defScope sgone_over) := ⟨rfl, rfl, rfl, by decide +kernel, rfl, by decide +kernel, by decide +kernel⟩
/-- the numbers that are nobody's value -/
def lowsF (M : List (Nat × Nat)) (N : Nat) : List Nat := (List.range N).filter fun v => !decide (v ∈ M.map (·.2))
theorem int_mem (k : Nat) (l : List Nat) : decide ((k : Int) ∈ l.map fun n : Nat => (n : Int)) = decide (k ∈ l) := by
  refine decide_eq_decide.mpr ⟨fun h => ?_, fun h => List.mem_map.mpr ⟨k, h, rfl⟩⟩
  obtain ⟨j, hj, e⟩ := List.mem_map.mp h
  exact Int.ofNat.inj e ▸ hj
theorem filt_snoc {α : Type} (p : α → Bool) (l : List α) (x : α) : (l ++ [x]).filter p = l.filter p ++ if p x = true then [x] else [] := by
  rw [List.filter_append, List.filter_cons, List.filter_nil]
theorem nsV_snoc (l : List Nat) (x : Nat) : nsV l ++ [nV x] = nsV (l ++ [x]) := by rw [nsV, nsV, List.map_append]; rfl
section
variable {P : Program} {w : World} {K : PySem.W.Frag} {mg : Str → Option Value} {base : Heap}
def spGone : Sp := fun vs H Q _ => ∃ (ab bl : Addr) (rows : List Addr) (A : Nat → List Nat) (N : Nat) (M : List (Nat × Nat)) (D : Nat → Prop), vs = [.ref ab, .ref bl] ∧ AbvAt H ab rows A N ∧ H bl = some (.dK (kvM M)) ∧ N ≤ 12 ∧
  K44.Dead A M D ∧ (∀ k v, K44.look M k = some v → v < N) ∧ K44.GIn A M D N (lowsF M N) (lowsF M N) [] ∧
  ∀ H' t lo hi, Same H H' → H' t = some (.tup [.ref lo, .ref hi]) → H' lo = some (.lst (nsV (K44.gone A M 25 0 (lowsF M N) []).1)) → H' hi = some (.lst (nsV (K44.gone A M 25 0 (lowsF M N) []).2)) → Q (.ref t) H'
theorem ok_gone_over {f : Addr} {fd : FuncData} {k : Nat} (F : Fun K "gone_over" "gone_over" sgone_over f fd) (mrange : mg "range" = none) (mlen : mg "len" = none) : FnOk P w K mg base CX0 (k + 1) f fd ["above", "below"] spGone := by
  refine F.ok scgone_over (fun vs H Q E h => ?_) (fun cdv A' outer s H vs Q E hr h => ?_)
  · obtain ⟨ab, bl, rows, A, N, M, D, rfl, _⟩ := h
    rfl
  obtain ⟨ab, bl, rows, A, N, M, D, rfl, abv, hM, h12, dead, hv, g0, fin⟩ := h
  have hu := hu_of hr
  refine ⟨_, (pss_cons (ps_setLc (i := 2) (own := [("one", 3)]) (g := (gName 3)) rfl scgone_over.nd rfl rfl (sw_true rfl rfl rfl (by decide +kernel)) (pi_range1 (by rfl) mrange (pa_cons (pe_callB call_len_seq (by rfl) mlen (by decide +kernel) (pa_cons (pv 0) pa_nil)) pa_nil)) (blkOk_by (N := ["above", "below", "lows", "one", "highs", "at", "other"]) (sc := defScope sgone_over) (by decide +kernel)) (fun _ _ _ _ _ => (pg_name (i := 3) scgone_over.nd rfl (.inl rfl))) (fun _ _ _ _ _ => (pts_one (pt_cmpR (KRule.op_notInV rfl) (pv 3) (KRule.pe_vals (pv 1)) rfl))) (fun _ _ _ _ _ => (pv 3)))
    (pss_cons (ps_set (i := 4) scgone_over.nd rfl (.inl rfl) (pe_lst pa_nil))
    (pss_cons (ps_set (i := 5) scgone_over.nd rfl (.inl rfl) pe_int)
    (pss_cons (ps_while PassesOwn.never (pt_cmpR op_lt (pv 5) (pe_callB call_len_seq (by rfl) mlen (by decide +kernel) (pa_cons (pv 2) pa_nil)) (nomark _)) (pss_cons (ps_for PassesOwn.never rfl (pi_list (pe_ix ix_list (pv 0) (pe_ix ix_list (pv 2) (pv 5) (fun _ _ => rfl)) (fun _ _ => rfl))) (pg_name (i := 6) scgone_over.nd rfl (.inl rfl)) (pss_one (ps_if (pt_cmpR op_notIn_seq (pv 6) (pv 4) rfl) (pss_cons (ps_expr (pe_bm PySem.F.plainAttrs_list PySem.F.slot_list_append PySem.F.type_list_append mt_append (pv 4) (pa_cons (pv 6) pa_nil)))
    (pss_one (ps_expr (pe_bm PySem.F.plainAttrs_list PySem.F.slot_list_append PySem.F.type_list_append mt_append (pv 2) (pa_cons (pe_dget hu (pv 1) (pv 6) (fun _ _ => rfl)) pa_nil))))) pss_nil)))
    (pss_one (ps_set (i := 5) scgone_over.nd rfl (.inl rfl) (pe_op op_add (pv 5) pe_int)))))
    (pss_one (ps_ret (pe_tup (pa_cons (pv 2) (pa_cons (pv 4) pa_nil))))))))), ?_⟩
  have el : (rows.map V.ref).length = N := by rw [List.length_map, abv.len]
  -- lows
  refine ⟨_, rfl, ab, _, rfl, .inl (SqL.of abv.lst), _, rfl, by omega, by rw [el]; omega, fun lo nlo => ?_⟩
  rw [el, Int.toNat_natCast]
  refine lc_range (lo := 0) (n := N) (fun i H' => Same H H' ∧ H' lo = some (.lst (nsV ((List.range i).filter fun v => !decide (v ∈ M.map (·.2)))))) ⟨same_new nlo, upd_same⟩ (fun i H' hi ⟨sm, hl⟩ => ?_) (fun H' ⟨sm, hl⟩ => ?_)
  · rw [Int.zero_add]
    refine ⟨rfl, _, rfl, _, rfl, bl, _, rfl, sm _ _ hM, fun p np => ⟨(i : Int), p, bl, kvM M, _, rfl, rfl, upd_same, same_new np _ _ (sm _ _ hM), kvM_vals M, _, rfl, ?_⟩⟩
    rw [int_mem]
    have er : (List.range (i + 1)).filter (fun v => !decide (v ∈ M.map (·.2))) = (List.range i).filter (fun v => !decide (v ∈ M.map (·.2))) ++ if (!decide (i ∈ M.map (·.2))) = true then [i] else [] := by
      rw [List.range_succ]; exact filt_snoc _ _ _
    rw [er]
    have hl2 := same_new (o := KRule.ViewV p bl) np _ _ hl
    cases c : !decide (i ∈ M.map (·.2)) with
    | true =>
      refine iteT ⟨_, rfl, _, hl2, ?_, fun b u q => ?_, ?_⟩
      · have l1 := List.length_filter_le (fun v => !decide (v ∈ M.map (·.2))) (List.range i)
        rw [List.length_range] at l1
        rw [List.length_map]
        exact small1000 (by omega)
      · rw [upd_ne (ne_of_none q nlo)]
        exact same_new np _ _ (sm _ _ q)
      · rw [upd_same, if_pos rfl, nsV_snoc]
    | false =>
      refine iteF ⟨same_same sm np, ?_⟩
      rw [if_neg (by simp), List.append_nil]
      exact hl2
  -- highs, at
  refine ⟨Nat.zero_le _, fun hi nhi => ?_⟩
  have s1 : Same H (upd H' hi (.lst [])) := same_same sm nhi
  have hl1 : upd H' hi (.lst []) lo = some (.lst (nsV (lowsF M N))) := same_new nhi _ _ hl
  have nhi0 : H hi = none := sm.free nhi
  have lohi : lo ≠ hi := ne_of_none hl nhi
  have lowlen : (lowsF M N).length ≤ N := by
    have l1 := List.length_filter_le (fun v => !decide (v ∈ M.map (·.2))) (List.range N)
    rw [List.length_range] at l1
    exact l1
  refine ⟨fun m σ H2 => ∃ (y3 y6 : Option V) (a : Nat) (lows highs : List Nat), σ = [some (.ref ab), some (.ref bl), some (.ref lo), y3, some (.ref hi), some (nV a), y6] ∧ Same H H2 ∧ H2 lo = some (.lst (nsV lows)) ∧ H2 hi = some (.lst (nsV highs)) ∧
      K44.GIn A M D N (lowsF M N) lows highs ∧ K44.gone A M m a lows highs = K44.gone A M 25 0 (lowsF M N) [] ∧ a + m = 25,
    ⟨25, none, none, 0, lowsF M N, [], rfl, s1, hl1, upd_same, g0, rfl, rfl⟩, fun m σ H2 ⟨y3, y6, a, lows, highs, e, sm2, hlo, hhi, g, eq, sum⟩ => ?_⟩
  subst e
  have len1 := g.len
  have len2 := g.hlen
  have ell : (nsV lows).length = lows.length := List.length_map _
  refine ⟨_, rfl, _, rfl, lo, _, rfl, .inl (SqL.of hlo), _, _, rfl, rfl, _, rfl, ?_⟩
  rw [ell]
  have elt : decide ((a : Int) < (lows.length : Int)) = decide (a < lows.length) := decide_eq_decide.mpr Int.ofNat_lt
  rw [elt]
  by_cases c : a < lows.length
  · rw [decide_eq_true c]
    refine iteT ?_
    obtain ⟨m, rfl⟩ : ∃ m', m = m' + 1 := ⟨m - 1, by omega⟩
    rw [K44.gone, if_pos c] at eq
    have hla : lows[a]? = some (lows.getD a 0) := by rw [List.getD_eq_getElem?_getD, List.getElem?_eq_getElem c]; rfl
    generalize lows.getD a 0 = l at eq hla
    have hlm : l ∈ lows := List.mem_of_getElem? hla
    have hlN : l < N := g.lowN l hlm
    obtain ⟨p, hp, hrow⟩ := abv.get hlN
    refine ⟨fun σ' H' => ∃ (y3 y6 : Option V) (lows' highs' : List Nat), σ' = [some (.ref ab), some (.ref bl), some (.ref lo), y3, some (.ref hi), some (nV (a + 1)), y6] ∧ Same H H' ∧ H' lo = some (.lst (nsV lows')) ∧ H' hi = some (.lst (nsV highs')) ∧
        K44.GIn A M D N (lowsF M N) lows' highs' ∧ K44.gone A M m (a + 1) lows' highs' = K44.gone A M 25 0 (lowsF M N) [],
      fun σ' H' ⟨y3, y6, lows', highs', e, sm', h1, h2, g', eq'⟩ => ⟨m, by omega, y3, y6, a + 1, lows', highs', e, sm', h1, h2, g', eq', by omega⟩, ?_⟩
    refine ⟨_, rfl, _, rfl, _, rfl, lo, _, _, _, rfl, rfl, SqL.of hlo, atI_nat (at_map hla), ab, _, _, _, rfl, rfl, SqL.of (sm2 _ _ abv.lst), atI_nat (at_map hp), p, rfl, ⟨_, SqL.of (sm2 _ _ hrow)⟩, ?_⟩
    refine for_list (xs := nsV (A l)) (fun i σ H3 => ∃ (y6 : Option V) (lows' highs' : List Nat), σ = [some (.ref ab), some (.ref bl), some (.ref lo), y3, some (.ref hi), some (nV a), y6] ∧ Same H H3 ∧ H3 lo = some (.lst (nsV lows')) ∧ H3 hi = some (.lst (nsV highs')) ∧
        K44.GIn A M D N (lowsF M N) lows' highs' ∧ l ∈ lows' ∧ K44.goneIn M ((A l).drop i) lows' highs' = K44.goneIn M (A l) lows highs)
      ⟨y6, lows, highs, rfl, sm2, hlo, hhi, g, hlm, rfl⟩ (fun i σ H3 _ ⟨_, _, _, _, sm3, _⟩ => SqL.of (sm3 _ _ hrow)) (fun i x σ H3 hx ⟨y6, lows', highs', e, sm3, h1, h2, g', hl', eq'⟩ => ?_) (fun σ H3 ⟨y6, lows', highs', e, sm3, h1, h2, g', hl', eq'⟩ => ?_)
    · subst e
      obtain ⟨o, ho, rfl⟩ := map_at hx
      have hoA : o ∈ A l := List.mem_of_getElem? ho
      have ed : (A l).drop i = o :: (A l).drop (i + 1) := by
        have hi := lt_of_at ho
        rw [List.drop_eq_getElem_cons hi]
        rw [List.getElem?_eq_getElem hi] at ho
        rw [Option.some.inj ho]
      rw [ed, K44.goneIn] at eq'
      have len1' := g'.len
      have len2' := g'.hlen
      refine ⟨_, rfl, _, rfl, hi, nsV highs', rfl, .inl (SqL.of h2), rfl, flat_nats _, _, rfl, ?_⟩
      rw [if_pos rfl, inV_nat]
      by_cases c2 : o ∈ highs'
      · rw [decide_eq_true c2]
        refine iteF ?_
        rw [if_pos c2] at eq'
        exact ⟨_, lows', highs', rfl, sm3, h1, h2, g', hl', eq'⟩
      · rw [decide_eq_false c2]
        refine iteT ?_
        rw [if_neg c2] at eq'
        obtain ⟨s', hs', _⟩ := dead o (g'.lowsD l hl' o hoA)
        refine ⟨_, rfl, .inl ⟨rfl, _, SqL.of h2⟩, _, rfl, hi, nsV highs', _, rfl, rfl, h2, by rw [List.length_map]; exact small1000 (by omega), ?_⟩
        rw [nsV_snoc]
        have keep1 : ∀ b u, H b = some u → upd H3 hi (.lst (nsV (highs' ++ [o]))) b = some u := fun b u q => by rw [upd_ne (ne_of_none q nhi0)]; exact sm3 _ _ q
        have hlo2 : upd H3 hi (.lst (nsV (highs' ++ [o]))) lo = some (.lst (nsV lows')) := by rw [upd_ne lohi]; exact h1
        have hget : DGet (upd H3 hi (.lst (nsV (highs' ++ [o])))) bl (nV o) (some (nV s')) := by
          have q : DGet (upd H3 hi (.lst (nsV (highs' ++ [o])))) bl (nV o) (valV (kvM M) (Sum.inl (o : Int))) := DGet.k (k := Sum.inl (o : Int)) (keep1 _ _ hM)
          rw [kvM_val, hs'] at q
          exact q
        refine ⟨_, rfl, .inl ⟨rfl, _, SqL.of hlo2⟩, _, rfl, _, rfl, bl, _, rfl, hget, lo, nsV lows', _, rfl, rfl, hlo2, by rw [List.length_map]; exact small1000 (by omega), ?_⟩
        rw [nsV_snoc]
        rw [hs', Option.getD_some] at eq'
        have g2 := g'.step abv.lt dead hv hl' hoA c2
        rw [hs', Option.getD_some] at g2
        refine ⟨_, lows' ++ [s'], highs' ++ [o], rfl, fun b u q => ?_, upd_same, ?_, g2, List.mem_append_left _ hl', eq'⟩
        · rw [upd_ne (ne_of_none q nlo)]
          exact keep1 b u q
        · rw [upd_ne (fun e => lohi e.symm), upd_same]
    · subst e
      have elA : (nsV (A l)).length = (A l).length := List.length_map _
      rw [elA, List.drop_length, K44.goneIn] at eq'
      rw [← eq'] at eq
      exact ⟨_, rfl, _, _, rfl, rfl, y3, y6, lows', highs', rfl, sm3, h1, h2, g', eq⟩
  · rw [decide_eq_false c]
    refine iteF ?_
    have eend : K44.gone A M m a lows highs = (lows, highs) := by
      cases m with
      | zero => rfl
      | succ m => rw [K44.gone, if_neg c]
    rw [eend] at eq
    rw [← eq] at fin
    refine ⟨_, rfl, _, rfl, by show 2 ≤ sizeLine; decide, fun t nt => ?_⟩
    exact fin _ t lo hi (same_same sm2 nt) upd_same (same_new nt _ _ hlo) (same_new nt _ _ hhi)
end
end W44
set_option Elab.async false
set_option linter.all false
set_option maxRecDepth 100000
set_option maxHeartbeats 4000000
/-! chains_of -/
namespace W44
open PySem PySem.Spec PyProof.Rows L2 KIt
abbrev schains_of : Stmt := topS 16
theorem scchains_of : FnScope ["above", "below", "after", "other", "one", "chains", "chain"] ["above", "below"] (defScope schains_of) := ⟨rfl, rfl, rfl, by decide +kernel, rfl, by decide +kernel, by decide +kernel⟩
theorem aft_snoc (k v : Nat) : ∀ (m acc : List (Nat × Nat)), K44.aft acc (m ++ [(k, v)]) = K44.mput (K44.aft acc m) v k
  | [], _ => rfl
  | (a, b) :: r, acc => aft_snoc k v r (K44.mput acc b a)
theorem aft_ok {N : Nat} : ∀ (m acc : List (Nat × Nat)), K44.MOk N acc → (∀ p ∈ m, p.1 < N ∧ p.2 < N) → K44.MOk N (K44.aft acc m)
  | [], _, h, _ => h
  | (a, b) :: r, acc, h, q => aft_ok r _ (h.put (q (a, b) List.mem_cons_self).2 (q (a, b) List.mem_cons_self).1) fun p hp => q p (List.mem_cons_of_mem _ hp)
/-- lists of numbers at some places -/
structure LstsAt (H : Hp) (cs : List Addr) (ll : List (List Nat)) : Prop where
  len : cs.length = ll.length
  at' : ∀ (i : Nat) (p : Addr) (l : List Nat), cs[i]? = some p → ll[i]? = some l → H p = some (.lst (nsV l))
theorem LstsAt.same {H H' : Hp} {cs : List Addr} {ll : List (List Nat)} (h : LstsAt H cs ll) (s : Same H H') : LstsAt H' cs ll := ⟨h.len, fun i p l a b => s _ _ (h.at' i p l a b)⟩
theorem LstsAt.keep {H H' : Hp} {cs : List Addr} {ll : List (List Nat)} (h : LstsAt H cs ll) (k : ∀ p ∈ cs, ∀ o, H p = some o → H' p = some o) : LstsAt H' cs ll := ⟨h.len, fun i p l a b => k p (List.mem_of_getElem? a) _ (h.at' i p l a b)⟩
theorem LstsAt.snoc {H : Hp} {cs : List Addr} {ll : List (List Nat)} {p : Addr} {l : List Nat} (h : LstsAt H cs ll) (hp : H p = some (.lst (nsV l))) : LstsAt H (cs ++ [p]) (ll ++ [l]) := by
  refine ⟨by rw [List.length_append, List.length_append, h.len]; rfl, fun i q m a b => ?_⟩
  by_cases c : i < cs.length
  · rw [List.getElem?_append_left c] at a
    rw [List.getElem?_append_left (by rw [← h.len]; exact c)] at b
    exact h.at' i q m a b
  · have hi : i = cs.length := by
      have := lt_of_at a
      rw [List.length_append, List.length_singleton] at this
      omega
    rw [hi, List.getElem?_append_right (Nat.le_refl _), Nat.sub_self] at a
    rw [hi, h.len, List.getElem?_append_right (Nat.le_refl _), Nat.sub_self] at b
    have e1 : p = q := Option.some.inj a
    have e2 : l = m := Option.some.inj b
    rw [← e1, ← e2]
    exact hp
theorem isNone_val (M : List (Nat × Nat)) (i : Nat) : (!(valV (kvM M) (Sum.inl (i : Int))).isSome) = (K44.look M i).isNone := by
  rw [kvM_val]
  cases K44.look M i <;> rfl
section
variable {P : Program} {w : World} {K : PySem.W.Frag} {mg : Str → Option Value} {base : Heap}
def spChains : Sp := fun vs H Q _ => ∃ (ab bl : Addr) (rows : List Addr) (N : Nat) (M : List (Nat × Nat)) (A : Nat → List Nat) (rk : Nat → Nat), vs = [.ref ab, .ref bl] ∧ H ab = some (.lst (rows.map V.ref)) ∧ rows.length = N ∧ H bl = some (.dK (kvM M)) ∧ N ≤ 12 ∧ K44.MOk N M ∧
  (∀ x y, K44.look (K44.aft [] M) x = some y → y ∈ A x) ∧ (∀ x y, y ∈ A x → rk x < rk y) ∧ (∀ x y z, y ∈ A x → z ∈ A y → z ∈ A x) ∧ (∀ i x, x ∈ A i → x < N) ∧
  ∀ H' ch cs, Same H H' → H' ch = some (.lst (cs.map V.ref)) → LstsAt H' cs (K44.chainsF N M) → Q (.ref ch) H'
theorem ok_chains_of {f : Addr} {fd : FuncData} {k : Nat} (F : Fun K "chains_of" "chains_of" schains_of f fd) (mrange : mg "range" = none) (mlen : mg "len" = none) : FnOk P w K mg base CX0 (k + 1) f fd ["above", "below"] spChains := by
  refine F.ok scchains_of (fun vs H Q E h => ?_) (fun cdv A' outer s H vs Q E hr h => ?_)
  · obtain ⟨ab, bl, rows, N, M, A, rk, rfl, _⟩ := h
    rfl
  obtain ⟨ab, bl, rows, N, M, A, rk, rfl, hab, hlen, hM, h12, mok, ha, hrk, tr, hA, fin⟩ := h
  have hu := hu_of hr
  refine ⟨_, (pss_cons (ps_set (i := 2) scchains_of.nd rfl (.inl rfl) pe_dnewK)
    (pss_cons (ps_lock (ps_for PassesOwn.never rfl (pi_items (pv 1)) (pg_tup rfl (pgs_cons (pg_name (i := 3) scchains_of.nd rfl (.inl rfl)) (pgs_cons (pg_name (i := 4) scchains_of.nd rfl (.inl rfl)) pgs_nil))) (pss_one (ps_dput hu (pv 2) (pv 4) (pv 3) rfl))))
    (pss_cons (ps_set (i := 5) scchains_of.nd rfl (.inl rfl) (pe_lst pa_nil))
    (pss_cons (ps_for PassesOwn.never rfl (pi_range1 (by rfl) mrange (pa_cons (pe_callB call_len_seq (by rfl) mlen (by decide +kernel) (pa_cons (pv 0) pa_nil)) pa_nil)) (pg_name (i := 4) scchains_of.nd rfl (.inl rfl)) (pss_one (ps_if (pt_cmp (pc_dnotin hu (pv 4) (pv 1)) rfl) (pss_cons (ps_set (i := 6) scchains_of.nd rfl (.inl rfl) (pe_lst (pa_cons (pv 4) pa_nil)))
    (pss_cons (ps_while PassesOwn.never (pt_cmp (pc_din hu (pe_ix ix_list (pv 6) (pe_un un_neg pe_int) (fun _ _ => rfl)) (pv 2)) rfl) (pss_one (ps_expr (pe_bm PySem.F.plainAttrs_list PySem.F.slot_list_append PySem.F.type_list_append mt_append (pv 6) (pa_cons (pe_dget hu (pv 2) (pe_ix ix_list (pv 6) (pe_un un_neg pe_int) (fun _ _ => rfl)) (fun _ _ => rfl)) pa_nil)))))
    (pss_one (ps_expr (pe_bm PySem.F.plainAttrs_list PySem.F.slot_list_append PySem.F.type_list_append mt_append (pv 5) (pa_cons (pv 6) pa_nil)))))) pss_nil)))
    (pss_one (ps_ret (pv 5))))))), ?_⟩
  have el : (rows.map V.ref).length = N := by rw [List.length_map, hlen]
  have lenM := mok.len
  intro af naf
  have s1 : Same H (upd H af (.dK [])) := same_new naf
  refine ⟨bl, .dK (kvM M), s1 _ _ hM, trivial, fun od => ?_⟩
  refine ⟨_, rfl, bl, od, kvM M, rfl, upd_same, ?_⟩
  have afbl : af ≠ bl := (ne_of_none hM naf).symm
  refine for_it (walk_items (kvs := kvM M)) (fun i σ H2 => ∃ (y3 y4 : Option V), σ = [some (.ref ab), some (.ref bl), some (.ref af), y3, y4, none, none] ∧ H2 bl = some (.frz od (.dK (kvM M))) ∧ H2 af = some (.dK (kvM (K44.aft [] (M.take i)))) ∧ ∀ b u, b ≠ bl → H b = some u → H2 b = some u)
    ⟨none, none, rfl, upd_same, by rw [upd_ne afbl, upd_same]; rfl, fun b u h1 q => by rw [upd_ne h1]; exact s1 _ _ q⟩ (fun i σ H2 _ ⟨_, _, _, h, _⟩ => h) (fun i x σ H2 H3 hi ⟨y3, y4, e, hbl, haf, keep⟩ yv => ?_) (fun σ H2 ⟨y3, y4, e, hbl, haf, keep⟩ => ?_)
  · subst e
    obtain ⟨T, x1, x2, rfl, nT, rfl, f1, f2⟩ := yv
    rw [kvM_len] at hi
    have hMi : M[i]? = some M[i] := List.getElem?_eq_getElem hi
    generalize M[i] = pq at hMi
    obtain ⟨kk, vv⟩ := pq
    have hki : (kvM M)[i]? = some (Sum.inl (kk : Int), nV vv) := at_map (f := fun p : Nat × Nat => ((Sum.inl (p.1 : Int) : Key), nV p.2)) hMi
    have f1 : ((kvM M)[i]?.map fun kv => kV kv.1) = some x1 := f1
    have f2 : ((kvM M)[i]?.map Prod.snd) = some x2 := f2
    rw [hki] at f1 f2
    obtain rfl : nV kk = x1 := Option.some.inj f1
    obtain rfl : nV vv = x2 := Option.some.inj f2
    have tk : K44.MOk N (K44.aft [] (M.take i)) := aft_ok (M.take i) [] K44.MOk.nil fun p hp => mok.lt p (List.mem_of_mem_take hp)
    have ltk := tk.len
    have haf2 : upd H2 T (.tup [nV kk, nV vv]) af = some (.dK (kvM (K44.aft [] (M.take i)))) := same_new nT _ _ haf
    refine ⟨T, [nV kk, nV vv], rfl, SqT.of upd_same, rfl, nV kk, [nV vv], rfl, nV vv, [], rfl, rfl, ?_⟩
    refine ⟨_, rfl, _, rfl, _, rfl, af, _, rfl, DPut.k (k := Sum.inl (vv : Int)) haf2 (by rw [kvM_len]; exact small1000 (by omega)), ?_⟩
    rw [kvM_put tk.nd]
    refine ⟨_, _, rfl, ?_, ?_, fun b u h1 q => ?_⟩
    · rw [upd_ne (fun e => afbl e.symm)]
      exact same_new nT _ _ hbl
    · rw [upd_same, take_snoc hMi, aft_snoc]
    · rw [upd_ne (ne_of_none q naf)]
      exact same_new nT _ _ (keep b u h1 q)
  · subst e
    rw [kvM_len, List.take_length] at haf
    refine ⟨hbl, ?_⟩
    generalize hH4 : upd H2 bl (.dK (kvM M)) = H4
    have s4 : Same H H4 := fun b u q => by
      rw [← hH4]
      by_cases c : b = bl
      · rw [c, upd_same, ← hM, ← c, q]
      · rw [upd_ne c]; exact keep b u c q
    have haf4 : H4 af = some (.dK (kvM (K44.aft [] M))) := by rw [← hH4, upd_ne afbl]; exact haf
    clear hH4 keep haf hbl
    -- chains
    refine ⟨Nat.zero_le _, fun ch nch => ?_⟩
    have s5 : Same H (upd H4 ch (.lst [])) := same_same s4 nch
    have haf5 : upd H4 ch (.lst []) af = some (.dK (kvM (K44.aft [] M))) := same_new nch _ _ haf4
    have nch0 : H ch = none := s4.free nch
    refine ⟨_, rfl, ab, _, rfl, .inl (SqL.of (s5 _ _ hab)), _, rfl, by omega, by rw [el]; omega, ?_⟩
    rw [el, Int.toNat_natCast]
    refine for_range (lo := 0) (n := N) (fun i σ H5 => ∃ (y3 y4 y6 : Option V) (cs : List Addr), σ = [some (.ref ab), some (.ref bl), some (.ref af), y3, y4, some (.ref ch), y6] ∧ Same H H5 ∧ H5 af = some (.dK (kvM (K44.aft [] M))) ∧ H5 ch = some (.lst (cs.map V.ref)) ∧ ch ∉ cs ∧
        LstsAt H5 cs (((List.range i).filter fun v => (K44.look M v).isNone).map (K44.chainF (K44.look (K44.aft [] M)) 12)))
      ⟨_, _, none, [], rfl, s5, haf5, upd_same, by simp, rfl, fun i p l a b => by simp at a⟩ (fun i σ H5 hi ⟨y3, y4, y6, cs, e, sm, h1, h2, nin, ll⟩ => ?_) (fun σ H5 ⟨y3, y4, y6, cs, e, sm, h1, h2, nin, ll⟩ => ?_)
    · subst e
      rw [Int.zero_add]
      have er : (List.range (i + 1)).filter (fun v => (K44.look M v).isNone) = (List.range i).filter (fun v => (K44.look M v).isNone) ++ if (K44.look M i).isNone = true then [i] else [] := by
        rw [List.range_succ]; exact filt_snoc _ _ _
      refine ⟨_, rfl, _, rfl, bl, _, rfl, DGet.k (k := Sum.inl (i : Int)) (sm _ _ hM), _, rfl, ?_⟩
      rw [isNone_val, er]
      cases c : (K44.look M i).isNone with
      | false =>
        refine iteF ?_
        rw [if_neg (by simp), List.append_nil]
        exact ⟨y3, _, y6, cs, rfl, sm, h1, h2, nin, ll⟩
      | true =>
        refine iteT ?_
        rw [if_pos rfl]
        refine ⟨_, rfl, by show 1 ≤ sizeLine; decide, fun c nc => ?_⟩
        have lencs : cs.length ≤ 12 := by
          have l1 := List.length_filter_le (fun v => (K44.look M v).isNone) (List.range i)
          rw [List.length_range] at l1
          rw [ll.len, List.length_map]
          omega
        refine ⟨fun m σ H6 => ∃ (pre : List Nat) (x : Nat), σ = [some (.ref ab), some (.ref bl), some (.ref af), y3, some (nV i), some (.ref ch), some (.ref c)] ∧ Same H5 H6 ∧ H6 c = some (.lst (nsV (pre ++ [x]))) ∧ K44.COk A N (pre ++ [x]) ∧ (pre ++ [x]).length + m = 13 ∧
            pre ++ K44.chainF (K44.look (K44.aft [] M)) m x = K44.chainF (K44.look (K44.aft [] M)) 12 i,
          ⟨12, [], i, rfl, same_new nc, upd_same, K44.one_ok hi, rfl, rfl⟩, fun m σ H6 ⟨pre, x, e, sm6, hc, cok, sum, eq⟩ => ?_⟩
        subst e
        have len6 := cok.len hrk
        have elast : atI (nsV (pre ++ [x])) (-1) = some (nV x) := by rw [← nsV_snoc]; exact atI_last _ _
        refine ⟨_, rfl, 1, rfl, c, _, _, _, rfl, rfl, SqL.of hc, elast, _, rfl, af, _, rfl, DGet.k (k := Sum.inl (x : Int)) (sm6 _ _ h1), _, rfl, ?_⟩
        rw [kvM_val]
        obtain ⟨m, rfl⟩ : ∃ m', m = m' + 1 := ⟨m - 1, by omega⟩
        rw [K44.chainF] at eq
        cases hl : K44.look (K44.aft [] M) x with
        | some y =>
          refine iteT ?_
          rw [hl] at eq
          have hy := ha x y hl
          have hget : DGet H6 af (nV x) (some (nV y)) := by
            have q : DGet H6 af (nV x) (valV (kvM (K44.aft [] M)) (Sum.inl (x : Int))) := DGet.k (k := Sum.inl (x : Int)) (sm6 _ _ h1)
            rw [kvM_val, hl] at q
            exact q
          refine ⟨fun σ' H' => ∃ (pre' : List Nat) (x' : Nat), σ' = [some (.ref ab), some (.ref bl), some (.ref af), y3, some (nV i), some (.ref ch), some (.ref c)] ∧ Same H5 H' ∧ H' c = some (.lst (nsV (pre' ++ [x']))) ∧ K44.COk A N (pre' ++ [x']) ∧ (pre' ++ [x']).length + m = 13 ∧
              pre' ++ K44.chainF (K44.look (K44.aft [] M)) m x' = K44.chainF (K44.look (K44.aft [] M)) 12 i, fun σ' H' q => ⟨m, Nat.lt_succ_self m, q⟩, ?_⟩
          refine ⟨_, rfl, .inl ⟨rfl, _, SqL.of hc⟩, _, rfl, _, rfl, 1, rfl, c, _, _, _, rfl, rfl, SqL.of hc, elast, af, _, rfl, hget, c, _, _, rfl, rfl, hc, by rw [List.length_map]; exact small1000 (by omega), ?_⟩
          rw [nsV_snoc]
          refine ⟨pre ++ [x], y, rfl, fun b u q => ?_, upd_same, cok.snoc tr hy (hA x y hy), ?_, ?_⟩
          · rw [upd_ne (ne_of_none q nc)]
            exact sm6 _ _ q
          · rw [List.length_append, List.length_singleton]
            omega
          · dsimp only at eq
            rw [List.append_assoc]
            exact eq
        | none =>
          refine iteF ?_
          rw [hl] at eq
          dsimp only at eq
          -- chains.append(chain)
          have hch6 : H6 ch = some (.lst (cs.map V.ref)) := sm6 _ _ h2
          have cch : c ≠ ch := (ne_of_none h2 nc).symm
          refine ⟨_, rfl, .inl ⟨rfl, _, SqL.of hch6⟩, _, rfl, ch, _, _, rfl, rfl, hch6, by rw [List.length_map]; exact small1000 (by omega), ?_⟩
          have sm7 : Same H (upd H6 ch (.lst (cs.map V.ref ++ [.ref c]))) := fun b u q => by
            rw [upd_ne (ne_of_none q nch0)]
            exact sm6 _ _ (sm _ _ q)
          refine ⟨y3, _, _, cs ++ [c], rfl, sm7, ?_, by rw [upd_same, List.map_append]; rfl, fun z => ?_, ?_⟩
          · rw [upd_ne (ne_of h1 h2 (by intro z; cases z))]
            exact sm6 _ _ h1
          · rcases List.mem_append.mp z with z | z
            · exact nin z
            · exact cch (List.mem_singleton.mp z).symm
          · rw [List.map_append]
            refine LstsAt.snoc ((ll.same sm6).keep fun p hp o q => by rw [upd_ne (fun e : p = ch => nin (e ▸ hp))]; exact q) ?_
            rw [upd_ne cch, hc, ← eq]
    · subst e
      refine ⟨_, rfl, fin H5 ch cs sm h2 ll⟩
end
end W44
set_option Elab.async false
set_option linter.all false
set_option maxRecDepth 100000
set_option maxHeartbeats 4000000
/-! line_by -/
namespace W44
open PySem PySem.Spec PyProof.Rows L2 KIt
abbrev sline_by : Stmt := topS 17
theorem scline_by : FnScope ["row", "loops", "chain", "line", "number", "name"] ["row", "loops", "chain"] (defScope sline_by) := ⟨rfl, rfl, rfl, by decide +kernel, rfl, by decide +kernel, by decide +kernel⟩
theorem fold_len {row : List Str} {C : Nat → List Str} (hr : row.Nodup) (vs : List Nat) : (vs.foldl (K44.lineStep row C) []).length ≤ row.length :=
  K44.nd_len (K44.fold_nd hr vs [] List.nodup_nil) (K44.fold_sub vs [] fun x hx => by simp at hx)
section
variable {P : Program} {w : World} {K : PySem.W.Frag} {mg : Str → Option Value} {base : Heap}
def spLine : Sp := fun vs H Q _ => ∃ (ra la ch : Addr) (b c : Bool) (row : List Str) (ps : List Addr) (ls : List Lp) (chain : List Nat), vs = [.ref ra, .ref la, .ref ch] ∧ Sq H b ra (row.map V.str) ∧ RowOk row ∧ Sq H c la (ps.map V.ref) ∧ LpsAt H ps ls ∧
  H ch = some (.lst (nsV chain)) ∧ (∀ v ∈ chain, v < ls.length) ∧ ∀ H' p, Same H H' → H p = none → H' p = some (.lst ((K44.lineBy row (cOf ls) chain).map V.str)) → Q (.ref p) H'
theorem ok_line_by {f : Addr} {fd : FuncData} {k : Nat} (F : Fun K "line_by" "line_by" sline_by f fd) (mreversed : mg "reversed" = none) : FnOk P w K mg base CX0 (k + 1) f fd ["row", "loops", "chain"] spLine := by
  refine F.ok scline_by (fun vs H Q E h => ?_) (fun cdv A' outer s H vs Q E hr h => ?_)
  · obtain ⟨ra, la, ch, b, c, row, ps, ls, chain, rfl, _⟩ := h
    rfl
  obtain ⟨ra, la, ch, b, c, row, ps, ls, chain, rfl, hrow, rok, hls, hps, hch, hlt, fin⟩ := h
  refine ⟨_, (pss_cons (ps_set (i := 3) scline_by.nd rfl (.inr rfl) (pe_lst pa_nil))
    (pss_cons (ps_for PassesOwn.never rfl (pi_reversed (by rfl) mreversed (pa_cons (pv 2) pa_nil)) (pg_name (i := 4) scline_by.nd rfl (.inr rfl)) (pss_one (ps_expr (pe_bm PySem.F.plainAttrs_list PySem.F.slot_list_extend PySem.F.type_list_extend mt_extend (pv 3) (pa_cons (pe_lc (own := [("name", 5)]) (g := (gName 5)) rfl scline_by.nd (pi_seq (pv 0)) (blkOk_by (N := ["row", "loops", "chain", "line", "number", "name"]) (sc := defScope sline_by) (by decide +kernel)) (fun _ _ _ _ _ => (pg_name (i := 5) scline_by.nd rfl (.inl rfl))) (fun _ _ _ _ _ => (pts_one (PW.pt (pw_and (pt_cmpR (r := rIn K true) op_notIn_seq (pv 5) (pe_ix (r := rIxT K) ix_tup (pe_ix (r := rIx K) ix_seq (pv 1) (pv 4) (fun _ _ => rfl)) pe_int (fun _ _ => rfl)) rfl) (pw_and1 (pt_cmpR (r := rIn K true) op_notIn_seq (pv 5) (pv 3) rfl)))))) (fun _ _ _ _ _ => (pv 5))) pa_nil)))))
    (pss_one (ps_ret (pe_op op_cat (pv 3) (pe_lc (own := [("name", 5)]) (g := (gName 5)) rfl scline_by.nd (pi_seq (pv 0)) (blkOk_by (N := ["row", "loops", "chain", "line", "number", "name"]) (sc := defScope sline_by) (by decide +kernel)) (fun _ _ _ _ _ => (pg_name (i := 5) scline_by.nd rfl (.inl rfl))) (fun _ _ _ _ _ => (pts_one (pt_cmpR (r := rIn K true) op_notIn_seq (pv 5) (pv 3) rfl))) (fun _ _ _ _ _ => (pv 5)))))))), ?_⟩
  refine ⟨Nat.zero_le _, fun ln nln => ?_⟩
  have s1 : Same H (upd H ln (.lst [])) := same_new nln
  refine ⟨_, rfl, ch, nsV chain, rfl, SqL.of (s1 _ _ hch), ?_⟩
  have elc : (nsV chain).length = chain.length := List.length_map _
  refine for_it (walk_rev (xs := nsV chain)) (fun i σ H' => ∃ (y4 y5 : Option V), σ = [some (.ref ra), some (.ref la), some (.ref ch), some (.ref ln), y4, y5] ∧ Same H H' ∧ H' ln = some (.lst (((chain.reverse.take i).foldl (K44.lineStep row (cOf ls)) []).map V.str)))
    ⟨none, none, rfl, s1, upd_same⟩ (fun i σ H' _ ⟨_, _, _, sm, _⟩ => SqL.of (sm _ _ hch)) (fun i x σ H' H2 hi ⟨y4, y5, e, sm, hln⟩ yv => ?_) (fun σ H' ⟨y4, y5, e, sm, hln⟩ => ?_)
  · subst e
    obtain ⟨rfl, hx⟩ := yv
    rw [elc] at hi hx
    obtain ⟨v, hv, rfl⟩ := map_at hx
    have hvm : v ∈ chain := List.mem_of_getElem? hv
    have hvl := hlt v hvm
    obtain ⟨p, hp, lp⟩ := hps.get hvl
    obtain ⟨q, hq1, hq2⟩ := lp
    have ec : cOf ls v = ls[v].coming := cOf_at hvl
    have erv : chain.reverse[i]? = some v := by rw [List.getElem?_reverse hi]; exact hv
    rw [take_snoc erv, List.foldl_append]
    have lenl : ((chain.reverse.take i).foldl (K44.lineStep row (cOf ls)) []).length ≤ row.length := fold_len rok.nd _
    generalize (chain.reverse.take i).foldl (K44.lineStep row (cOf ls)) [] = line at hln lenl
    have rl := rok.len
    refine ⟨_, rfl, .inl ⟨rfl, _, SqL.of hln⟩, _, rfl, b, ra, _, rfl, sm _ _ hrow, fun D nD => ?_⟩
    have sD := same_same sm (o := .lst []) nD
    refine lc_seq (xs := row.map V.str) (fun j H3 => Same H2 H3 ∧ H3 D = some (.lst (((row.take j).filter fun x => !decide (x ∈ cOf ls v) && !decide (x ∈ line)).map V.str))) ⟨same_new nD, upd_same⟩ (fun j H3 _ q => q.1 _ _ (sm _ _ hrow)) (fun j x H3 hx ⟨sm3, hD⟩ => ?_) (fun H3 ⟨sm3, hD⟩ => ?_)
    · obtain ⟨z, hz, rfl⟩ := map_at hx
      have hj := lt_of_at hz
      rw [take_snoc hz, filt_snoc]
      have kp : ∀ u o, H u = some o → H3 u = some o := fun u o q => sm3 _ _ (sm _ _ q)
      have lenf := List.length_filter_le (fun x => !decide (x ∈ cOf ls v) && !decide (x ∈ line)) (row.take j)
      rw [List.length_take] at lenf
      have wr : ∀ y, Same H2 (upd H3 D (.lst y)) := fun y b u q => by rw [upd_ne (ne_of_none q nD)]; exact sm3 _ _ q
      refine ⟨rfl, _, rfl, _, rfl, _, rfl, rIx_of (kp _ _ hls) (at_map hp) ⟨p, _, _, _, rfl, rfl, SqT.of (kp _ _ hq1), atI_nat (j := 2) rfl, q, ls[v].coming.map V.str, rfl, .inr (SqT.of (kp _ _ hq2)), rfl, flat_strs' _, _, rfl, ?_⟩⟩
      rw [if_pos rfl, inV_str, ← ec]
      by_cases c1 : z ∈ cOf ls v
      · rw [decide_eq_true c1]
        refine iteF (iteF ?_)
        rw [if_neg (by simp), List.append_nil]
        exact ⟨sm3, hD⟩
      · rw [decide_eq_false c1]
        refine iteT ⟨_, rfl, _, rfl, ln, line.map V.str, rfl, .inl (SqL.of (sm3 _ _ hln)), rfl, flat_strs' _, _, rfl, ?_⟩
        rw [if_pos rfl, inV_str]
        by_cases c2 : z ∈ line
        · rw [decide_eq_true c2]
          refine iteF ?_
          rw [if_neg (by simp), List.append_nil]
          exact ⟨sm3, hD⟩
        · rw [decide_eq_false c2]
          refine iteT ⟨_, rfl, _, hD, by rw [List.length_map]; exact small1000 (by omega), wr _, ?_⟩
          rw [upd_same, if_pos (by simp), List.map_append]
          rfl
    · have elr : (row.map V.str).length = row.length := List.length_map _
      rw [elr, List.take_length] at hD
      have lenf := List.length_filter_le (fun x => !decide (x ∈ cOf ls v) && !decide (x ∈ line)) row
      refine ⟨ln, D, _, _, rfl, rfl, sm3 _ _ hln, hD, by rw [List.length_map, List.length_map]; exact few (by omega), ?_⟩
      refine ⟨_, _, rfl, fun u o q => ?_, ?_⟩
      · rw [upd_ne (ne_of_none q nln)]
        exact sm3 _ _ (sm _ _ q)
      · rw [upd_same, ← List.map_append]
        rfl
  · subst e
    rw [elc] at hln
    have erev : chain.reverse.take chain.length = chain.reverse := List.take_of_length_le (by rw [List.length_reverse]; exact Nat.le_refl _)
    rw [erev] at hln
    have lenl : (K44.lineGo row (cOf ls) chain).length ≤ row.length := fold_len rok.nd _
    have hln : H' ln = some (.lst ((K44.lineGo row (cOf ls) chain).map V.str)) := hln
    have rl := rok.len
    refine ⟨_, rfl, _, rfl, b, ra, _, rfl, sm _ _ hrow, fun D nD => ?_⟩
    refine lc_seq (xs := row.map V.str) (fun j H3 => Same H' H3 ∧ H3 D = some (.lst (((row.take j).filter fun x => !decide (x ∈ K44.lineGo row (cOf ls) chain)).map V.str))) ⟨same_new nD, upd_same⟩ (fun j H3 _ q => q.1 _ _ (sm _ _ hrow)) (fun j x H3 hx ⟨sm3, hD⟩ => ?_) (fun H3 ⟨sm3, hD⟩ => ?_)
    · obtain ⟨z, hz, rfl⟩ := map_at hx
      have hj := lt_of_at hz
      rw [take_snoc hz, filt_snoc]
      have lenf := List.length_filter_le (fun x => !decide (x ∈ K44.lineGo row (cOf ls) chain)) (row.take j)
      rw [List.length_take] at lenf
      refine ⟨rfl, _, rfl, _, rfl, ln, _, rfl, .inl (SqL.of (sm3 _ _ hln)), rfl, flat_strs' _, _, rfl, ?_⟩
      rw [if_pos rfl, inV_str]
      by_cases c2 : z ∈ K44.lineGo row (cOf ls) chain
      · rw [decide_eq_true c2]
        refine iteF ?_
        rw [if_neg (by simp), List.append_nil]
        exact ⟨sm3, hD⟩
      · rw [decide_eq_false c2]
        refine iteT ⟨_, rfl, _, hD, by rw [List.length_map]; exact small1000 (by omega), fun b u q => ?_, ?_⟩
        · rw [upd_ne (ne_of_none q nD)]
          exact sm3 _ _ q
        · rw [upd_same, if_pos (by simp), List.map_append]
          rfl
    · have elr : (row.map V.str).length = row.length := List.length_map _
      rw [elr, List.take_length] at hD
      have lenf := List.length_filter_le (fun x => !decide (x ∈ K44.lineGo row (cOf ls) chain)) row
      refine ⟨ln, D, _, _, rfl, rfl, sm3 _ _ hln, hD, by rw [List.length_map, List.length_map]; exact few (by omega), fun p np => ?_⟩
      have sH3 := sm.trans sm3
      refine fin _ p (same_same sH3 np) (sH3.free np) ?_
      rw [upd_same, ← List.map_append]
      rfl
end
end W44
set_option Elab.async false
set_option linter.all false
set_option maxRecDepth 100000
set_option maxHeartbeats 8000000
/-! lines_of -/
namespace W44
open PySem PySem.Spec PyProof.Rows L2 KIt
abbrev slines_of : Stmt := topS 18
theorem sclines_of : FnScope ["row", "loops", "many", "above", "other", "one", "below", "chains", "seats", "number", "loop", "line", "at", "chain", "lows", "highs", "apart"] ["row", "loops"] (defScope slines_of) := ⟨rfl, rfl, rfl, by decide +kernel, rfl, by decide +kernel, by decide +kernel⟩
/-- the scope of the comprehension that the i-th statement of a def stores -/
def compScopeAt (s : Stmt) (i : Nat) : Scope := match (defBody s).getD i (.Pass ⟨0, 0, 0, 0⟩) with
  | .Assign _ (.ListComp _ _ sc _) _ => sc
  | _ => { kind := .function, names := [], isGenerator := false, isCoroutine := false }
/-- lists of texts at some places -/
structure TxtsAt (H : Hp) (cs : List Addr) (ll : List (List Str)) : Prop where
  len : cs.length = ll.length
  at' : ∀ (i : Nat) (p : Addr) (l : List Str), cs[i]? = some p → ll[i]? = some l → H p = some (.lst (l.map V.str))
theorem TxtsAt.same {H H' : Hp} {cs : List Addr} {ll : List (List Str)} (h : TxtsAt H cs ll) (s : Same H H') : TxtsAt H' cs ll := ⟨h.len, fun i p l a b => s _ _ (h.at' i p l a b)⟩
theorem TxtsAt.keep {H H' : Hp} {cs : List Addr} {ll : List (List Str)} (h : TxtsAt H cs ll) (k : ∀ p ∈ cs, ∀ o, H p = some o → H' p = some o) : TxtsAt H' cs ll := ⟨h.len, fun i p l a b => k p (List.mem_of_getElem? a) _ (h.at' i p l a b)⟩
theorem TxtsAt.snoc {H : Hp} {cs : List Addr} {ll : List (List Str)} {p : Addr} {l : List Str} (h : TxtsAt H cs ll) (hp : H p = some (.lst (l.map V.str))) : TxtsAt H (cs ++ [p]) (ll ++ [l]) := by
  refine ⟨by rw [List.length_append, List.length_append, h.len]; rfl, fun i q m a b => ?_⟩
  by_cases c : i < cs.length
  · rw [List.getElem?_append_left c] at a
    rw [List.getElem?_append_left (by rw [← h.len]; exact c)] at b
    exact h.at' i q m a b
  · have hi : i = cs.length := by
      have := lt_of_at a
      rw [List.length_append, List.length_singleton] at this
      omega
    rw [hi, List.getElem?_append_right (Nat.le_refl _), Nat.sub_self] at a
    rw [hi, h.len, List.getElem?_append_right (Nat.le_refl _), Nat.sub_self] at b
    have e1 : p = q := Option.some.inj a
    have e2 : l = m := Option.some.inj b
    rw [← e1, ← e2]
    exact hp
/-- pairs of whole numbers at some places -/
structure PairsAt (H : Hp) (cs : List Addr) (ll : List (Nat × Int)) : Prop where
  len : cs.length = ll.length
  at' : ∀ (i : Nat) (p : Addr) (l : Nat × Int), cs[i]? = some p → ll[i]? = some l → H p = some (.tup [nV l.1, .int l.2])
theorem PairsAt.same {H H' : Hp} {cs : List Addr} {ll : List (Nat × Int)} (h : PairsAt H cs ll) (s : Same H H') : PairsAt H' cs ll := ⟨h.len, fun i p l a b => s _ _ (h.at' i p l a b)⟩
theorem PairsAt.keep {H H' : Hp} {cs : List Addr} {ll : List (Nat × Int)} (h : PairsAt H cs ll) (k : ∀ p ∈ cs, ∀ o, H p = some o → H' p = some o) : PairsAt H' cs ll := ⟨h.len, fun i p l a b => k p (List.mem_of_getElem? a) _ (h.at' i p l a b)⟩
theorem PairsAt.snoc {H : Hp} {cs : List Addr} {ll : List (Nat × Int)} {p : Addr} {l : Nat × Int} (h : PairsAt H cs ll) (hp : H p = some (.tup [nV l.1, .int l.2])) : PairsAt H (cs ++ [p]) (ll ++ [l]) := by
  refine ⟨by rw [List.length_append, List.length_append, h.len]; rfl, fun i q m a b => ?_⟩
  by_cases c : i < cs.length
  · rw [List.getElem?_append_left c] at a
    rw [List.getElem?_append_left (by rw [← h.len]; exact c)] at b
    exact h.at' i q m a b
  · have hi : i = cs.length := by
      have := lt_of_at a
      rw [List.length_append, List.length_singleton] at this
      omega
    rw [hi, List.getElem?_append_right (Nat.le_refl _), Nat.sub_self] at a
    rw [hi, h.len, List.getElem?_append_right (Nat.le_refl _), Nat.sub_self] at b
    have e1 : p = q := Option.some.inj a
    have e2 : l = m := Option.some.inj b
    rw [← e1, ← e2]
    exact hp
/-- the seats as they are told -/
def seatOf (row : List Str) (ls : List Lp) (v : Nat) : Nat × Int := (K44.lineNo (cOf ls) ls.length v, (row.length : Int) - ((cOf ls v).length : Int))
def seatsOf (row : List Str) (ls : List Lp) : List (Nat × Int) := (List.range ls.length).map (seatOf row ls)
def linesF (row : List Str) (ls : List Lp) : List (List Str) := K44.linesOf row (cOf ls) ls.length
def apartF (ls : List Lp) : List Nat := K44.apartOf (cOf ls) ls.length
/-- what lines_of tells stands at t -/
structure ToldAt (H : Hp) (t l1 l2 l3 : Addr) (lns sts : List Addr) (row : List Str) (ls : List Lp) : Prop where
  t : H t = some (.tup [.ref l1, .ref l2, .ref l3])
  l1 : H l1 = some (.lst (lns.map V.ref))
  lns : TxtsAt H lns (linesF row ls)
  l2 : H l2 = some (.lst (sts.map V.ref))
  sts : PairsAt H sts (seatsOf row ls)
  l3 : H l3 = some (.lst (nsV (apartF ls)))
theorem ToldAt.same {H H' : Hp} {t l1 l2 l3 : Addr} {lns sts : List Addr} {row : List Str} {ls : List Lp} (h : ToldAt H t l1 l2 l3 lns sts row ls) (s : Same H H') : ToldAt H' t l1 l2 l3 lns sts row ls :=
  ⟨s _ _ h.t, s _ _ h.l1, h.lns.same s, s _ _ h.l2, h.sts.same s, s _ _ h.l3⟩
theorem loops_nd {row : List Str} {ls : List Lp} (hok : ∀ l ∈ ls, LpOk row l) : ∀ i, i < ls.length → (cOf ls i).Nodup := fun i hi => by rw [cOf_at hi]; exact (hok _ (List.getElem_mem hi)).nd
section
variable {P : Program} {w : World} {K : PySem.W.Frag} {mg : Str → Option Value} {base : Heap}
/-- lines_of -/
def spLines : Sp := fun vs H Q _ => ∃ (ra la : Addr) (b c : Bool) (row : List Str) (ps : List Addr) (ls : List Lp), vs = [.ref ra, .ref la] ∧ Sq H b ra (row.map V.str) ∧ RowOk row ∧ Sq H c la (ps.map V.ref) ∧ LpsAt H ps ls ∧ ls.length ≤ 12 ∧ (∀ l ∈ ls, LpOk row l) ∧
  ∀ H' t l1 l2 l3 lns sts, Same H H' → ToldAt H' t l1 l2 l3 lns sts row ls → H l1 = none → H l2 = none → H l3 = none → (∀ p ∈ lns, H p = none) → Q (.ref t) H'
theorem ok_lines_of {f f1 f2 f3 f4 f5 f6 : Addr} {fd d1 d2 d3 d4 d5 d6 : FuncData} {k : Nat} (F : Fun K "lines_of" "lines_of" slines_of f fd)
    (Glook_at_loops : FnOk P w K mg base CX0 k f1 d1 ["row", "loops"] spLook) (klook_at_loops : PySem.W.keepIn K (.ref f1) = true) (blook_at_loops : Binds K d1 ["row", "loops"] []) (mlook_at_loops : mg "look_at_loops" = some (.ref f1))
    (Gstands_under : FnOk P w K mg base CX0 k f2 d2 ["loops", "one", "other"] spUnder) (kstands_under : PySem.W.keepIn K (.ref f2) = true) (bstands_under : Binds K d2 ["loops", "one", "other"] []) (mstands_under : mg "stands_under" = some (.ref f2))
    (Gpaired : FnOk P w K mg base CX0 k f3 d3 ["above"] spPaired) (kpaired : PySem.W.keepIn K (.ref f3) = true) (bpaired : Binds K d3 ["above"] []) (mpaired : mg "paired" = some (.ref f3))
    (Gchains_of : FnOk P w K mg base CX0 k f4 d4 ["above", "below"] spChains) (kchains_of : PySem.W.keepIn K (.ref f4) = true) (bchains_of : Binds K d4 ["above", "below"] []) (mchains_of : mg "chains_of" = some (.ref f4))
    (Ggone_over : FnOk P w K mg base CX0 k f5 d5 ["above", "below"] spGone) (kgone_over : PySem.W.keepIn K (.ref f5) = true) (bgone_over : Binds K d5 ["above", "below"] []) (mgone_over : mg "gone_over" = some (.ref f5))
    (Gline_by : FnOk P w K mg base CX0 k f6 d6 ["row", "loops", "chain"] spLine) (kline_by : PySem.W.keepIn K (.ref f6) = true) (bline_by : Binds K d6 ["row", "loops", "chain"] []) (mline_by : mg "line_by" = some (.ref f6))
    (mlen : mg "len" = none) (mrange : mg "range" = none) (menumerate : mg "enumerate" = none) : FnOk P w K mg base CX0 (k + 1) f fd ["row", "loops"] spLines := by
  refine F.ok sclines_of (fun vs H Q E h => ?_) (fun cdv A' outer s H vs Q E hr h => ?_)
  · obtain ⟨ra, la, b, c, row, ps, ls, rfl, _⟩ := h
    rfl
  obtain ⟨ra, la, b, c, row, ps, ls, rfl, hrow, rok, hls, hps, h12, hok, fin⟩ := h
  refine ⟨_, (pss_cons (ps_expr (pe_call Glook_at_loops hr rfl mlook_at_loops klook_at_loops blook_at_loops .nil pass0 (pa_cons (pv 0) (pa_cons (pv 1) pa_nil))))
    (pss_cons (ps_set (i := 2) sclines_of.nd rfl (.inr rfl) (pe_callB call_len_seq (by rfl) mlen (by decide +kernel) (pa_cons (pv 1) pa_nil)))
    (pss_cons (ps_setLc (i := 3) (own := [("one", 5)]) (g := (gName 5)) (tt := tYes) rfl sclines_of.nd rfl rfl (sw_true rfl rfl rfl (by decide +kernel)) (pi_range1 (by rfl) mrange (pa_cons (pv 2) pa_nil)) (blkOk_by (N := ["row", "loops", "many", "above", "other", "one", "below", "chains", "seats", "number", "loop", "line", "at", "chain", "lows", "highs", "apart"]) (sc := defScope slines_of) (by decide +kernel)) (fun _ _ _ _ _ => (pg_name (i := 5) sclines_of.nd rfl (.inr rfl))) (fun _ _ _ _ _ => pts_nil) (fun _ _ _ _ _ => (pe_lc (own := [("other", 4)]) (g := (gName 4)) rfl sclines_of.nd (pi_range1 (by rfl) mrange (pa_cons (pv 2) pa_nil)) (blkOk_by (N := ["row", "loops", "many", "above", "other", "one", "below", "chains", "seats", "number", "loop", "line", "at", "chain", "lows", "highs", "apart"]) (sc := relS (compScopeAt slines_of 2) (defScope slines_of)) (by decide +kernel)) (fun _ _ _ _ _ => (pg_name (i := 4) sclines_of.nd rfl (.inl rfl))) (fun _ _ _ _ _ => (pts_one (pt_val (pe_call Gstands_under hr rfl mstands_under kstands_under bstands_under .nil pass0 (pa_cons (pv 1) (pa_cons (pv 5) (pa_cons (pv 4) pa_nil))))))) (fun _ _ _ _ _ => (pv 4)))))
    (pss_cons (ps_set (i := 6) sclines_of.nd rfl (.inl rfl) (pe_call Gpaired hr rfl mpaired kpaired bpaired .nil pass0 (pa_cons (pv 3) pa_nil)))
    (pss_cons (ps_set (i := 7) sclines_of.nd rfl (.inl rfl) (pe_call Gchains_of hr rfl mchains_of kchains_of bchains_of .nil pass0 (pa_cons (pv 3) (pa_cons (pv 6) pa_nil))))
    (pss_cons (ps_set (i := 8) sclines_of.nd rfl (.inl rfl) (pe_lst pa_nil))
    (pss_cons (ps_for PassesOwn.never rfl (pi_enumS (by rfl) menumerate (pa_cons (pv 1) pa_nil)) (pg_tup rfl (pgs_cons (pg_name (i := 9) sclines_of.nd rfl (.inr rfl)) (pgs_cons (pg_name (i := 10) sclines_of.nd rfl (.inl rfl)) pgs_nil))) (pss_cons (ps_set (i := 11) sclines_of.nd rfl (.inl rfl) (pe_ix ix_list (pe_lc (own := [("at", 12), ("chain", 13)]) (g := (gTup K 2 (gCons (gName 12) (gCons (gName 13) gNil)))) rfl sclines_of.nd (pi_enum (by rfl) menumerate (pa_cons (pv 7) pa_nil)) (blkOk_by (N := ["row", "loops", "many", "above", "other", "one", "below", "chains", "seats", "number", "loop", "line", "at", "chain", "lows", "highs", "apart"]) (sc := defScope slines_of) (by decide +kernel)) (fun _ _ _ _ _ => (pg_tup rfl (pgs_cons (pg_name (i := 12) sclines_of.nd rfl (.inl rfl)) (pgs_cons (pg_name (i := 13) sclines_of.nd rfl (.inl rfl)) pgs_nil)))) (fun _ _ _ _ _ => (pts_one (pt_cmpR (r := rIn K false) op_in_seq (pv 9) (pv 13) rfl))) (fun _ _ _ _ _ => (pv 12))) pe_int (fun _ _ => rfl)))
    (pss_one (ps_expr (pe_bm PySem.F.plainAttrs_list PySem.F.slot_list_append PySem.F.type_list_append mt_append (pv 8) (pa_cons (pe_tup (pa_cons (pv 11) (pa_cons (pe_op op_sub (pe_callB call_len_seq (by rfl) mlen (by decide +kernel) (pa_cons (pv 0) pa_nil)) (pe_callB call_len_seq (by rfl) mlen (by decide +kernel) (pa_cons (pe_ix ix_tup (pv 10) pe_int (fun _ _ => rfl)) pa_nil))) pa_nil))) pa_nil))))))
    (pss_cons (ps_asg (pe_call Ggone_over hr rfl mgone_over kgone_over bgone_over .nil pass0 (pa_cons (pv 3) (pa_cons (pv 6) pa_nil))) (pg_tup rfl (pgs_cons (pg_name (i := 14) sclines_of.nd rfl (.inr rfl)) (pgs_cons (pg_name (i := 15) sclines_of.nd rfl (.inr rfl)) pgs_nil))))
    (pss_cons (ps_setLc (i := 16) (own := [("one", 5)]) (g := (gName 5)) rfl sclines_of.nd rfl rfl (sw_true rfl rfl rfl (by decide +kernel)) (pi_range1 (by rfl) mrange (pa_cons (pv 2) pa_nil)) (blkOk_by (N := ["row", "loops", "many", "above", "other", "one", "below", "chains", "seats", "number", "loop", "line", "at", "chain", "lows", "highs", "apart"]) (sc := defScope slines_of) (by decide +kernel)) (fun _ _ _ _ _ => (pg_name (i := 5) sclines_of.nd rfl (.inl rfl))) (fun _ _ _ _ _ => (pts_one (PW.pt (pw_and (pt_cmpR (r := rIn K false) op_in_seq (pv 5) (pv 14) rfl) (pw_and1 (pt_cmpR (r := rIn K true) op_notIn_seq (pv 5) (pv 15) rfl)))))) (fun _ _ _ _ _ => (pv 5)))
    (pss_one (ps_ret (pe_tup (pa_cons (pe_lc (own := [("chain", 13)]) (g := (gName 13)) (tt := tYes) rfl sclines_of.nd (pi_list (pv 7)) (blkOk_by (N := ["row", "loops", "many", "above", "other", "one", "below", "chains", "seats", "number", "loop", "line", "at", "chain", "lows", "highs", "apart"]) (sc := defScope slines_of) (by decide +kernel)) (fun _ _ _ _ _ => (pg_name (i := 13) sclines_of.nd rfl (.inl rfl))) (fun _ _ _ _ _ => pts_nil) (fun _ _ _ _ _ => (pe_call Gline_by hr rfl mline_by kline_by bline_by .nil pass0 (pa_cons (pv 0) (pa_cons (pv 1) (pa_cons (pv 13) pa_nil)))))) (pa_cons (pv 8) (pa_cons (pv 16) pa_nil))))))))))))))), ?_⟩
  have elp : (ps.map V.ref).length = ls.length := by rw [List.length_map, hps.len]
  have h40 : ∀ l ∈ ls, l.coming.length ≤ 40 := fun l hl => (hok l hl).len rok
  have nd := loops_nd hok
  -- look_at_loops
  refine ⟨_, rfl, _, rfl, ra, la, b, c, row, ps, ls, rfl, hrow, rok, hls, hps, h12, hok, fun H1 s1 => ?_⟩
  refine ⟨_, rfl, la, _, rfl, Sq.either (s1 _ _ hls), ?_⟩
  rw [elp]
  -- above
  refine ⟨_, rfl, _, rfl, by omega, by omega, fun ab nab => ?_⟩
  rw [Int.toNat_natCast]
  refine lc_range (lo := 0) (n := ls.length) (fun i H2 => ∃ rows, Same H1 H2 ∧ H2 ab = some (.lst (rows.map V.ref)) ∧ LstsAt H2 rows ((List.range i).map (K44.abv (cOf ls) ls.length)) ∧ ab ∉ rows)
    ⟨[], same_new nab, upd_same, ⟨rfl, fun i p l a b => by simp at a⟩, by simp⟩ (fun i H2 hi ⟨rows, sm, hab, hr2, nin⟩ => ?_) (fun H2 ⟨rows, sm, hab, hr2, _⟩ => ?_)
  · rw [Int.zero_add]
    refine ⟨rfl, _, rfl, _, rfl, by omega, by omega, fun D nD => ?_⟩
    rw [Int.toNat_natCast]
    refine lc_range (lo := 0) (n := ls.length) (fun j H3 => Same H2 H3 ∧ H3 D = some (.lst (nsV ((List.range j).filter (K44.under (cOf ls) i))))) ⟨same_new nD, upd_same⟩ (fun j H3 hj ⟨sm3, hD⟩ => ?_) (fun H3 ⟨sm3, hD⟩ => ?_)
    · rw [Int.zero_add]
      have s03 : Same H H3 := s1.trans (sm.trans sm3)
      refine ⟨rfl, _, rfl, _, rfl, _, rfl, la, c, ps, ls, i, j, rfl, s03 _ _ hls, hps.same s03, h40, hi, hj, fun H4 s4 => ⟨_, rfl, ?_⟩⟩
      have lenf := List.length_filter_le (K44.under (cOf ls) i) (List.range j)
      rw [List.length_range] at lenf
      rw [List.range_succ, filt_snoc]
      cases cu : K44.under (cOf ls) i j with
      | true =>
        refine iteT ⟨_, rfl, _, s4 _ _ hD, by rw [List.length_map]; exact small1000 (by omega), fun b' u q => ?_, ?_⟩
        · rw [upd_ne (ne_of_none q nD)]
          exact s4 _ _ (sm3 _ _ q)
        · rw [upd_same, if_pos rfl, nsV_snoc]
      | false =>
        refine iteF ⟨sm3.trans s4, ?_⟩
        rw [if_neg (by simp), List.append_nil]
        exact s4 _ _ hD
    · have lenr : rows.length = i := by rw [hr2.len, List.length_map, List.length_range]
      have hab3 : H3 ab = some (.lst (rows.map V.ref)) := sm3 _ _ hab
      have Dab : D ≠ ab := (ne_of_none hab nD).symm
      refine ⟨_, hab3, by rw [List.length_map]; exact small1000 (by omega), rows ++ [D], fun b' u q => ?_, by rw [upd_same, List.map_append]; rfl, ?_, fun z => ?_⟩
      · rw [upd_ne (ne_of_none q nab)]
        exact sm3 _ _ (sm _ _ q)
      · rw [List.range_succ, List.map_append]
        refine LstsAt.snoc ((hr2.same sm3).keep fun p hp o q => by rw [upd_ne (fun e : p = ab => nin (e ▸ hp))]; exact q) ?_
        rw [upd_ne Dab, hD, K44.abv, if_pos hi]
      · rcases List.mem_append.mp z with z | z
        · exact nin z
        · exact Dab (List.mem_singleton.mp z).symm
  -- below
  have s2 : Same H H2 := s1.trans sm
  have abv : AbvAt H2 ab rows (K44.abv (cOf ls) ls.length) ls.length := by
    refine ⟨hab, by rw [hr2.len, List.length_map, List.length_range], fun i p hp => ?_, K44.abv_lt, fun i => ?_⟩
    · have hi : i < ls.length := by
        have := lt_of_at hp
        rwa [hr2.len, List.length_map, List.length_range] at this
      exact hr2.at' i p _ hp (at_map (by rw [List.getElem?_range hi]))
    · unfold K44.abv
      by_cases ci : i < ls.length
      · rw [if_pos ci]
        have lenf := List.length_filter_le (K44.under (cOf ls) i) (List.range ls.length)
        rwa [List.length_range] at lenf
      · rw [if_neg ci]; exact Nat.zero_le _
  obtain ⟨Dd, pok⟩ := K44.m_ok (C := cOf ls) h12
  have mok : K44.MOk ls.length (K44.mOf (cOf ls) ls.length) := K44.pairs_kept K44.abv_lt 13 _ (Nat.le_refl _)
  refine ⟨_, rfl, ab, rows, _, _, rfl, abv, h12, fun H3 bl s23 _ hbl => ?_⟩
  have hbl : H3 bl = some (.dK (kvM (K44.mOf (cOf ls) ls.length))) := hbl
  -- chains
  refine ⟨_, rfl, _, rfl, ab, bl, rows, ls.length, K44.mOf (cOf ls) ls.length, K44.abv (cOf ls) ls.length, K44.rank (cOf ls) ls.length, rfl, s23 _ _ hab, abv.len, hbl, h12, mok,
    fun x y e => pok.edge y x ((K44.look_aft pok.nd pok.inj x y).mp e), K44.abv_rk nd, K44.abv_tr, K44.abv_lt, fun H4 ch cs s34 hch hcs => ?_⟩
  have hcs : LstsAt H4 cs (K44.chOf (cOf ls) ls.length) := hcs
  have s24 := s23.trans s34
  have s4 := s2.trans s24
  -- seats
  refine ⟨Nat.zero_le _, fun st nst => ?_⟩
  have nst0 : H st = none := s4.free nst
  have lench : (K44.chOf (cOf ls) ls.length).length ≤ 12 := by
    have l1 := List.length_filter_le (fun v => (K44.look (K44.mOf (cOf ls) ls.length) v).isNone) (List.range ls.length)
    rw [List.length_range] at l1
    unfold K44.chOf K44.chainsF
    rw [List.length_map]
    omega
  refine ⟨_, rfl, c, la, ps.map V.ref, rfl, same_new nst _ _ (s4 _ _ hls), ?_⟩
  refine for_enumS (xs := ps.map V.ref) (fun i σ H5 => ∃ (y9 y10 y11 : Option V) (sts : List Addr), σ = [some (.ref ra), some (.ref la), some (nV ls.length), some (.ref ab), none, none, some (.ref bl), some (.ref ch), some (.ref st), y9, y10, y11, none, none, none, none, none] ∧
      Same H4 H5 ∧ H5 st = some (.lst (sts.map V.ref)) ∧ st ∉ sts ∧ PairsAt H5 sts ((List.range i).map (seatOf row ls)))
    ⟨none, none, none, [], rfl, same_new nst, upd_same, by simp, ⟨rfl, fun i p l a b => by simp at a⟩⟩ (fun i σ H5 _ ⟨_, _, _, _, _, sm5, _⟩ => sm5 _ _ (s4 _ _ hls)) (fun i x T σ H5 hx ⟨y9, y10, y11, sts, e, sm5, hst, nin, hpr⟩ nT => ?_) (fun σ H5 ⟨y9, y10, y11, sts, e, sm5, hst, nin, hpr⟩ => ?_)
  · subst e
    obtain ⟨p, hp, rfl⟩ := map_at hx
    have hi : i < ls.length := by rw [← hps.len]; exact lt_of_at hp
    generalize hH6 : upd H5 T (.tup [nV i, .ref p]) = H6
    have s56 : Same H5 H6 := by rw [← hH6]; exact same_new nT
    have hT6 : H6 T = some (.tup [nV i, .ref p]) := by rw [← hH6]; exact upd_same
    have s46 := sm5.trans s56
    refine ⟨T, [nV i, .ref p], rfl, SqT.of hT6, rfl, nV i, [.ref p], rfl, .ref p, [], rfl, rfl, ?_⟩
    -- the number of the line
    refine ⟨_, rfl, ch, cs.map V.ref, rfl, SqL.of (s46 _ _ hch), fun D nD => ?_⟩
    have elc : (cs.map V.ref).length = (K44.chOf (cOf ls) ls.length).length := by rw [List.length_map, hcs.len]
    refine lc_it (walk_enum (xs := cs.map V.ref)) (fun j H7 => Same H6 H7 ∧ H7 D = some (.lst (nsV ((List.range j).filter fun a => decide (i ∈ (K44.chOf (cOf ls) ls.length).getD a []))))) ⟨same_new nD, upd_same⟩ (fun j H7 _ q => SqL.of (q.1 _ _ (s46 _ _ hch))) (fun j x H7 H8 hj ⟨sm7, hD⟩ yv => ?_) (fun H7 ⟨sm7, hD⟩ => ?_)
    · obtain ⟨T2, x1, x2, rfl, nT2, rfl, f1, f2⟩ := yv
      rw [elc] at hj
      obtain rfl : nV j = x1 := Option.some.inj f1
      obtain ⟨q, hq, rfl⟩ := map_at f2
      have hlj : (K44.chOf (cOf ls) ls.length)[j]? = some ((K44.chOf (cOf ls) ls.length).getD j []) := by rw [List.getD_eq_getElem?_getD, List.getElem?_eq_getElem hj]; rfl
      have hqj := hcs.at' j q _ hq hlj
      have s78 : Same H7 (upd H7 T2 (.tup [nV j, .ref q])) := same_new nT2
      refine ⟨T2, [nV j, .ref q], rfl, SqT.of upd_same, rfl, nV j, [.ref q], rfl, .ref q, [], rfl, rfl, rfl, ?_⟩
      refine ⟨_, rfl, _, rfl, q, _, rfl, .inl (SqL.of (s78 _ _ (sm7 _ _ (s46 _ _ hqj)))), rfl, flat_nats _, _, rfl, ?_⟩
      rw [if_neg Bool.false_ne_true, inV_nat, List.range_succ, filt_snoc]
      have lenf := List.length_filter_le (fun a => decide (i ∈ (K44.chOf (cOf ls) ls.length).getD a [])) (List.range j)
      rw [List.length_range] at lenf
      cases cu : decide (i ∈ (K44.chOf (cOf ls) ls.length).getD j []) with
      | true =>
        refine iteT ⟨_, rfl, _, s78 _ _ hD, by rw [List.length_map]; exact small1000 (by omega), fun b' u q => ?_, ?_⟩
        · rw [upd_ne (ne_of_none q nD)]
          exact s78 _ _ (sm7 _ _ q)
        · rw [upd_same, if_pos rfl, nsV_snoc]
      | false =>
        refine iteF ⟨sm7.trans s78, ?_⟩
        rw [if_neg (by simp), List.append_nil]
        exact s78 _ _ hD
    · rw [elc] at hD
      have s47 := s46.trans sm7
      have s07 := s4.trans s47
      obtain ⟨c1, c2⟩ := K44.lineNo_ok h12 nd hi
      have hhead : (nsV ((List.range (K44.chOf (cOf ls) ls.length).length).filter fun a => decide (i ∈ (K44.chOf (cOf ls) ls.length).getD a [])))[0]? = some (nV (K44.lineNo (cOf ls) ls.length i)) := by
        refine at_map ?_
        have hm : K44.lineNo (cOf ls) ls.length i ∈ (List.range (K44.chOf (cOf ls) ls.length).length).filter fun a => decide (i ∈ (K44.chOf (cOf ls) ls.length).getD a []) := List.mem_filter.mpr ⟨List.mem_range.mpr c1, decide_eq_true c2⟩
        unfold K44.lineNo at hm ⊢
        cases hf : (List.range (K44.chOf (cOf ls) ls.length).length).filter fun a => decide (i ∈ (K44.chOf (cOf ls) ls.length).getD a []) with
        | nil => rw [hf] at hm; simp at hm
        | cons z r => rfl
      have lensts : sts.length = i := by rw [hpr.len, List.length_map, List.length_range]
      obtain ⟨q, hq1, hq2⟩ := hps.at' i p _ hp (List.getElem?_eq_getElem hi)
      have elr : (row.map V.str).length = row.length := List.length_map _
      have elq : (ls[i].coming.map V.str).length = ls[i].coming.length := List.length_map _
      refine ⟨D, _, _, _, rfl, rfl, SqL.of hD, atI_nat (j := 0) hhead, ?_⟩
      have hst7 : H7 st = some (.lst (sts.map V.ref)) := sm7 _ _ (s56 _ _ hst)
      refine ⟨_, rfl, .inl ⟨rfl, _, SqL.of hst7⟩, _, rfl, _, rfl, ra, _, rfl, Sq.either (s07 _ _ hrow), _, rfl, p, _, _, _, rfl, rfl, SqT.of (s07 _ _ hq1), atI_nat (j := 2) rfl, q, _, rfl, .inr (SqT.of (s07 _ _ hq2)), _, _, rfl, rfl, by show 2 ≤ sizeLine; decide, fun tp ntp => ?_⟩
      rw [elr, elq]
      have hst8 := same_new (o := .tup [nV (K44.lineNo (cOf ls) ls.length i), .int ((row.length : Int) - (ls[i].coming.length : Int))]) ntp _ _ hst7
      have tpst : tp ≠ st := (ne_of_none hst7 ntp).symm
      refine ⟨st, _, _, rfl, rfl, hst8, by rw [List.length_map]; exact small1000 (by omega), ?_⟩
      have s78 := same_new (H := H7) (o := .tup [nV (K44.lineNo (cOf ls) ls.length i), .int ((row.length : Int) - (ls[i].coming.length : Int))]) ntp
      refine ⟨_, _, _, sts ++ [tp], rfl, fun b' u q => ?_, by rw [upd_same, List.map_append]; rfl, fun z => ?_, ?_⟩
      · rw [upd_ne (ne_of_none q nst)]
        exact s78 _ _ (s47 _ _ q)
      · rcases List.mem_append.mp z with z | z
        · exact nin z
        · exact tpst (List.mem_singleton.mp z).symm
      · rw [List.range_succ, List.map_append]
        refine PairsAt.snoc (((hpr.same s56).same sm7).keep fun p hp o q => ?_) ?_
        · rw [upd_ne (fun e : p = st => nin (e ▸ hp))]
          exact s78 _ _ q
        · rw [upd_ne tpst, upd_same]
          unfold seatOf
          rw [cOf_at hi]
  · subst e
    rw [elp] at hpr
    have s25 := s24.trans sm5
    have s5 := s4.trans sm5
    -- lows, highs
    refine ⟨_, rfl, _, rfl, ab, bl, rows, _, _, K44.mOf (cOf ls) ls.length, Dd, rfl, abv.same s25, (s34.trans sm5) _ _ hbl, h12, pok.dead, pok.lt, K44.g_ok h12 pok, fun H6 t lo hi s56 ht hlo hhi => ?_⟩
    have s46 := sm5.trans s56
    have s06 := s4.trans s46
    refine ⟨t, _, rfl, SqT.of ht, rfl, .ref lo, [.ref hi], rfl, .ref hi, [], rfl, rfl, ?_⟩
    -- apart
    refine ⟨_, rfl, _, rfl, by omega, by omega, fun D nD => ?_⟩
    rw [Int.toNat_natCast]
    have hlo : H6 lo = some (.lst (nsV (K44.gOf (cOf ls) ls.length).1)) := hlo
    have hhi : H6 hi = some (.lst (nsV (K44.gOf (cOf ls) ls.length).2)) := hhi
    refine lc_range (lo := 0) (n := ls.length) (fun j H7 => Same H6 H7 ∧ H7 D = some (.lst (nsV ((List.range j).filter fun v => decide (v ∈ (K44.gOf (cOf ls) ls.length).1) && !decide (v ∈ (K44.gOf (cOf ls) ls.length).2))))) ⟨same_new nD, upd_same⟩ (fun j H7 hj ⟨sm7, hD⟩ => ?_) (fun H7 ⟨sm7, hD⟩ => ?_)
    · rw [Int.zero_add]
      refine ⟨rfl, _, rfl, _, rfl, lo, _, rfl, .inl (SqL.of (sm7 _ _ hlo)), rfl, flat_nats _, _, rfl, ?_⟩
      rw [if_neg Bool.false_ne_true, inV_nat, List.range_succ, filt_snoc]
      have lenf := List.length_filter_le (fun v => decide (v ∈ (K44.gOf (cOf ls) ls.length).1) && !decide (v ∈ (K44.gOf (cOf ls) ls.length).2)) (List.range j)
      rw [List.length_range] at lenf
      cases c1 : decide (j ∈ (K44.gOf (cOf ls) ls.length).1) with
      | false =>
        refine iteF (iteF ⟨sm7, ?_⟩)
        rw [if_neg (by simp), List.append_nil]
        exact hD
      | true =>
        refine iteT ⟨_, rfl, _, rfl, hi, _, rfl, .inl (SqL.of (sm7 _ _ hhi)), rfl, flat_nats _, _, rfl, ?_⟩
        rw [if_pos rfl, inV_nat]
        cases c2 : decide (j ∈ (K44.gOf (cOf ls) ls.length).2) with
        | true =>
          refine iteF ⟨sm7, ?_⟩
          rw [if_neg (by simp), List.append_nil]
          exact hD
        | false =>
          refine iteT ⟨_, rfl, _, hD, by rw [List.length_map]; exact small1000 (by omega), fun b' u q => ?_, ?_⟩
          · rw [upd_ne (ne_of_none q nD)]
            exact sm7 _ _ q
          · rw [upd_same, if_pos (by simp), nsV_snoc]
    · -- the answer
      have s47 := s46.trans sm7
      have s07 := s4.trans s47
      have nD0 : H D = none := s06.free nD
      refine ⟨_, rfl, ch, rfl, ⟨_, SqL.of (s47 _ _ hch)⟩, fun l1 nl1 => ?_⟩
      have nl10 : H l1 = none := s07.free nl1
      have cok := K44.chains_ok (K44.abv_rk nd) K44.abv_tr K44.abv_lt h12 pok
      refine lc_list (xs := cs.map V.ref) (fun j H8 => ∃ lns, Same H7 H8 ∧ H8 l1 = some (.lst (lns.map V.ref)) ∧ TxtsAt H8 lns (((K44.chOf (cOf ls) ls.length).take j).map (K44.lineBy row (cOf ls))) ∧ l1 ∉ lns ∧ ∀ p ∈ lns, H p = none)
        ⟨[], same_new nl1, upd_same, ⟨rfl, fun i p l a b => by simp at a⟩, by simp, by simp⟩ (fun j H8 _ ⟨_, q, _⟩ => SqL.of (q _ _ (s47 _ _ hch))) (fun j x H8 hx ⟨lns, sm8, hl1, htx, nin2, nfr⟩ => ?_) (fun H8 ⟨lns, sm8, hl1, htx, nin2, nfr⟩ => ?_)
      · obtain ⟨q, hq, rfl⟩ := map_at hx
        have hj : j < (K44.chOf (cOf ls) ls.length).length := by rw [← hcs.len]; exact lt_of_at hq
        have hlj : (K44.chOf (cOf ls) ls.length)[j]? = some (K44.chOf (cOf ls) ls.length)[j] := List.getElem?_eq_getElem hj
        have s48 := s47.trans sm8
        have s08 := s4.trans s48
        refine ⟨rfl, _, rfl, _, rfl, _, rfl, ra, la, q, b, c, row, ps, ls, (K44.chOf (cOf ls) ls.length)[j], rfl, s08 _ _ hrow, rok, s08 _ _ hls, hps.same s08, s48 _ _ (hcs.at' j q _ hq hlj), (cok _ (List.getElem_mem hj)).2, fun H9 p s89 np hp => ?_⟩
        have hl19 := s89 _ _ hl1
        have pl1 : p ≠ l1 := (ne_of_none hl1 np).symm
        have lenl : lns.length = j := by rw [htx.len, List.length_map, List.length_take]; omega
        refine ⟨_, hl19, by rw [List.length_map]; exact small1000 (by omega), lns ++ [p], fun b' u q => ?_, by rw [upd_same, List.map_append]; rfl, ?_, fun z => ?_, fun z hz => ?_⟩
        · rw [upd_ne (ne_of_none q nl1)]
          exact s89 _ _ (sm8 _ _ q)
        · rw [take_snoc hlj, List.map_append]
          refine TxtsAt.snoc ((htx.same s89).keep fun p hp o q => by rw [upd_ne (fun e : p = l1 => nin2 (e ▸ hp))]; exact q) ?_
          rw [upd_ne pl1]
          exact hp
        · rcases List.mem_append.mp z with z | z
          · exact nin2 z
          · exact pl1 (List.mem_singleton.mp z).symm
        · rcases List.mem_append.mp hz with hz | hz
          · exact nfr z hz
          · rw [List.mem_singleton.mp hz]
            exact s08.free np
      · have elc : (cs.map V.ref).length = (K44.chOf (cOf ls) ls.length).length := by rw [List.length_map, hcs.len]
        rw [elc, List.take_length] at htx
        have s08 := s07.trans sm8
        refine ⟨_, rfl, _, rfl, by show 3 ≤ sizeLine; decide, fun t2 nt2 => ?_⟩
        have s89 := same_new (H := H8) (o := .tup [.ref l1, .ref st, .ref D]) nt2
        have s59 := s56.trans (sm7.trans (sm8.trans s89))
        refine fin _ t2 l1 st D lns sts (s08.trans s89) ⟨upd_same, s89 _ _ hl1, htx.same s89, s59 _ _ hst, hpr.same s59, s89 _ _ (sm8 _ _ hD)⟩ nl10 nst0 nD0 nfr
end
end W44
set_option Elab.async false
set_option linter.all false
set_option maxRecDepth 100000
set_option maxHeartbeats 4000000
/-! the law's draws: _law_pot, _law_take -/
namespace W44
open PySem PySem.Spec PyProof.Rows L2 KIt
abbrev s_law_pot : Stmt := topS 20
theorem sc_law_pot : FnScope ["script", "k", "cell", "rest_here"] ["script", "k"] (defScope s_law_pot) := ⟨rfl, rfl, rfl, by decide +kernel, rfl, by decide +kernel, by decide +kernel⟩
abbrev s_law_take : Stmt := topS 21
theorem sc_law_take : FnScope ["pot", "many", "found"] ["pot", "many"] (defScope s_law_take) := ⟨rfl, rfl, rfl, by decide +kernel, rfl, by decide +kernel, by decide +kernel⟩
def potTop : Int := 10 ^ 64 * 10 ^ 64 * 10 ^ 64 * 10 ^ 64
/-- the two numbers of a pot -/
def PotOk (a b : Int) : Prop := 0 ≤ a ∧ 0 ≤ b ∧ b < 2147483647
section
variable {P : Program} {w : World} {K : PySem.W.Frag} {mg : Str → Option Value} {base : Heap}
def spPot (K : PySem.W.Frag) : Sp := fun vs H Q _ => ∃ (sa : Addr) (ns : List Int) (k : Nat), vs = [.ref sa, nV k] ∧ SqL K H sa (ns.map V.int) ∧ k ≤ 63 ∧
  ∀ p a b, H p = none → PotOk a b → Q (.ref p) (upd H p (.lst [.int a, .int b]))
theorem ok_pot {f : Addr} {fd : FuncData} {k : Nat} (F : Fun K "_law_pot" "_law_pot" s_law_pot f fd) (mlen : mg "len" = none) : FnOk P w K mg base CX0 (k + 1) f fd ["script", "k"] (spPot K) := by
  refine F.ok sc_law_pot (fun vs H Q E h => ?_) (fun cdv A' outer s H vs Q E hr h => ?_)
  · obtain ⟨sa, ns, k, rfl, _⟩ := h
    rfl
  obtain ⟨sa, ns, k, rfl, hs, h63, fin⟩ := h
  refine ⟨_, (pss_cons (ps_set (i := 2) sc_law_pot.nd rfl (.inl rfl) pe_int)
    (C8.pss_cut (ps_if (pt_cmpR op_lt (pv 1) (pe_callB call_len_seq (by rfl) mlen (by decide +kernel) (pa_cons (pv 0) pa_nil)) (nomark _)) (pss_one (ps_set (i := 2) sc_law_pot.nd rfl (.inl rfl) (pe_op op_mod (pe_ix ix_list (pv 0) (pv 1) (fun _ _ => rfl)) (pe_op op_mulW (pe_op op_mulW (pe_op op_mulW (pe_op op_pow pe_int pe_int) (pe_op op_pow pe_int pe_int)) (pe_op op_pow pe_int pe_int)) (pe_op op_pow pe_int pe_int))))) pss_nil)
    (pss_cons (ps_set (i := 3) sc_law_pot.nd rfl (.inl rfl) pe_int)
    (C8.pss_cut (ps_if (pt_cmpR op_ge (pv 2) (pe_op op_pow pe_int pe_int) (nomark _)) (pss_one (ps_set (i := 3) sc_law_pot.nd rfl (.inl rfl) (pv 2))) pss_nil)
    (pss_one (ps_ret (pe_lst (pa_cons (pv 3) (pa_cons (pe_op op_mod (pe_op op_mul (pe_op op_add (pe_op op_add (pe_op op_mod (pv 2) pe_int) (pe_op op_mul pe_int (pv 1))) pe_int) pe_int) pe_int) pa_nil))))))))), ?_⟩
  have elen : (ns.map V.int).length = ns.length := List.length_map _
  refine ⟨fun σ' H' => ∃ cell : Int, 0 ≤ cell ∧ σ' = [some (.ref sa), some (nV k), some (.int cell), none] ∧ H' = H, ?_, fun σ' H' ⟨cell, h0, e, eH⟩ => ?_⟩
  · refine ⟨_, rfl, _, rfl, sa, _, rfl, .inl hs, _, _, rfl, rfl, _, rfl, ?_⟩
    rw [elen]
    refine ite2 (fun c => ?_) (fun c => ?_)
    · have c : (k : Int) < (ns.length : Int) := of_decide_eq_true c
      have ck : k < ns.length := Int.ofNat_lt.mp c
      have hit : (ns.map V.int)[k]? = some (.int ns[k]) := at_map (List.getElem?_eq_getElem ck)
      have p64 : CPow 10 64 := ⟨by decide, by decide, by decide⟩
      refine ⟨_, rfl, _, rfl, sa, _, _, _, rfl, rfl, hs, atI_nat hit, ?_⟩
      refine ⟨10, 64, rfl, rfl, p64, 10, 64, rfl, rfl, p64, _, _, rfl, rfl, by unfold CMulW; decide +kernel, 10, 64, rfl, rfl, p64, _, _, rfl, rfl, by unfold CMulW; decide +kernel, 10, 64, rfl, rfl, p64, _, _, rfl, rfl, by unfold CMulW; decide +kernel, ?_⟩
      refine ⟨_, _, rfl, rfl, (show (0 : Int) < 10 ^ Int.toNat 64 * 10 ^ Int.toNat 64 * 10 ^ Int.toNat 64 * 10 ^ Int.toNat 64 by decide +kernel), ?_⟩
      exact ⟨_, Int.emod_nonneg _ (by decide +kernel), rfl, rfl⟩
    · exact ⟨0, Int.le_refl 0, rfl, rfl⟩
  · subst e
    subst eH
    refine ⟨fun σ2 H2 => ∃ a : Int, 0 ≤ a ∧ σ2 = [some (.ref sa), some (nV k), some (.int cell), some (.int a)] ∧ H2 = H', ?_, fun σ2 H2 ⟨a, ha, e, eH⟩ => ?_⟩
    · refine ⟨_, rfl, 10, 18, rfl, rfl, ⟨by decide, by decide, by decide⟩, _, _, rfl, rfl, _, rfl, ?_⟩
      refine ite2 (fun c => ?_) (fun c => ?_)
      · exact ⟨_, rfl, cell, h0, rfl, rfl⟩
      · exact ⟨0, Int.le_refl 0, rfl, rfl⟩
    · subst e
      subst eH
      refine ⟨_, rfl, _, rfl, _, _, rfl, rfl, (show (0 : Int) < 2147483629 by decide), _, rfl, 7919, (k : Int), rfl, rfl, .inl ⟨by decide, by decide⟩, _, _, rfl, rfl, _, _, rfl, rfl, _, _, rfl, rfl, .inr ⟨by decide, by decide⟩, _, _, rfl, rfl, (show (0 : Int) < 2147483647 by decide), by show 2 ≤ sizeLine; decide, fun p np => ?_⟩
      exact fin p a _ np ⟨ha, Int.emod_nonneg _ (by decide), Int.emod_lt_of_pos _ (by decide)⟩
/-- the next draw -/
def spTake : Sp := fun vs H Q _ => ∃ (p : Addr) (a b m : Int), vs = [.ref p, .int m] ∧ H p = some (.lst [.int a, .int b]) ∧ PotOk a b ∧ 0 < m ∧ m.natAbs < 2 ^ 64 ∧
  ∀ r a' b', 0 ≤ r → r < m → PotOk a' b' → Q (.int r) (upd H p (.lst [.int a', .int b']))
theorem ok_take {f : Addr} {fd : FuncData} {k : Nat} (F : Fun K "_law_take" "_law_take" s_law_take f fd) : FnOk P w K mg base CX0 (k + 1) f fd ["pot", "many"] spTake := by
  refine F.ok sc_law_take (fun vs H Q E h => ?_) (fun cdv A' outer s H vs Q E hr h => ?_)
  · obtain ⟨p, a, b, m, rfl, _⟩ := h
    rfl
  obtain ⟨p, a, b, m, rfl, hp, ⟨ha, hb, hb'⟩, hm, hm64, fin⟩ := h
  refine ⟨_, (pss_cons (ps_if (pt_cmpR op_gt (pe_ix ix_list (pv 0) pe_int (fun _ _ => rfl)) pe_int (nomark _)) (pss_cons (ps_set (i := 2) sc_law_take.nd rfl (.inl rfl) (pe_op op_mod (pe_ix ix_list (pv 0) pe_int (fun _ _ => rfl)) (pv 1)))
    (pss_cons (ps_asg (pe_op op_fdivW (pe_ix ix_list (pv 0) pe_int (fun _ _ => rfl)) (pv 1)) (pg_sub (pv 0) pe_int set_list))
    (pss_one (ps_ret (pv 2))))) pss_nil)
    (pss_cons (ps_asg (pe_op op_mod (pe_op op_add (pe_op op_mul (pe_ix ix_list (pv 0) pe_int (fun _ _ => rfl)) pe_int) pe_int) pe_int) (pg_sub (pv 0) pe_int set_list))
    (pss_one (ps_ret (pe_op op_mod (pe_op op_fdivW (pe_op op_mod (pe_op op_mul (pe_ix ix_list (pv 0) pe_int (fun _ _ => rfl)) (pe_ix ix_list (pv 0) pe_int (fun _ _ => rfl))) pe_int) pe_int) (pv 1)))))), ?_⟩
  refine ⟨_, rfl, p, _, 0, _, rfl, rfl, SqL.of hp, atI_nat (j := 0) rfl, a, 0, rfl, rfl, _, rfl, ?_⟩
  refine ite2 (fun c => ?_) (fun c => ?_)
  · have c := of_decide_eq_true c
    refine ⟨_, rfl, p, _, 0, _, rfl, rfl, SqL.of hp, atI_nat (j := 0) rfl, _, rfl, a, m, rfl, rfl, hm, ?_⟩
    refine ⟨_, rfl, p, _, 0, _, rfl, rfl, SqL.of hp, atI_nat (j := 0) rfl, _, rfl, a, m, rfl, rfl, wide_div hm hm64 (by decide) (by decide), ?_⟩
    refine ⟨_, rfl, p, _, 0, 0, rfl, rfl, hp, rfl, _, rfl, ?_⟩
    refine fin (a % m) (a / m) b (Int.emod_nonneg _ (by omega)) (Int.emod_lt_of_pos _ hm) ⟨Int.ediv_nonneg ha (by omega), hb, hb'⟩
  · refine ⟨_, rfl, p, _, 1, _, rfl, rfl, SqL.of hp, atI_nat (j := 1) rfl, b, 69621, rfl, rfl, .inr ⟨by decide, by decide⟩, _, _, rfl, rfl, _, _, rfl, rfl, (show (0 : Int) < 2147483647 by decide), ?_⟩
    have lo : 0 ≤ (b * 69621 + 12345) % 2147483647 := Int.emod_nonneg _ (by decide)
    have hi : (b * 69621 + 12345) % 2147483647 < 2147483647 := Int.emod_lt_of_pos _ (by decide)
    refine ⟨_, rfl, p, _, 1, 1, rfl, rfl, hp, rfl, ?_⟩
    have hp2 : upd H p (.lst ([V.int a, V.int b].set 1 (.int ((b * 69621 + 12345) % 2147483647)))) p = some (.lst [.int a, .int ((b * 69621 + 12345) % 2147483647)]) := upd_same
    refine ⟨_, rfl, p, _, 1, _, rfl, rfl, SqL.of hp2, atI_nat (j := 1) rfl, _, rfl, p, _, 1, _, rfl, rfl, SqL.of hp2, atI_nat (j := 1) rfl, _, _, rfl, rfl, .inl ⟨by omega, by omega⟩, _, _, rfl, rfl, (show (0 : Int) < 2147483629 by decide), _, _, rfl, rfl, wide_div (b := 10) (show (0 : Int) < 64 by decide) (by decide) (by decide) (by decide), _, rfl, _, _, rfl, rfl, hm, ?_⟩
    exact fin _ a ((b * 69621 + 12345) % 2147483647) (Int.emod_nonneg _ (by omega)) (Int.emod_lt_of_pos _ hm) ⟨ha, lo, hi⟩
end
end W44
set_option Elab.async false
set_option linter.all false
set_option maxRecDepth 100000
set_option maxHeartbeats 4000000
/-! the law's words: _law_letters -/
namespace W44
open PySem PySem.Spec PyProof.Rows L2 KIt
abbrev s_law_letters : Stmt := topS 22
theorem sc_law_letters : FnScope ["number", "word"] ["number"] (defScope s_law_letters) := ⟨rfl, rfl, rfl, by decide +kernel, rfl, by decide +kernel, by decide +kernel⟩
def alpha : Str := Str.ofString "abcdefghijklmnopqrstuvwxyz"
theorem alpha_len : alpha.length = 26 := by decide +kernel
theorem alpha_at (i : Nat) (h : i < 26) : alpha.cps[i]? = some (97 + i) := (show ∀ i : Fin 26, alpha.cps[i.val]? = some (97 + i.val) by decide +kernel) ⟨i, h⟩
theorem empty_eq : (Str.ofString "" : Str) = ⟨#[]⟩ := by decide +kernel
/-- the number that small letters tell, the least figure first -/
def dec : List Nat → Nat
  | [] => 0
  | c :: r => (c - 97) + 26 * dec r
theorem dec_snoc (c : Nat) : ∀ cs : List Nat, dec (cs ++ [c]) = dec cs + (c - 97) * 26 ^ cs.length
  | [] => by simp [dec]
  | d :: r => by
    have ih := dec_snoc c r
    show (d - 97) + 26 * dec (r ++ [c]) = (d - 97) + 26 * dec r + (c - 97) * 26 ^ (r.length + 1)
    rw [ih, Nat.mul_add, Nat.pow_succ, ← Nat.add_assoc]
    congr 1
    rw [Nat.mul_comm (26 ^ r.length) 26, Nat.mul_left_comm]
/-- a name of the law's: some signs, few -/
def NmOk (z : Str) : Prop := (∀ c ∈ z.cps.toList, c < 0x110000) ∧ 1 ≤ z.length ∧ z.length ≤ 13
theorem NmOk.tx {z : Str} (h : NmOk z) : TxOk z := by
  refine ⟨?_, Nat.le_trans h.2.2 (by decide)⟩
  unfold PyData.strOk
  rw [← Array.all_toList, List.all_eq_true]
  exact fun c hc => decide_eq_true (h.1 c hc)
theorem len_mk (cs : List Nat) : (⟨cs.toArray⟩ : Str).length = cs.length := by show cs.toArray.size = _; exact List.size_toArray
section
variable {P : Program} {w : World} {K : PySem.W.Frag} {mg : Str → Option Value} {base : Heap}
/-- the word of a number -/
def spLetters : Sp := fun vs H Q _ => ∃ n : Nat, vs = [nV n] ∧ n < 26 ^ 13 ∧ ∀ z : Str, NmOk z → dec z.cps.toList = n → Q (.str z) H
theorem ok_letters {f : Addr} {fd : FuncData} {k : Nat} (F : Fun K "_law_letters" "_law_letters" s_law_letters f fd) : FnOk P w K mg base CX0 (k + 1) f fd ["number"] spLetters := by
  refine F.ok sc_law_letters (fun vs H Q E h => ?_) (fun cdv A' outer s H vs Q E hr h => ?_)
  · obtain ⟨n, rfl, _⟩ := h
    rfl
  obtain ⟨n, rfl, hn, fin⟩ := h
  refine ⟨_, (pss_cons (ps_set (i := 1) sc_law_letters.nd rfl (.inl rfl) pe_str)
    (pss_cons (ps_while PassesOwn.never (PW.pt (pw_or (pt_cmpR op_eq (pv 1) pe_str (nomark _)) (pw_or1 (pt_cmpR op_gt (pv 0) pe_int (nomark _))))) (pss_cons (ps_set (i := 1) sc_law_letters.nd rfl (.inl rfl) (pe_op op_add_str (pv 1) (pe_item_str pe_str (pe_op op_mod (pv 0) pe_int) (fun _ _ => rfl))))
    (pss_one (ps_set (i := 0) sc_law_letters.nd rfl (.inl rfl) (pe_op op_fdivW (pv 0) pe_int)))))
    (pss_one (ps_ret (pv 1))))), ?_⟩
  refine ⟨fun m σ H' => ∃ (k : Nat) (cs : List Nat), σ = [some (nV k), some (.str ⟨cs.toArray⟩)] ∧ H' = H ∧ dec cs + k * 26 ^ cs.length = n ∧ (∀ c ∈ cs, c < 123) ∧ cs.length ≤ 13 ∧ m = k + (if cs = [] then 1 else 0),
    ⟨n + 1, n, [], by rw [← empty_eq]; rfl, rfl, by simp [dec], by simp, by decide, by simp⟩, fun m σ H' ⟨k, cs, e, eH, hd, hc, hl, hm⟩ => ?_⟩
  subst e
  subst eH
  have step : (cs = [] ∨ 0 < k) → ∃ N : L2.St → Hp → Prop, (∀ σ' H'', N σ' H'' → ∃ m', m' < m ∧ ∃ (k : Nat) (cs : List Nat), σ' = [some (nV k), some (.str ⟨cs.toArray⟩)] ∧ H'' = H' ∧ dec cs + k * 26 ^ cs.length = n ∧ (∀ c ∈ cs, c < 123) ∧ cs.length ≤ 13 ∧ m' = k + (if cs = [] then 1 else 0)) ∧
      N [some (nV (k / 26)), some (.str ⟨(cs ++ [97 + k % 26]).toArray⟩)] H' := fun c => by
    refine ⟨fun σ' H'' => σ' = [some (nV (k / 26)), some (.str ⟨(cs ++ [97 + k % 26]).toArray⟩)] ∧ H'' = H', fun σ' H'' ⟨e1, e2⟩ => ⟨k / 26, ?_, k / 26, cs ++ [97 + k % 26], e1, e2, ?_, ?_, ?_, by simp⟩, rfl, rfl⟩
    · rw [hm]
      rcases c with c | c
      · rw [if_pos c]; omega
      · omega
    · rw [dec_snoc, List.length_append, List.length_singleton, Nat.pow_succ, Nat.add_sub_cancel_left]
      have e3 : k = k % 26 + 26 * (k / 26) := (Nat.mod_add_div k 26).symm
      calc dec cs + k % 26 * 26 ^ cs.length + k / 26 * (26 ^ cs.length * 26) = dec cs + (k % 26 + 26 * (k / 26)) * 26 ^ cs.length := by
            rw [Nat.add_mul, Nat.add_assoc]
            congr 2
            rw [Nat.mul_comm 26 (k / 26), Nat.mul_assoc, Nat.mul_comm 26 (26 ^ cs.length)]
        _ = n := by rw [← e3, hd]
    · intro d hd'
      rcases List.mem_append.mp hd' with q | q
      · exact hc d q
      · rw [List.mem_singleton.mp q]; omega
    · rw [List.length_append, List.length_singleton]
      rcases c with c | c
      · rw [c]; decide
      · have h1 : 26 ^ cs.length ≤ k * 26 ^ cs.length := Nat.le_mul_of_pos_left _ c
        have h2 : 26 ^ cs.length < 26 ^ 13 := by omega
        have := (Nat.pow_lt_pow_iff_right (by decide)).mp h2
        omega
  have lw : (⟨cs.toArray⟩ : Str).length = cs.length := len_mk cs
  have a26 : (k : Int) % 26 = ((k % 26 : Nat) : Int) := by omega
  have d26 : (k : Int) / 26 = ((k / 26 : Nat) : Int) := by omega
  have body : (cs = [] ∨ 0 < k) → ∃ N : L2.St → Hp → Prop, (∀ σ' H'', N σ' H'' → ∃ m', m' < m ∧ ∃ (k : Nat) (cs : List Nat), σ' = [some (nV k), some (.str ⟨cs.toArray⟩)] ∧ H'' = H' ∧ dec cs + k * 26 ^ cs.length = n ∧ (∀ c ∈ cs, c < 123) ∧ cs.length ≤ 13 ∧ m' = k + (if cs = [] then 1 else 0)) ∧
      N ([some (nV k), some (.str (⟨cs.toArray⟩ ++ ⟨#[97 + k % 26]⟩))].set 0 (some (.int ((k : Int) / 26)))) H' := fun c => by
    obtain ⟨N, h1, h2⟩ := step c
    refine ⟨N, h1, ?_⟩
    rw [d26]
    have e4 : ((⟨cs.toArray⟩ : Str) ++ ⟨#[97 + k % 26]⟩) = ⟨(cs ++ [97 + k % 26]).toArray⟩ := by
      show (⟨cs.toArray ++ #[97 + k % 26]⟩ : Str) = _
      congr 1
      simp
    rw [e4]
    exact h2
  have pick : alpha.cps[((k : Int) % 26).toNat]? = some (97 + k % 26) := by
    rw [a26, Int.toNat_natCast]
    exact alpha_at _ (Nat.mod_lt _ (by decide))
  have hlt : (k : Int) % 26 < (alpha.length : Int) := by rw [alpha_len]; omega
  refine ⟨_, rfl, rfl, _, rfl, ?_⟩
  refine ite2 (fun c => ?_) (fun c => ?_)
  · have c := V.str.inj (of_decide_eq_true c)
    rw [empty_eq] at c
    have c : cs = [] := by
      have := congrArg (fun z : Str => z.cps.toList) c
      simpa using this
    obtain ⟨N, h1, h2⟩ := body (.inl c)
    refine iteT ⟨N, h1, ?_⟩
    refine ⟨_, rfl, _, rfl, _, _, rfl, rfl, (show (0 : Int) < 26 by decide), alpha, _, _, rfl, rfl, by omega, by omega, hlt, pick, _, _, rfl, rfl, ?_, _, rfl, _, _, rfl, rfl, wide_div (b := 10) (show (0 : Int) < 26 by decide) (by decide) (by decide) (by decide), h2⟩
    rw [lw]
    exact few (by show cs.length + 1 ≤ 1000; omega)
  · refine ⟨_, rfl, _, _, rfl, rfl, _, rfl, ?_⟩
    refine ite2 (fun c2 => ?_) (fun c2 => ?_)
    · have c2 : (0 : Int) < (k : Int) := of_decide_eq_true c2
      obtain ⟨N, h1, h2⟩ := body (.inr (by omega))
      refine ⟨N, h1, ?_⟩
      refine ⟨_, rfl, _, rfl, _, _, rfl, rfl, (show (0 : Int) < 26 by decide), alpha, _, _, rfl, rfl, by omega, by omega, hlt, pick, _, _, rfl, rfl, ?_, _, rfl, _, _, rfl, rfl, wide_div (b := 10) (show (0 : Int) < 26 by decide) (by decide) (by decide) (by decide), h2⟩
      rw [lw]
      exact few (by show cs.length + 1 ≤ 1000; omega)
    · have c2 : ¬ (0 : Int) < (k : Int) := of_decide_eq_false (Bool.eq_false_iff.mpr c2)
      have k0 : k = 0 := by omega
      have ne : cs ≠ [] := fun z => c (decide_eq_true (by rw [z, empty_eq]))
      have lp : 0 < cs.length := List.length_pos_iff.mpr ne
      refine ⟨_, rfl, fin _ ⟨fun c hc' => ?_, by rw [lw]; exact lp, by rw [lw]; exact hl⟩ ?_⟩
      · have := hc c (by simpa using hc')
        omega
      · have : dec cs = n := by rw [← hd, k0]; simp
        simpa using this
end
end W44
set_option Elab.async false
set_option linter.all false
set_option maxRecDepth 100000
set_option maxHeartbeats 8000000
/-! the law's rows: _law_name, _law_names, _law_row -/
namespace W44
open PySem PySem.Spec PyProof.Rows L2 KIt
abbrev s_law_name : Stmt := topS 23
theorem sc_law_name : FnScope ["pot", "names", "some", "way", "name", "number"] ["pot", "names"] (defScope s_law_name) := ⟨rfl, rfl, rfl, by decide +kernel, rfl, by decide +kernel, by decide +kernel⟩
abbrev s_law_names : Stmt := topS 24
theorem sc_law_names : FnScope ["pot", "many", "names", "k"] ["pot", "many"] (defScope s_law_names) := ⟨rfl, rfl, rfl, by decide +kernel, rfl, by decide +kernel, by decide +kernel⟩
abbrev s_law_row : Stmt := topS 25
theorem sc_law_row : FnScope ["pot", "most", "many"] ["pot", "most"] (defScope s_law_row) := ⟨rfl, rfl, rfl, by decide +kernel, rfl, by decide +kernel, by decide +kernel⟩
/-! ### the pot -/
def Pot (H : Hp) (p : Addr) : Prop := ∃ a b, H p = some (.lst [.int a, .int b]) ∧ PotOk a b
/-- all but p stands -/
def But1 (p : Addr) (H H' : Hp) : Prop := ∀ b u, b ≠ p → H b = some u → H' b = some u
theorem But1.refl {p : Addr} {H : Hp} : But1 p H H := fun _ _ _ q => q
theorem But1.trans {p : Addr} {H H1 H2 : Hp} (a : But1 p H H1) (b : But1 p H1 H2) : But1 p H H2 := fun c u n q => b c u n (a c u n q)
theorem But1.of {p : Addr} {H H' : Hp} (s : Same H H') : But1 p H H' := fun b u _ q => s b u q
theorem But1.then {p : Addr} {H H1 H2 : Hp} (a : But1 p H H1) (s : Same H1 H2) : But1 p H H2 := a.trans (.of s)
theorem But1.free {p q : Addr} {H H' : Hp} (a : But1 p H H') (hp : ∃ o, H' p = some o) (h : H' q = none) : H q = none := by
  cases e : H q with
  | none => rfl
  | some u =>
    have ne : q ≠ p := fun z => by obtain ⟨o, ho⟩ := hp; rw [← z, h] at ho; exact nomatch ho
    rw [a q u ne e] at h
    exact nomatch h
theorem Pot.there {H : Hp} {p : Addr} (h : Pot H p) : ∃ o, H p = some o := let ⟨_, _, a, _⟩ := h; ⟨_, a⟩
theorem Pot.same {H H' : Hp} {p : Addr} (h : Pot H p) (s : Same H H') : Pot H' p := let ⟨a, b, c, d⟩ := h; ⟨a, b, s _ _ c, d⟩
theorem Pot.ne_strs {H : Hp} {p q : Addr} {xs : List Str} (h : Pot H p) (hq : H q = some (.lst (xs.map V.str))) : q ≠ p := by
  obtain ⟨a, b, hp, _⟩ := h
  refine ne_of hq hp fun z => ?_
  have z := HO.lst.inj z
  cases xs with
  | nil => exact nomatch z
  | cons x r => exact nomatch (List.cons.inj z).1
/-- a draw, as a caller sees it -/
def spDraw : Sp := fun vs H Q _ => ∃ (p : Addr) (m : Int), vs = [.ref p, .int m] ∧ Pot H p ∧ 0 < m ∧ m.natAbs < 2 ^ 64 ∧
  ∀ r H', 0 ≤ r → r < m → Pot H' p → But1 p H H' → Q (.int r) H'
theorem draw_imp (vs : List V) (H : Hp) (Q : VK) (E : XK) (h : spDraw vs H Q E) : spTake vs H Q E := by
  obtain ⟨p, m, rfl, ⟨a, b, hp, ok⟩, hm, h64, h⟩ := h
  refine ⟨p, a, b, m, rfl, hp, ok, hm, h64, fun r a' b' r0 r1 ok' => h r _ r0 r1 ⟨a', b', upd_same, ok'⟩ fun c u n q => by rw [upd_ne n]; exact q⟩
theorem atI_int {α : Type} {xs : List α} {r : Int} (h0 : 0 ≤ r) (h1 : r < (xs.length : Int)) : ∃ x, xs[r.toNat]? = some x ∧ atI xs r = some x := by
  have hk : r.toNat < xs.length := by omega
  have e : ((r.toNat : Nat) : Int) = r := Int.toNat_of_nonneg h0
  have q := atI_nat (List.getElem?_eq_getElem hk)
  rw [e] at q
  exact ⟨_, List.getElem?_eq_getElem hk, q⟩
def menu : List Str := ["put", "take", "none", "ahead", "all", "over", "next", "a", "ab", "abc", "abcdefgh", "b", "step"]
theorem menu_ok : ∀ z ∈ menu, NmOk z := by
  unfold NmOk
  decide +kernel
theorem eqv_nil (xs : List Str) : PyData.eqv (.list (dS xs)) (.list []) = decide (xs = []) := by
  cases xs with
  | nil => rfl
  | cons x r => rfl
theorem cut_ok {z : Str} (h : ∀ c ∈ z.cps.toList, c < 0x110000) {k : Nat} (h0 : 1 ≤ z.length) (hk : 1 ≤ k) (h13 : min k z.length ≤ 13) : NmOk (cutS z none (some (k : Int))) := by
  have e : (cutS z none (some (k : Int))).cps.toList = z.cps.toList.take (min k z.length) := by
    unfold cutS
    rw [HT.sIx_none, HT.sIx_nat]
    simp
  have el : (cutS z none (some (k : Int))).length = min k z.length := by
    show (cutS z none (some (k : Int))).cps.size = _
    rw [← Array.length_toList, e, List.length_take, Array.length_toList]
    show min (min k z.length) z.length = _
    omega
  refine ⟨fun c hc => h c ?_, by rw [el]; omega, by rw [el]; exact h13⟩
  rw [e] at hc
  exact List.mem_of_mem_take hc
section
variable {P : Program} {w : World} {K : PySem.W.Frag} {mg : Str → Option Value} {base : Heap}
def spName : Sp := fun vs H Q _ => ∃ (p na : Addr) (names : List Str), vs = [.ref p, .ref na] ∧ Pot H p ∧ H na = some (.lst (names.map V.str)) ∧ names.length ≤ 40 ∧ (∀ x ∈ names, NmOk x) ∧
  ∀ z H', z ∉ names → NmOk z → Pot H' p → But1 p H H' → Q (.str z) H'
theorem ok_name {f f1 f2 : Addr} {fd d1 d2 : FuncData} {k : Nat} (F : Fun K "_law_name" "_law_name" s_law_name f fd)
    (G_law_take : FnOk P w K mg base CX0 k f1 d1 ["pot", "many"] spDraw) (k_law_take : PySem.W.keepIn K (.ref f1) = true) (b_law_take : Binds K d1 ["pot", "many"] []) (m_law_take : mg "_law_take" = some (.ref f1))
    (G_law_letters : FnOk P w K mg base CX0 k f2 d2 ["number"] spLetters) (k_law_letters : PySem.W.keepIn K (.ref f2) = true) (b_law_letters : Binds K d2 ["number"] []) (m_law_letters : mg "_law_letters" = some (.ref f2))
    (mlen : mg "len" = none) : FnOk P w K mg base CX0 (k + 1) f fd ["pot", "names"] spName := by
  refine F.ok sc_law_name (fun vs H Q E h => ?_) (fun cdv A' outer s H vs Q E hr h => ?_)
  · obtain ⟨p, na, names, rfl, _⟩ := h
    rfl
  obtain ⟨p, na, names, rfl, hP, hna, h40, hok, fin⟩ := h
  refine ⟨_, (pss_cons (ps_set (i := 2) sc_law_name.nd rfl (.inl rfl) (pe_tup (pa_cons pe_str (pa_cons pe_str (pa_cons pe_str (pa_cons pe_str (pa_cons pe_str (pa_cons pe_str (pa_cons pe_str (pa_cons pe_str (pa_cons pe_str (pa_cons pe_str (pa_cons pe_str (pa_cons pe_str (pa_cons pe_str pa_nil)))))))))))))))
    (pss_cons (ps_set (i := 3) sc_law_name.nd rfl (.inl rfl) (pe_call G_law_take hr rfl m_law_take k_law_take b_law_take .nil pass0 (pa_cons (pv 0) (pa_cons pe_int pa_nil))))
    (pss_cons (ps_set (i := 4) sc_law_name.nd rfl (.inl rfl) (pe_ix ix_tup (pv 2) (pe_call G_law_take hr rfl m_law_take k_law_take b_law_take .nil pass0 (pa_cons (pv 0) (pa_cons pe_int pa_nil))) (fun _ _ => rfl)))
    (C8.pss_cut (ps_if (pt_cmpR op_eq (pv 3) pe_int (nomark _)) (pss_one (ps_set (i := 4) sc_law_name.nd rfl (.inl rfl) (pe_call G_law_letters hr rfl m_law_letters k_law_letters b_law_letters .nil pass0 (pa_cons (pe_call G_law_take hr rfl m_law_take k_law_take b_law_take .nil pass0 (pa_cons (pv 0) (pa_cons (pe_op op_sub (pe_op op_pow pe_int pe_int) pe_int) pa_nil))) pa_nil)))) pss_nil)
    (C8.pss_cut (ps_if (PW.pt (pw_and (pt_cmpR op_eq (pv 3) pe_int (nomark _)) (pw_and1 (pt_cmpR (op_neD hr.units) (pv 1) (pe_lst pa_nil) (nomark _))))) (pss_cons (ps_set (i := 4) sc_law_name.nd rfl (.inl rfl) (pe_ix ix_list (pv 1) (pe_call G_law_take hr rfl m_law_take k_law_take b_law_take .nil pass0 (pa_cons (pv 0) (pa_cons (pe_callB call_len_seq (by rfl) mlen (by decide +kernel) (pa_cons (pv 1) pa_nil)) pa_nil))) (fun _ _ => rfl)))
    (pss_one (ps_set (i := 4) sc_law_name.nd rfl (.inl rfl) (pe_slice sl_str (pe_op op_add_str (pv 4) (pe_call G_law_letters hr rfl m_law_letters k_law_letters b_law_letters .nil pass0 (pa_cons (pe_call G_law_take hr rfl m_law_take k_law_take b_law_take .nil pass0 (pa_cons (pv 0) (pa_cons pe_int pa_nil))) pa_nil))) po_none (po_some pe_int))))) pss_nil)
    (C8.pss_cut (ps_if (PW.pt (pw_and (pt_cmpR op_eq (pv 3) pe_int (nomark _)) (pw_and1 (pt_cmpR (op_neD hr.units) (pv 1) (pe_lst pa_nil) (nomark _))))) (pss_cons (ps_set (i := 4) sc_law_name.nd rfl (.inl rfl) (pe_ix ix_list (pv 1) (pe_call G_law_take hr rfl m_law_take k_law_take b_law_take .nil pass0 (pa_cons (pv 0) (pa_cons (pe_callB call_len_seq (by rfl) mlen (by decide +kernel) (pa_cons (pv 1) pa_nil)) pa_nil))) (fun _ _ => rfl)))
    (pss_one (ps_set (i := 4) sc_law_name.nd rfl (.inl rfl) (pe_slice sl_str (pv 4) po_none (po_some (pe_op op_add pe_int (pe_call G_law_take hr rfl m_law_take k_law_take b_law_take .nil pass0 (pa_cons (pv 0) (pa_cons (pe_callB call_len_str (by rfl) mlen (by decide +kernel) (pa_cons (pv 4) pa_nil)) pa_nil))))))))) pss_nil)
    (pss_cons (ps_set (i := 5) sc_law_name.nd rfl (.inl rfl) pe_int)
    (pss_cons (ps_while PassesOwn.never (pt_cmpR op_in_seq (pv 4) (pv 1) rfl) (pss_cons (ps_set (i := 4) sc_law_name.nd rfl (.inl rfl) (pe_call G_law_letters hr rfl m_law_letters k_law_letters b_law_letters .nil pass0 (pa_cons (pv 5) pa_nil)))
    (pss_one (ps_set (i := 5) sc_law_name.nd rfl (.inl rfl) (pe_op op_add (pv 5) pe_int)))))
    (pss_one (ps_ret (pv 4))))))))))), ?_⟩
  have nap : na ≠ p := hP.ne_strs hna
  have eln : (names.map V.str).length = names.length := List.length_map _
  refine ⟨by show 13 ≤ sizeLine; decide, fun t nt => ?_⟩
  have s1 : Same H (upd H t (.tup (menu.map V.str))) := same_new nt
  refine ⟨_, rfl, p, _, rfl, (hP.same s1), (by decide), (by decide), fun way H1 w0 w1 P1 b1 => ?_⟩
  have bb1 : But1 p H H1 := (But1.of s1).trans b1
  have ht1 : H1 t = some (.tup (menu.map V.str)) := b1 _ _ (fun e => by obtain ⟨o, ho⟩ := hP.there; rw [← e, nt] at ho; exact nomatch ho) upd_same
  refine ⟨_, rfl, _, rfl, p, _, rfl, P1, (by decide), (by decide), fun r H2 r0 r1 P2 b2 => ?_⟩
  have bb2 := bb1.trans b2
  have tp : t ≠ p := fun e => by obtain ⟨o, ho⟩ := hP.there; rw [← e, nt] at ho; exact nomatch ho
  have lm : (menu.map V.str).length = 13 := rfl
  obtain ⟨x, hx, hat⟩ := atI_int (xs := menu.map V.str) r0 (by rw [lm]; exact r1)
  obtain ⟨z0, hz0, rfl⟩ := map_at hx
  refine ⟨t, _, _, _, rfl, rfl, SqT.of (b2 _ _ tp ht1), hat, ?_⟩
  have nm0 := menu_ok z0 (List.mem_of_getElem? hz0)
  -- the ways
  have ne64 : (26 ^ 8 - 26 : Int) = 208827064550 := by decide +kernel
  have mid0 : ∀ (z : Str) (H' : Hp), NmOk z → Pot H' p → But1 p H H' → ∃ z2, NmOk z2 ∧ ([some (.ref p), some (.ref na), some (.ref t), some (.int way), some (.str z), none] : L2.St) = [some (.ref p), some (.ref na), some (.ref t), some (.int way), some (.str z2), none] ∧ Pot H' p ∧ But1 p H H' :=
    fun z H' a b c => ⟨z, a, rfl, b, c⟩
  refine ⟨fun σ' H' => ∃ z, NmOk z ∧ σ' = [some (.ref p), some (.ref na), some (.ref t), some (.int way), some (.str z), none] ∧ Pot H' p ∧ But1 p H H', ?_, fun σ3 H3 ⟨z3, nm3, e3, P3, b3⟩ => ?_⟩
  · refine ⟨_, rfl, rfl, _, rfl, ?_⟩
    refine ite2 (fun c => ?_) (fun c => ?_)
    · refine ⟨_, rfl, 26, 8, rfl, rfl, ⟨by decide, by decide, by decide⟩, _, _, rfl, rfl, p, _, rfl, P2, (show (0 : Int) < 26 ^ Int.toNat 8 - 26 by decide +kernel), (show ((26 : Int) ^ Int.toNat 8 - 26).natAbs < 2 ^ 64 by decide +kernel), fun r H3 r0 r1 P3 b3 => ?_⟩
      have r1 : r < 208827064550 := by rw [← ne64]; exact r1
      refine ⟨r.toNat, by rw [show nV r.toNat = V.int r from congrArg V.int (Int.toNat_of_nonneg r0)]; rfl, (show r.toNat < 26 ^ 13 from Nat.lt_trans (show r.toNat < 208827064550 by omega) (by decide)), fun z nm _ => ?_⟩
      exact ⟨z, nm, rfl, P3, bb2.trans b3⟩
    · exact ⟨z0, nm0, rfl, P2, bb2⟩
  subst e3
  -- an item of the names
  have hnames : ∀ H', But1 p H H' → H' na = some (.lst (names.map V.str)) := fun H' b => b _ _ nap hna
  refine ⟨fun σ' H' => ∃ z, NmOk z ∧ σ' = [some (.ref p), some (.ref na), some (.ref t), some (.int way), some (.str z), none] ∧ Pot H' p ∧ But1 p H H', ?_, fun σ4 H4 ⟨z4, nm4, e4, P4, b4⟩ => ?_⟩
  · refine ⟨_, rfl, rfl, _, rfl, ?_⟩
    refine ite2 (fun c => ?_) (fun c => iteF ⟨z3, nm3, rfl, P3, b3⟩)
    refine ⟨_, rfl, Nat.zero_le _, fun n1 nn1 => ⟨.list (dS names), .list [], .lst (SqL.of (same_new nn1 _ _ (hnames _ b3))) (dp_strs _), .lst (SqL.of upd_same) .nil, shaped_strs (fun x hx => (hok x hx).tx), shaped_nil, _, rfl, ?_⟩⟩
    rw [eqv_nil]
    have s4 : Same H3 (upd H3 n1 (.lst [])) := same_new nn1
    by_cases cn : names = []
    · rw [decide_eq_true cn]
      exact iteF ⟨z3, nm3, rfl, P3.same s4, b3.then s4⟩
    · rw [decide_eq_false cn]
      have lp : 0 < names.length := List.length_pos_iff.mpr cn
      refine iteT ?_
      refine ⟨_, rfl, _, rfl, _, rfl, na, _, rfl, .inl (SqL.of (s4 _ _ (hnames _ b3))), p, _, rfl, (P3.same s4), (by rw [eln]; omega), (by rw [eln]; omega), fun r H5 r0 r1 P5 b5 => ?_⟩
      have bb5 := (b3.then s4).trans b5
      obtain ⟨x, hx, hat⟩ := atI_int (xs := names.map V.str) r0 r1
      obtain ⟨z5, hz5, rfl⟩ := map_at hx
      have nm5 := hok z5 (List.mem_of_getElem? hz5)
      refine ⟨na, _, _, _, rfl, rfl, SqL.of (hnames _ bb5), hat, ?_⟩
      refine ⟨_, rfl, _, rfl, p, _, rfl, P5, (by decide), (by decide), fun r' H6 r0' r1' P6 b6 => ?_⟩
      refine ⟨r'.toNat, by rw [show nV r'.toNat = V.int r' from congrArg V.int (Int.toNat_of_nonneg r0')]; rfl, (show r'.toNat < 26 ^ 13 from Nat.lt_trans (show r'.toNat < 26 by omega) (by decide)), fun z6 nm6 _ => ?_⟩
      have l5 := nm5.2.2
      have l6 := nm6.2.2
      have el : (z5 ++ z6).length = z5.length + z6.length := by show (z5.cps ++ z6.cps).size = _; rw [Array.size_append]; rfl
      refine ⟨z5, z6, rfl, rfl, few (show z5.length + z6.length ≤ 1000 by omega), 8, rfl, z5 ++ z6, rfl, by rw [el]; exact few (by omega), ?_⟩
      refine ⟨_, cut_ok (k := 8) (fun c hc => ?_) (by rw [el]; have := nm5.2.1; omega) (by decide) (by omega), rfl, P6, bb5.trans b6⟩
      have hc : c ∈ (z5.cps ++ z6.cps).toList := hc
      rw [Array.toList_append] at hc
      rcases List.mem_append.mp hc with q | q
      · exact nm5.1 c q
      · exact nm6.1 c q
  subst e4
  refine ⟨fun σ' H' => ∃ z, NmOk z ∧ σ' = [some (.ref p), some (.ref na), some (.ref t), some (.int way), some (.str z), none] ∧ Pot H' p ∧ But1 p H H', ?_, fun σ5 H5 ⟨z5, nm5, e5, P5, b5⟩ => ?_⟩
  · refine ⟨_, rfl, rfl, _, rfl, ?_⟩
    refine ite2 (fun c => ?_) (fun c => iteF ⟨z4, nm4, rfl, P4, b4⟩)
    refine ⟨_, rfl, Nat.zero_le _, fun n1 nn1 => ⟨.list (dS names), .list [], .lst (SqL.of (same_new nn1 _ _ (hnames _ b4))) (dp_strs _), .lst (SqL.of upd_same) .nil, shaped_strs (fun x hx => (hok x hx).tx), shaped_nil, _, rfl, ?_⟩⟩
    rw [eqv_nil]
    have s4 : Same H4 (upd H4 n1 (.lst [])) := same_new nn1
    by_cases cn : names = []
    · rw [decide_eq_true cn]
      exact iteF ⟨z4, nm4, rfl, P4.same s4, b4.then s4⟩
    · rw [decide_eq_false cn]
      have lp : 0 < names.length := List.length_pos_iff.mpr cn
      refine iteT ?_
      refine ⟨_, rfl, _, rfl, _, rfl, na, _, rfl, .inl (SqL.of (s4 _ _ (hnames _ b4))), p, _, rfl, (P4.same s4), (by rw [eln]; omega), (by rw [eln]; omega), fun r H5 r0 r1 P5 b5 => ?_⟩
      have bb5 := (b4.then s4).trans b5
      obtain ⟨x, hx, hat⟩ := atI_int (xs := names.map V.str) r0 r1
      obtain ⟨z5, hz5, rfl⟩ := map_at hx
      have nm5 := hok z5 (List.mem_of_getElem? hz5)
      have l5 := nm5.2.2
      have l5' := nm5.2.1
      refine ⟨na, _, _, _, rfl, rfl, SqL.of (hnames _ bb5), hat, ?_⟩
      refine ⟨_, rfl, _, rfl, _, rfl, z5, rfl, few (by omega), p, _, rfl, P5, (by omega), (by omega), fun r' H6 r0' r1' P6 b6 => ?_⟩
      refine ⟨_, _, rfl, rfl, _, rfl, z5, rfl, few (by omega), ?_⟩
      have ek : (1 + r' : Int) = ((1 + r'.toNat : Nat) : Int) := by omega
      rw [ek]
      exact ⟨_, cut_ok (k := 1 + r'.toNat) nm5.1 l5' (by omega) (by omega), rfl, P6, bb5.trans b6⟩
  subst e5
  -- another one while it stands among the names
  have hna5 := hnames H5 b5
  refine ⟨fun m σ H' => ∃ (j : Nat) (z : Str) (tried : List Str), NmOk z ∧ σ = [some (.ref p), some (.ref na), some (.ref t), some (.int way), some (.str z), some (nV j)] ∧ H' = H5 ∧ m + j = 50 ∧ j ≤ 41 ∧
      (∀ j', j = j' + 1 → dec z.cps.toList = j' ∧ tried.length = j') ∧ tried.Nodup ∧ (∀ x ∈ tried, x ∈ names) ∧ ∀ x ∈ tried, dec x.cps.toList + 1 < j,
    ⟨50, 0, z5, [], nm5, rfl, rfl, rfl, by decide, fun j' e => by omega, List.nodup_nil, by simp, by simp⟩, fun m σ H' ⟨j, z, tried, nm, e, eH, sum, j41, hj, ndt, tin, tlt⟩ => ?_⟩
  subst e
  subst eH
  refine ⟨_, rfl, _, rfl, na, _, rfl, .inl (SqL.of hna5), rfl, flat_strs' _, _, rfl, ?_⟩
  rw [if_neg Bool.false_ne_true, inV_str]
  by_cases c : z ∈ names
  · rw [decide_eq_true c]
    refine iteT ?_
    -- those that were tried, with this one
    have next : ∃ tried' : List Str, tried'.length = j ∧ tried'.Nodup ∧ (∀ x ∈ tried', x ∈ names) ∧ ∀ x ∈ tried', dec x.cps.toList + 1 < j + 1 := by
      cases j with
      | zero => exact ⟨[], rfl, List.nodup_nil, by simp, by simp⟩
      | succ j' =>
        obtain ⟨hd, hl⟩ := hj j' rfl
        refine ⟨tried ++ [z], by rw [List.length_append, hl]; rfl, ?_, fun x hx => ?_, fun x hx => ?_⟩
        · rw [List.nodup_append]
          refine ⟨ndt, by simp, fun a ha b hb q => ?_⟩
          rw [List.mem_singleton] at hb
          have := tlt a ha
          rw [q, hb, hd] at this
          omega
        · rcases List.mem_append.mp hx with q | q
          · exact tin x q
          · rw [List.mem_singleton.mp q]; exact c
        · rcases List.mem_append.mp hx with q | q
          · have := tlt x q
            omega
          · rw [List.mem_singleton.mp q, hd]; omega
    obtain ⟨tried', l', nd', in', lt'⟩ := next
    have j40 : j ≤ 40 := by
      have := K44.nd_len nd' in'
      omega
    refine ⟨fun σ' H'' => ∃ (z : Str), NmOk z ∧ σ' = [some (.ref p), some (.ref na), some (.ref t), some (.int way), some (.str z), some (.int ((j : Int) + 1))] ∧ H'' = H' ∧ dec z.cps.toList = j,
      fun σ' H'' ⟨z', nm', e, eH, hd⟩ => ⟨m - 1, by omega, j + 1, z', tried', nm', e, eH, by omega, by omega, fun j' e => ?_, nd', in', lt'⟩, ?_⟩
    · have : j = j' := Nat.succ.inj e
      exact ⟨by rw [← this]; exact hd, by rw [← this]; exact l'⟩
    · refine ⟨_, rfl, j, rfl, Nat.lt_of_le_of_lt j40 (by decide), fun z' nm' hd => ?_⟩
      exact ⟨_, rfl, _, _, rfl, rfl, z', nm', rfl, rfl, hd⟩
  · rw [decide_eq_false c]
    exact iteF ⟨_, rfl, fin z H' c nm P5 b5⟩

/-- some names, a new list -/
def spNames : Sp := fun vs H Q _ => ∃ (p : Addr) (many : Nat), vs = [.ref p, nV many] ∧ Pot H p ∧ many ≤ 40 ∧
  ∀ na names H', H na = none → H' na = some (.lst (names.map V.str)) → RowOk names → Pot H' p → But1 p H H' → Q (.ref na) H'
theorem ok_names {f f1 : Addr} {fd d1 : FuncData} {k : Nat} (F : Fun K "_law_names" "_law_names" s_law_names f fd)
    (G_law_name : FnOk P w K mg base CX0 k f1 d1 ["pot", "names"] spName) (k_law_name : PySem.W.keepIn K (.ref f1) = true) (b_law_name : Binds K d1 ["pot", "names"] []) (m_law_name : mg "_law_name" = some (.ref f1))
    (mrange : mg "range" = none) : FnOk P w K mg base CX0 (k + 1) f fd ["pot", "many"] spNames := by
  refine F.ok sc_law_names (fun vs H Q E h => ?_) (fun cdv A' outer s H vs Q E hr h => ?_)
  · obtain ⟨p, many, rfl, _⟩ := h
    rfl
  obtain ⟨p, many, rfl, hP, h40, fin⟩ := h
  refine ⟨_, (pss_cons (ps_set (i := 2) sc_law_names.nd rfl (.inl rfl) (pe_lst pa_nil))
    (pss_cons (ps_for PassesOwn.never rfl (pi_range1 (by rfl) mrange (pa_cons (pv 1) pa_nil)) (pg_name (i := 3) sc_law_names.nd rfl (.inl rfl)) (pss_one (ps_expr (pe_bm PySem.F.plainAttrs_list PySem.F.slot_list_append PySem.F.type_list_append mt_append (pv 2) (pa_cons (pe_call G_law_name hr rfl m_law_name k_law_name b_law_name .nil pass0 (pa_cons (pv 0) (pa_cons (pv 2) pa_nil))) pa_nil)))))
    (pss_one (ps_ret (pv 2))))), ?_⟩
  refine ⟨Nat.zero_le _, fun na nna => ?_⟩
  have s1 : Same H (upd H na (.lst [])) := same_new nna
  refine ⟨_, rfl, _, rfl, by omega, by omega, ?_⟩
  rw [Int.toNat_natCast]
  refine for_range (lo := 0) (n := many) (fun i σ H1 => ∃ (y3 : Option V) (names : List Str), σ = [some (.ref p), some (nV many), some (.ref na), y3] ∧ H1 na = some (.lst (names.map V.str)) ∧ names.length = i ∧ names.Nodup ∧ (∀ x ∈ names, NmOk x) ∧ Pot H1 p ∧ But1 p H H1)
    ⟨none, [], rfl, upd_same, rfl, List.nodup_nil, by simp, hP.same s1, .of s1⟩ (fun i σ H1 hi ⟨y3, names, e, hna, hl, nd, nm, P1, b1⟩ => ?_) (fun σ H1 ⟨y3, names, e, hna, hl, nd, nm, P1, b1⟩ => ?_)
  · subst e
    have nap := P1.ne_strs hna
    refine ⟨_, rfl, .inl ⟨rfl, _, SqL.of hna⟩, _, rfl, _, rfl, p, na, names, rfl, P1, hna, by omega, nm, fun z H2 nin nz P2 b2 => ?_⟩
    have hna2 := b2 _ _ nap hna
    refine ⟨na, names.map V.str, _, rfl, rfl, hna2, by rw [List.length_map]; exact small1000 (by omega), ?_⟩
    refine ⟨_, names ++ [z], rfl, by rw [upd_same, List.map_append]; rfl, by rw [List.length_append, hl]; rfl, ?_, ?_, ?_, fun b u n q => ?_⟩
    · rw [List.nodup_append]
      exact ⟨nd, by simp, fun a ha b hb q => by rw [List.mem_singleton.mp hb] at q; exact nin (q ▸ ha)⟩
    · intro x hx
      rcases List.mem_append.mp hx with q | q
      · exact nm x q
      · rw [List.mem_singleton.mp q]; exact nz
    · obtain ⟨a, b, hp, ok⟩ := P2
      exact ⟨a, b, by rw [upd_ne nap.symm]; exact hp, ok⟩
    · rw [upd_ne (ne_of_none q nna)]
      exact b2 _ _ n (b1 _ _ n q)
  · subst e
    exact ⟨_, rfl, fin na names H1 nna hna ⟨nd, by omega, fun x hx => (nm x hx).tx⟩ P1 b1⟩
def spRow : Sp := fun vs H Q _ => ∃ (p : Addr), vs = [.ref p, .int 40] ∧ Pot H p ∧
  ∀ na names H', H na = none → H' na = some (.lst (names.map V.str)) → RowOk names → Pot H' p → But1 p H H' → Q (.ref na) H'
theorem ok_row {f f1 f2 : Addr} {fd d1 d2 : FuncData} {k : Nat} (F : Fun K "_law_row" "_law_row" s_law_row f fd)
    (G_law_take : FnOk P w K mg base CX0 k f1 d1 ["pot", "many"] spDraw) (k_law_take : PySem.W.keepIn K (.ref f1) = true) (b_law_take : Binds K d1 ["pot", "many"] []) (m_law_take : mg "_law_take" = some (.ref f1))
    (G_law_names : FnOk P w K mg base CX0 k f2 d2 ["pot", "many"] spNames) (k_law_names : PySem.W.keepIn K (.ref f2) = true) (b_law_names : Binds K d2 ["pot", "many"] []) (m_law_names : mg "_law_names" = some (.ref f2)) :
    FnOk P w K mg base CX0 (k + 1) f fd ["pot", "most"] spRow := by
  refine F.ok sc_law_row (fun vs H Q E h => ?_) (fun cdv A' outer s H vs Q E hr h => ?_)
  · obtain ⟨p, rfl, _⟩ := h
    rfl
  obtain ⟨p, rfl, hP, fin⟩ := h
  refine ⟨_, (pss_cons (ps_set (i := 2) sc_law_row.nd rfl (.inl rfl) (pe_call G_law_take hr rfl m_law_take k_law_take b_law_take .nil pass0 (pa_cons (pv 0) (pa_cons (pe_op op_add (pv 1) pe_int) pa_nil))))
    (C8.pss_cut (ps_if (pt_cmpR op_eq (pe_call G_law_take hr rfl m_law_take k_law_take b_law_take .nil pass0 (pa_cons (pv 0) (pa_cons pe_int pa_nil))) pe_int (nomark _)) (pss_one (ps_set (i := 2) sc_law_row.nd rfl (.inl rfl) (pe_ix ix_tup (pe_tup (pa_cons pe_int (pa_cons pe_int (pa_cons (pv 1) pa_nil)))) (pe_call G_law_take hr rfl m_law_take k_law_take b_law_take .nil pass0 (pa_cons (pv 0) (pa_cons pe_int pa_nil))) (fun _ _ => rfl)))) pss_nil)
    (pss_one (ps_ret (pe_call G_law_names hr rfl m_law_names k_law_names b_law_names .nil pass0 (pa_cons (pv 0) (pa_cons (pv 2) pa_nil))))))), ?_⟩
  refine ⟨_, rfl, _, rfl, _, _, rfl, rfl, p, _, rfl, hP, by decide, by decide, fun r H1 r0 r1 P1 b1 => ?_⟩
  refine ⟨fun σ' H' => ∃ m : Nat, m ≤ 40 ∧ σ' = [some (.ref p), some (.int 40), some (nV m)] ∧ Pot H' p ∧ But1 p H H', ?_, fun σ2 H2 ⟨m, hm, e, P2, b2⟩ => ?_⟩
  · refine ⟨_, rfl, p, _, rfl, P1, by decide, by decide, fun r' H2 r0' r1' P2 b2 => ?_⟩
    refine ⟨rfl, _, rfl, ?_⟩
    refine ite2 (fun c => ?_) (fun c => ?_)
    · refine ⟨_, rfl, by show 3 ≤ sizeLine; decide, fun t nt => ?_⟩
      have s3 : Same H2 (upd H2 t (.tup [.int 0, .int 1, .int 40])) := same_new nt
      refine ⟨_, rfl, p, _, rfl, P2.same s3, by decide, by decide, fun r3 H3 r30 r31 P3 b3 => ?_⟩
      have tp : t ≠ p := fun e => by obtain ⟨o, ho⟩ := P2.there; rw [← e, nt] at ho; exact nomatch ho
      obtain ⟨x, hx, hat⟩ := atI_int (xs := [nV 0, nV 1, nV 40]) r30 r31
      have fx : ∃ m : Nat, m ≤ 40 ∧ x = nV m := by
        have := List.mem_of_getElem? hx
        simp only [List.mem_cons, List.not_mem_nil, or_false] at this
        rcases this with q | q | q
        · exact ⟨0, by decide, q⟩
        · exact ⟨1, by decide, q⟩
        · exact ⟨40, by decide, q⟩
      obtain ⟨m, hm, rfl⟩ := fx
      refine ⟨t, _, _, _, rfl, rfl, SqT.of (b3 _ _ tp upd_same), hat, m, hm, rfl, P3, ((b1.trans b2).then s3).trans b3⟩
    · exact ⟨r.toNat, by omega, by rw [show nV r.toNat = V.int r from congrArg V.int (Int.toNat_of_nonneg r0)]; rfl, P2, b1.trans b2⟩
  · subst e
    exact ⟨_, rfl, _, rfl, p, m, rfl, P2, hm, fun na names H3 nna hna ok P3 b3 => fin na names H3 (b2.free P2.there nna) hna ok P3 (b2.trans b3)⟩
end
end W44
set_option Elab.async false
set_option linter.all false
set_option maxRecDepth 100000
set_option maxHeartbeats 8000000
/-! the law's loops: _law_some_loop, _law_loops -/
namespace W44
open PySem PySem.Spec PyProof.Rows L2 KIt
abbrev s_law_some_loop : Stmt := topS 28
theorem sc_law_some_loop : FnScope ["pot", "row", "coming", "share", "name", "rule"] ["pot", "row"] (defScope s_law_some_loop) := ⟨rfl, rfl, rfl, by decide +kernel, rfl, by decide +kernel, by decide +kernel⟩
abbrev s_law_loops : Stmt := topS 29
theorem sc_law_loops : FnScope ["pot", "row", "most", "loops", "k", "loop", "way", "one", "coming", "name"] ["pot", "row", "most"] (defScope s_law_loops) := ⟨rfl, rfl, rfl, by decide +kernel, rfl, by decide +kernel, by decide +kernel⟩
/-! ### data -/
theorem lay_all : ∀ {ds : List PyData}, (∀ d ∈ ds, PyData.canLay0 d = true) → PyData.canLayAll0 ds = true
  | [], _ => rfl
  | x :: r, h => by
    show (PyData.canLay0 x && PyData.canLayAll0 r) = true
    rw [h x List.mem_cons_self, lay_all fun y hy => h y (List.mem_cons_of_mem _ hy)]; rfl
theorem dep_all {n : Nat} : ∀ {ds : List PyData}, (∀ d ∈ ds, PyData.depth d ≤ n) → PyData.depthAll ds ≤ n
  | [], _ => Nat.zero_le _
  | x :: r, h => by
    show max (PyData.depth x) (PyData.depthAll r) ≤ n
    exact Nat.max_le.mpr ⟨h x List.mem_cons_self, dep_all fun y hy => h y (List.mem_cons_of_mem _ hy)⟩
theorem shaped_of {d : PyData} (h : PyData.canLay0 d = true) (h2 : PyData.depth d ≤ 64) : SeqAt.shaped d = true := by
  unfold SeqAt.shaped
  rw [h, decide_eq_true h2]; rfl
theorem dp_map {α : Type} {K : PySem.W.Frag} {H : Hp} {f : α → PyData} : ∀ {xs : List V} {as : List α}, xs.length = as.length → (∀ (i : Nat) (x : V) (a : α), xs[i]? = some x → as[i]? = some a → Dp K H x (f a)) → DpAll K H xs (as.map f)
  | [], [], _, _ => .nil
  | [], _ :: _, h, _ => nomatch h
  | _ :: _, [], h, _ => nomatch h
  | _ :: _, _ :: _, h, g => .cons (g 0 _ _ rfl rfl) (dp_map (Nat.succ.inj h) fun i x a p q => g (i + 1) x a p q)
/-- a loop as data -/
def dLp (l : Lp) : PyData := .tuple [.str l.rule, .int l.gap, .tuple (dS l.coming)]
def dLps (ls : List Lp) : PyData := .list (ls.map dLp)
theorem dp_lp {K : PySem.W.Frag} {H : Hp} {p : Addr} {l : Lp} (h : LpAt H p l) : Dp K H (.ref p) (dLp l) := by
  obtain ⟨c, hp, hc⟩ := h
  exact .tup (SqT.of hp) (.cons (.str _) (.cons (.int _) (.cons (.tup (SqT.of hc) (dp_strs _)) .nil)))
theorem dp_lps {K : PySem.W.Frag} {H : Hp} {ps : List Addr} {ls : List Lp} {a : Addr} (h : LpsAt H ps ls) (ha : H a = some (.lst (ps.map V.ref))) : Dp K H (.ref a) (dLps ls) := by
  refine .lst (SqL.of ha) (dp_map (by rw [List.length_map, h.len]) fun i x l hx hl => ?_)
  obtain ⟨p, hp, rfl⟩ := map_at hx
  exact dp_lp (h.at' i p l hp hl)
theorem rules_tx : ∀ x ∈ rules, PyData.strOk x = true := by decide +kernel
theorem lay_lp {row : List Str} {l : Lp} (rok : RowOk row) (h : LpOk row l) : PyData.canLay0 (dLp l) = true ∧ PyData.depth (dLp l) ≤ 2 := by
  constructor
  · show (PyData.strOk l.rule && (true && (PyData.canLayAll0 (dS l.coming) && true))) = true
    rw [rules_tx _ h.rule, can_strs (h.tx rok)]; rfl
  · show max 0 (max 0 (max (PyData.depthAll (dS l.coming) + 1) 0)) + 1 ≤ 2
    rw [depth_strs]; decide
theorem shaped_lps {row : List Str} {ls : List Lp} (rok : RowOk row) (h : ∀ l ∈ ls, LpOk row l) : SeqAt.shaped (dLps ls) = true := by
  refine shaped_of (lay_all fun d hd => ?_) (Nat.le_trans (Nat.succ_le_succ (dep_all (n := 2) fun d hd => ?_)) (by decide : 2 + 1 ≤ 64))
  · obtain ⟨l, hl, rfl⟩ := List.mem_map.mp hd
    exact (lay_lp rok (h l hl)).1
  · obtain ⟨l, hl, rfl⟩ := List.mem_map.mp hd
    exact (lay_lp rok (h l hl)).2
theorem eqv_lnil (ls : List Lp) : PyData.eqv (dLps ls) (.list []) = decide (ls = []) := by
  cases ls with
  | nil => rfl
  | cons x r => rfl
/-! ### loops keep -/
theorem LpAt.but {H H' : Hp} {p q : Addr} {xs : List V} {l : Lp} (h : LpAt H q l) (b : But1 p H H') (hp : H p = some (.lst xs)) : LpAt H' q l := by
  obtain ⟨c, a, e⟩ := h
  exact ⟨c, b _ _ (ne_of a hp fun z => nomatch z) a, b _ _ (ne_of e hp fun z => nomatch z) e⟩
theorem LpsAt.but {H H' : Hp} {p : Addr} {xs : List V} {ps : List Addr} {ls : List Lp} (h : LpsAt H ps ls) (b : But1 p H H') (hp : H p = some (.lst xs)) : LpsAt H' ps ls := ⟨h.len, fun i q l x y => (h.at' i q l x y).but b hp⟩
theorem But1.put {H : Hp} {p : Addr} {o : HO} : But1 p H (upd H p o) := fun b u n q => by rw [upd_ne n]; exact q
theorem But1.new {H H1 : Hp} {p q : Addr} {o : HO} (b : But1 p H H1) (h : H q = none) : But1 p H (upd H1 q o) := fun c u n e => by rw [upd_ne (ne_of_none e h)]; exact b c u n e
theorem LpsAt.app {H : Hp} {ps qs : List Addr} {ls ms : List Lp} (h : LpsAt H ps ls) (g : LpsAt H qs ms) : LpsAt H (ps ++ qs) (ls ++ ms) := by
  refine ⟨by rw [List.length_append, List.length_append, h.len, g.len], fun i p l a b => ?_⟩
  by_cases c : i < ps.length
  · rw [List.getElem?_append_left c] at a
    rw [List.getElem?_append_left (by rw [← h.len]; exact c)] at b
    exact h.at' i p l a b
  · rw [List.getElem?_append_right (by omega)] at a
    rw [List.getElem?_append_right (by rw [← h.len]; omega), ← h.len] at b
    exact g.at' _ p l a b
theorem LpsAt.one {H : Hp} {p : Addr} {l : Lp} (h : LpAt H p l) : LpsAt H [p] [l] := by
  refine ⟨rfl, fun i q m a b => ?_⟩
  cases i with
  | zero => rw [← show p = q from Option.some.inj a, ← show l = m from Option.some.inj b]; exact h
  | succ j => simp at a
theorem LpsAt.take {H : Hp} {ps : List Addr} {ls : List Lp} (h : LpsAt H ps ls) (n : Nat) : LpsAt H (ps.take n) (ls.take n) := by
  refine ⟨by rw [List.length_take, List.length_take, h.len], fun i p l a b => ?_⟩
  rw [List.getElem?_take] at a b
  by_cases c : i < n
  · rw [if_pos c] at a b
    exact h.at' i p l a b
  · rw [if_neg c] at a
    exact nomatch a
theorem sorted_sub {l m : List Str} (h : sortedS l = true) (q : m.Sublist l) : sortedS m = true := by
  refine sortedS_of_pairwise _ (((sorted_pw h).sublist q).imp fun {a b} q => ?_)
  rw [ltCps_eq]
  exact decide_eq_false q
theorem Pot.lps {H H' : Hp} {p : Addr} {ps : List Addr} {ls : List Lp} (h : Pot H p) (b : But1 p H H') (q : LpsAt H ps ls) : LpsAt H' ps ls := let ⟨_, _, hp, _⟩ := h; q.but b hp
theorem Pot.lp {H H' : Hp} {p : Addr} {q : Addr} {l : Lp} (h : Pot H p) (b : But1 p H H') (a : LpAt H q l) : LpAt H' q l := let ⟨_, _, hp, _⟩ := h; a.but b hp
theorem Pot.ne {H : Hp} {p q : Addr} (h : Pot H p) (e : H q = none) : q ≠ p := fun z => by obtain ⟨o, ho⟩ := h.there; rw [← z, e] at ho; exact nomatch ho
theorem Pot.ne_tup {H : Hp} {p q : Addr} {xs : List V} (h : Pot H p) (e : H q = some (.tup xs)) : q ≠ p := by
  obtain ⟨a, b, hp, _⟩ := h
  exact ne_of e hp fun z => nomatch z
theorem Pot.put {H : Hp} {p q : Addr} {o : HO} (h : Pot H p) (n : q ≠ p) : Pot (upd H q o) p := by
  obtain ⟨a, b, hp, ok⟩ := h
  exact ⟨a, b, by rw [upd_ne n.symm]; exact hp, ok⟩
theorem LpsAt.drop {H : Hp} {ps : List Addr} {ls : List Lp} (h : LpsAt H ps ls) (n : Nat) : LpsAt H (ps.drop n) (ls.drop n) := by
  refine ⟨by rw [List.length_drop, List.length_drop, h.len], fun i p l a b => ?_⟩
  rw [List.getElem?_drop] at a b
  exact h.at' _ p l a b
section
variable {P : Program} {w : World} {K : PySem.W.Frag} {mg : Str → Option Value} {base : Heap}
def spSome : Sp := fun vs H Q _ => ∃ (p ra : Addr) (row : List Str), vs = [.ref p, .ref ra] ∧ Pot H p ∧ H ra = some (.lst (row.map V.str)) ∧ RowOk row ∧
  ∀ q l H', LpAt H' q l → LpOk row l → Pot H' p → But1 p H H' → Q (.ref q) H'
theorem ok_some {f f1 : Addr} {fd d1 : FuncData} {k : Nat} (F : Fun K "_law_some_loop" "_law_some_loop" s_law_some_loop f fd)
    (G_law_take : FnOk P w K mg base CX0 k f1 d1 ["pot", "many"] spDraw) (k_law_take : PySem.W.keepIn K (.ref f1) = true) (b_law_take : Binds K d1 ["pot", "many"] []) (m_law_take : mg "_law_take" = some (.ref f1))
    (mlen : mg "len" = none) (mtuple : mg "tuple" = none) (msorted : mg "sorted" = none) : FnOk P w K mg base CX0 (k + 1) f fd ["pot", "row"] spSome := by
  refine F.ok sc_law_some_loop (fun vs H Q E h => ?_) (fun cdv A' outer s H vs Q E hr h => ?_)
  · obtain ⟨p, ra, row, rfl, _⟩ := h
    rfl
  obtain ⟨p, ra, row, rfl, hP, hra, rok, fin⟩ := h
  refine ⟨_, (pss_cons (ps_set (i := 2) sc_law_some_loop.nd rfl (.inl rfl) (pe_lst pa_nil))
    (pss_cons (ps_set (i := 3) sc_law_some_loop.nd rfl (.inl rfl) (pe_op op_add pe_int (pe_call G_law_take hr rfl m_law_take k_law_take b_law_take .nil pass0 (pa_cons (pv 0) (pa_cons pe_int pa_nil)))))
    (pss_cons (ps_for PassesOwn.never rfl (pi_list (pv 1)) (pg_name (i := 4) sc_law_some_loop.nd rfl (.inl rfl)) (pss_one (ps_if (pt_cmpR op_lt (pe_call G_law_take hr rfl m_law_take k_law_take b_law_take .nil pass0 (pa_cons (pv 0) (pa_cons pe_int pa_nil))) (pv 3) (nomark _)) (pss_one (ps_expr (pe_bm PySem.F.plainAttrs_list PySem.F.slot_list_append PySem.F.type_list_append mt_append (pv 2) (pa_cons (pv 4) pa_nil)))) pss_nil)))
    (pss_cons (ps_set (i := 5) sc_law_some_loop.nd rfl (.inl rfl) (pe_ix ix_tup (pe_tup (pa_cons pe_str (pa_cons pe_str (pa_cons pe_str pa_nil)))) (pe_call G_law_take hr rfl m_law_take k_law_take b_law_take .nil pass0 (pa_cons (pv 0) (pa_cons pe_int pa_nil))) (fun _ _ => rfl)))
    (pss_one (ps_ret (pe_tup (pa_cons (pv 5) (pa_cons (pe_call G_law_take hr rfl m_law_take k_law_take b_law_take .nil pass0 (pa_cons (pv 0) (pa_cons (pe_op op_add (pe_callB call_len_seq (by rfl) mlen (by decide +kernel) (pa_cons (pv 1) pa_nil)) pe_int) pa_nil))) (pa_cons (pe_callTy call_tuple_of (by rfl) mtuple (by decide +kernel) (pa_cons (pe_callB cr_sortedS (by rfl) msorted (by decide +kernel) (pa_cons (pv 2) pa_nil)) pa_nil)) pa_nil)))))))))), ?_⟩
  have rap : ra ≠ p := hP.ne_strs hra
  refine ⟨Nat.zero_le _, fun co nco => ?_⟩
  have s1 : Same H (upd H co (.lst [])) := same_new nco
  have cop : co ≠ p := fun e => by obtain ⟨o, ho⟩ := hP.there; rw [← e, nco] at ho; exact nomatch ho
  refine ⟨_, rfl, p, _, rfl, hP.same s1, by decide, by decide, fun r H1 r0 r1 P1 b1 => ?_⟩
  have bb1 := (But1.of s1).trans b1
  have hco1 : H1 co = some (.lst []) := b1 _ _ cop upd_same
  refine ⟨_, _, rfl, rfl, ?_⟩
  refine ⟨_, rfl, ra, rfl, ⟨_, SqL.of (bb1 _ _ rap hra)⟩, ?_⟩
  refine for_list (xs := row.map V.str) (fun i σ H2 => ∃ (y4 : Option V) (cs : List Str), σ = [some (.ref p), some (.ref ra), some (.ref co), some (.int (1 + r)), y4, none] ∧ H2 co = some (.lst (cs.map V.str)) ∧ cs.Sublist (row.take i) ∧ Pot H2 p ∧ But1 p H H2)
    ⟨none, [], rfl, hco1, List.nil_sublist _, P1, bb1⟩ (fun i σ H2 _ ⟨_, _, _, _, _, _, b2⟩ => SqL.of (b2 _ _ rap hra)) (fun i x σ H2 hx ⟨y4, cs, e, hco, hsub, P2, b2⟩ => ?_) (fun σ H2 ⟨y4, cs, e, hco, hsub, P2, b2⟩ => ?_)
  · subst e
    obtain ⟨z, hz, rfl⟩ := map_at hx
    refine ⟨_, rfl, p, _, rfl, P2, by decide, by decide, fun r' H3 r0' r1' P3 b3 => ?_⟩
    have hco3 := b3 _ _ cop hco
    refine ⟨_, rfl, _, _, rfl, rfl, _, rfl, ?_⟩
    refine ite2 (fun c => ?_) (fun c => ?_)
    · have lc := hsub.length_le
      rw [List.length_take] at lc
      have := rok.len
      refine ⟨_, rfl, .inl ⟨rfl, _, SqL.of hco3⟩, _, rfl, co, cs.map V.str, _, rfl, rfl, hco3, by rw [List.length_map]; exact small1000 (by omega), ?_⟩
      refine ⟨_, cs ++ [z], rfl, by rw [upd_same, List.map_append]; rfl, ?_, ?_, (b2.trans b3).new nco⟩
      · rw [take_snoc hz]
        exact hsub.append_right [z]
      · obtain ⟨a, b, hp, ok⟩ := P3
        exact ⟨a, b, by rw [upd_ne cop.symm]; exact hp, ok⟩
    · refine ⟨_, cs, rfl, hco3, ?_, P3, b2.trans b3⟩
      rw [take_snoc hz]
      exact hsub.trans (List.sublist_append_left _ _)
  · subst e
    rw [List.length_map, List.take_length] at hsub
    refine ⟨by show 3 ≤ sizeLine; decide, fun t nt => ?_⟩
    have s3 : Same H2 (upd H2 t (.tup (rules.map V.str))) := same_new nt
    have tp : t ≠ p := fun e => by obtain ⟨o, ho⟩ := P2.there; rw [← e, nt] at ho; exact nomatch ho
    refine ⟨_, rfl, p, _, rfl, P2.same s3, by decide, by decide, fun r3 H3 r30 r31 P3 b3 => ?_⟩
    have b23 := b2.trans ((But1.of s3).trans b3)
    obtain ⟨x, hx, hat⟩ := atI_int (xs := rules.map V.str) r30 r31
    obtain ⟨ru, hru, rfl⟩ := map_at hx
    have lenrow : (row.map V.str).length = row.length := List.length_map _
    refine ⟨t, _, _, _, rfl, rfl, SqT.of (b3 _ _ tp upd_same), hat, ?_⟩
    have l40 := rok.len
    have hco3 : H3 co = some (.lst (cs.map V.str)) := b3 _ _ cop (s3 _ _ hco)
    refine ⟨_, rfl, _, rfl, _, rfl, ra, _, rfl, .inl (SqL.of (b23 _ _ rap hra)), _, _, rfl, rfl, p, _, rfl, P3, by omega, by omega, fun r4 H4 r40 r41 P4 b4 => ?_⟩
    rw [lenrow] at r41
    have hco4 := b4 _ _ cop hco3
    have lc := hsub.length_le
    refine ⟨_, rfl, co, cs, rfl, SqL.of hco4, by omega, fun ys q2 pm srt nq2 => ?_⟩
    have s5 := same_new (H := H4) (o := .lst (ys.map V.str)) nq2
    refine ⟨q2, _, rfl, .inl ⟨SqL.of upd_same, fun c nc => ?_⟩⟩
    have s6 := same_same s5 (o := .tup (ys.map V.str)) nc
    refine ⟨by show 3 ≤ sizeLine; decide, fun q nq => ?_⟩
    have s7 := same_same s6 (o := .tup [.str ru, .int r4, .ref c]) nq
    refine fin q ⟨ru, r4, ys⟩ _ ⟨c, upd_same, same_new nq _ _ upd_same⟩ ⟨List.mem_of_getElem? hru, r40, (show r4 ≤ (row.length : Int) by omega), srt, pm.nodup_iff.mpr (hsub.nodup rok.nd), fun x hx => hsub.subset (pm.mem_iff.mp hx)⟩ (P4.same s7) ((b23.trans b4).then s7)

def spLoops : Sp := fun vs H Q _ => ∃ (p ra : Addr) (row : List Str), vs = [.ref p, .ref ra, .int 12] ∧ Pot H p ∧ H ra = some (.lst (row.map V.str)) ∧ RowOk row ∧
  ∀ la ps ls H', H la = none → H' la = some (.lst (ps.map V.ref)) → LpsAt H' ps ls → ls.length ≤ 12 → (∀ l ∈ ls, LpOk row l) → Pot H' p → But1 p H H' → Q (.ref la) H'
theorem ok_loops {f f1 f2 : Addr} {fd d1 d2 : FuncData} {k : Nat} (F : Fun K "_law_loops" "_law_loops" s_law_loops f fd)
    (G_law_take : FnOk P w K mg base CX0 k f1 d1 ["pot", "many"] spDraw) (k_law_take : PySem.W.keepIn K (.ref f1) = true) (b_law_take : Binds K d1 ["pot", "many"] []) (m_law_take : mg "_law_take" = some (.ref f1))
    (G_law_some_loop : FnOk P w K mg base CX0 k f2 d2 ["pot", "row"] spSome) (k_law_some_loop : PySem.W.keepIn K (.ref f2) = true) (b_law_some_loop : Binds K d2 ["pot", "row"] []) (m_law_some_loop : mg "_law_some_loop" = some (.ref f2))
    (mlen : mg "len" = none) (mrange : mg "range" = none) (mtuple : mg "tuple" = none) : FnOk P w K mg base CX0 (k + 1) f fd ["pot", "row", "most"] spLoops := by
  refine F.ok sc_law_loops (fun vs H Q E h => ?_) (fun cdv A' outer s H vs Q E hr h => ?_)
  · obtain ⟨p, ra, row, rfl, _⟩ := h
    rfl
  obtain ⟨p, ra, row, rfl, hP, hra, rok, fin⟩ := h
  refine ⟨_, (pss_cons (ps_set (i := 3) sc_law_loops.nd rfl (.inl rfl) (pe_lst pa_nil))
    (pss_cons (ps_for PassesOwn.never rfl (pi_range1 (by rfl) mrange (pa_cons (pe_call G_law_take hr rfl m_law_take k_law_take b_law_take .nil pass0 (pa_cons (pv 0) (pa_cons (pe_op op_add (pv 2) pe_int) pa_nil))) pa_nil)) (pg_name (i := 4) sc_law_loops.nd rfl (.inl rfl)) (pss_cons (ps_set (i := 5) sc_law_loops.nd rfl (.inl rfl) (pe_call G_law_some_loop hr rfl m_law_some_loop k_law_some_loop b_law_some_loop .nil pass0 (pa_cons (pv 0) (pa_cons (pv 1) pa_nil))))
    (pss_cons (ps_set (i := 6) sc_law_loops.nd rfl (.inl rfl) (pe_call G_law_take hr rfl m_law_take k_law_take b_law_take .nil pass0 (pa_cons (pv 0) (pa_cons pe_int pa_nil))))
    (C8.pss_cut (ps_if (PW.pt (pw_and (pt_cmpR op_eq (pv 6) pe_int (nomark _)) (pw_and1 (pt_cmpR (op_neD hr.units) (pv 3) (pe_lst pa_nil) (nomark _))))) (pss_cons (ps_set (i := 7) sc_law_loops.nd rfl (.inl rfl) (pe_ix ix_list (pv 3) (pe_call G_law_take hr rfl m_law_take k_law_take b_law_take .nil pass0 (pa_cons (pv 0) (pa_cons (pe_callB call_len_seq (by rfl) mlen (by decide +kernel) (pa_cons (pv 3) pa_nil)) pa_nil))) (fun _ _ => rfl)))
    (pss_cons (ps_setLc (i := 8) (own := [("name", 9)]) (g := (gName 9)) rfl sc_law_loops.nd rfl rfl (sw_true rfl rfl rfl (by decide +kernel)) (pi_tup (pe_ix ix_tup (pv 7) pe_int (fun _ _ => rfl))) (blkOk_by (N := ["pot", "row", "most", "loops", "k", "loop", "way", "one", "coming", "name"]) (sc := defScope s_law_loops) (by decide +kernel)) (fun _ _ _ _ _ => (pg_name (i := 9) sc_law_loops.nd rfl (.inl rfl))) (fun _ _ _ _ _ => (pts_one (pt_cmpR op_gt (pe_call G_law_take hr rfl m_law_take k_law_take b_law_take .nil pass0 (pa_cons (pv 0) (pa_cons pe_int pa_nil))) pe_int (nomark _)))) (fun _ _ _ _ _ => (pv 9)))
    (pss_one (ps_set (i := 5) sc_law_loops.nd rfl (.inl rfl) (pe_tup (pa_cons (pe_ix ix_tup (pv 5) pe_int (fun _ _ => rfl)) (pa_cons (pe_ix ix_tup (pv 5) pe_int (fun _ _ => rfl)) (pa_cons (pe_callTy call_tuple_of (by rfl) mtuple (by decide +kernel) (pa_cons (pv 8) pa_nil)) pa_nil)))))))) pss_nil)
    (C8.pss_cut (ps_if (PW.pt (pw_and (pt_cmpR op_eq (pv 6) pe_int (nomark _)) (pw_and (pt_cmpR (op_neD hr.units) (pv 3) (pe_lst pa_nil) (nomark _)) (pw_and1 (pt_cmpR op_eq (pe_call G_law_take hr rfl m_law_take k_law_take b_law_take .nil pass0 (pa_cons (pv 0) (pa_cons pe_int pa_nil))) pe_int (nomark _)))))) (pss_one (ps_set (i := 5) sc_law_loops.nd rfl (.inl rfl) (pe_tup (pa_cons (pe_ix ix_tup (pv 5) pe_int (fun _ _ => rfl)) (pa_cons (pe_ix ix_tup (pv 5) pe_int (fun _ _ => rfl)) (pa_cons (pe_ix ix_tup (pe_ix ix_list (pv 3) (pe_call G_law_take hr rfl m_law_take k_law_take b_law_take .nil pass0 (pa_cons (pv 0) (pa_cons (pe_callB call_len_seq (by rfl) mlen (by decide +kernel) (pa_cons (pv 3) pa_nil)) pa_nil))) (fun _ _ => rfl)) pe_int (fun _ _ => rfl)) pa_nil)))))) pss_nil)
    (pss_one (ps_expr (pe_bm PySem.F.plainAttrs_list PySem.F.slot_list_insert PySem.F.type_list_insert mt_insert (pv 3) (pa_cons (pe_call G_law_take hr rfl m_law_take k_law_take b_law_take .nil pass0 (pa_cons (pv 0) (pa_cons (pe_op op_add (pe_callB call_len_seq (by rfl) mlen (by decide +kernel) (pa_cons (pv 3) pa_nil)) pe_int) pa_nil))) (pa_cons (pv 5) pa_nil))))))))))
    (pss_one (ps_ret (pv 3))))), ?_⟩
  have rap : ra ≠ p := hP.ne_strs hra
  refine ⟨Nat.zero_le _, fun la nla => ?_⟩
  have s1 : Same H (upd H la (.lst [])) := same_new nla
  have lap : la ≠ p := fun e => by obtain ⟨o, ho⟩ := hP.there; rw [← e, nla] at ho; exact nomatch ho
  refine ⟨_, rfl, _, rfl, _, _, rfl, rfl, p, _, rfl, hP.same s1, by decide, by decide, fun r H1 r0 r1 P1 b1 => ?_⟩
  have bb1 := (But1.of s1).trans b1
  have hla1 : H1 la = some (.lst []) := b1 _ _ lap upd_same

  refine ⟨_, rfl, by omega, by omega, ?_⟩
  refine for_range (lo := 0) (n := r.toNat) (fun i σ H2 => ∃ (y4 y5 y6 y7 y8 : Option V) (ps : List Addr) (ls : List Lp), σ = [some (.ref p), some (.ref ra), some (.int 12), some (.ref la), y4, y5, y6, y7, y8, none] ∧
      H2 la = some (.lst (ps.map V.ref)) ∧ LpsAt H2 ps ls ∧ ls.length = i ∧ (∀ l ∈ ls, LpOk row l) ∧ Pot H2 p ∧ But1 p H H2)
    ⟨none, none, none, none, none, [], [], rfl, hla1, ⟨rfl, fun i p l a b => nomatch a⟩, rfl, by simp, P1, bb1⟩ (fun i σ H2 hi ⟨y4, y5, y6, y7, y8, ps, ls, e, hla, hps, hl, hok, P2, b2⟩ => ?_) (fun σ H2 ⟨y4, y5, y6, y7, y8, ps, ls, e, hla, hps, hl, hok, P2, b2⟩ => ?_)
  · subst e
    have elp : (ps.map V.ref).length = ls.length := by rw [List.length_map, hps.len]
    have shp := shaped_lps rok hok
    -- a loop
    refine ⟨_, rfl, _, rfl, p, ra, row, rfl, P2, b2 _ _ rap hra, rok, fun q0 l0 H3 hq0 ok0 P3 b3 => ?_⟩
    refine ⟨_, rfl, p, _, rfl, P3, by decide, by decide, fun way H4 w0 w1 P4 b4 => ?_⟩
    have b24 := b3.trans b4
    have hq4 := P3.lp b4 hq0
    have LA : ∀ {H'}, But1 p H2 H' → H' la = some (.lst (ps.map V.ref)) := fun b => b _ _ lap hla
    -- one that has part of what another has to come
    refine ⟨fun σ' H' => ∃ (y7 y8 : Option V) (q : Addr) (l : Lp), σ' = [some (.ref p), some (.ref ra), some (.int 12), some (.ref la), some (.int (0 + (i : Int))), some (.ref q), some (.int way), y7, y8, none] ∧ LpAt H' q l ∧ LpOk row l ∧ Pot H' p ∧ But1 p H2 H',
      ?_, fun σ5 H5 ⟨y7, y8, q5, l5, e5, hq5, ok5, P5, b25⟩ => ?_⟩
    · refine ⟨_, rfl, rfl, _, rfl, ?_⟩
      refine ite2 (fun c => ?_) (fun c => iteF ⟨y7, y8, q0, l0, rfl, hq4, ok0, P4, b24⟩)
      refine ⟨_, rfl, Nat.zero_le _, fun n1 nn1 => ⟨dLps ls, .list [], dp_lps (((P2.lps b24 hps)).same (same_new nn1)) (same_new nn1 _ _ (LA b24)), .lst (SqL.of upd_same) .nil, shp, shaped_nil, _, rfl, ?_⟩⟩
      rw [eqv_lnil]
      have s5 : Same H4 (upd H4 n1 (.lst [])) := same_new nn1
      by_cases cn : ls = []
      · rw [decide_eq_true cn]
        exact iteF ⟨y7, y8, q0, l0, rfl, hq4.same s5, ok0, P4.same s5, b24.then s5⟩
      · rw [decide_eq_false cn]
        have lp : 0 < ls.length := List.length_pos_iff.mpr cn
        refine iteT ?_
        refine ⟨_, rfl, _, rfl, _, rfl, la, _, rfl, .inl (SqL.of (s5 _ _ (LA b24))), p, _, rfl, P4.same s5, by omega, by omega, fun r5 H5 r50 r51 P5 b5 => ?_⟩
        have b25 := (b24.then s5).trans b5
        obtain ⟨x, hx, hat⟩ := atI_int (xs := ps.map V.ref) r50 r51
        obtain ⟨q1, hq1, rfl⟩ := map_at hx
        have hj : r5.toNat < ls.length := by rw [← hps.len]; exact lt_of_at hq1
        have at1 := (P2.lps b25 hps).at' _ q1 _ hq1 (List.getElem?_eq_getElem hj)
        have ok1 := hok _ (List.getElem_mem hj)
        generalize ls[r5.toNat] = l1 at at1 ok1
        obtain ⟨c1, h1, h2⟩ := id at1
        refine ⟨la, _, _, _, rfl, rfl, SqL.of (LA b25), hat, ?_⟩
        refine ⟨_, rfl, q1, _, 2, _, rfl, rfl, SqT.of h1, atI_nat (j := 2) rfl, c1, rfl, ⟨_, SqT.of h2⟩, fun D nD => ?_⟩
        have Dp := P5.ne nD
        refine lc_tup (xs := l1.coming.map V.str) (fun j H6 => ∃ cs : List Str, H6 D = some (.lst (cs.map V.str)) ∧ cs.Sublist (l1.coming.take j) ∧ Pot H6 p ∧ But1 p H5 H6)
          ⟨[], upd_same, List.nil_sublist _, P5.put Dp, But1.of (same_new nD)⟩ (fun j H6 _ ⟨_, _, _, _, b6⟩ => SqT.of (b6 _ _ (P5.ne_tup h2) h2)) (fun j x H6 hx ⟨cs, hD, hsub, P6, b6⟩ => ?_) (fun H6 ⟨cs, hD, hsub, P6, b6⟩ => ?_)
        · obtain ⟨z, hz, rfl⟩ := map_at hx
          refine ⟨rfl, _, rfl, p, _, rfl, P6, by decide, by decide, fun r7 H7 r70 r71 P7 b7 => ⟨_, _, rfl, rfl, _, rfl, ?_⟩⟩
          have hD7 := b7 _ _ Dp hD
          by_cases c7 : 0 < r7
          · rw [decide_eq_true c7]
            have lc := hsub.length_le
            rw [List.length_take] at lc
            have := ok1.len rok
            refine iteT ⟨_, rfl, _, hD7, by rw [List.length_map]; exact small1000 (by omega), cs ++ [z], by rw [upd_same, List.map_append]; rfl, ?_, P7.put Dp, (b6.trans b7).new nD⟩
            rw [take_snoc hz]
            exact hsub.append_right [z]
          · rw [decide_eq_false c7]
            refine iteF ⟨cs, hD7, ?_, P7, b6.trans b7⟩
            rw [take_snoc hz]
            exact hsub.trans (List.sublist_append_left _ _)
        · rw [List.length_map, List.take_length] at hsub
          have b46 : But1 p H4 H6 := ((But1.of s5).trans b5).trans b6
          obtain ⟨c0, h01, h02⟩ := P4.lp b46 hq4
          refine ⟨_, rfl, q0, _, 0, _, rfl, rfl, SqT.of h01, atI_nat (j := 0) rfl, _, rfl, q0, _, 1, _, rfl, rfl, SqT.of h01, atI_nat (j := 1) rfl, _, rfl, D, _, rfl, .inl ⟨SqL.of hD, fun c nc => ?_⟩⟩
          have s7 := same_new (H := H6) (o := .tup (cs.map V.str)) nc
          refine ⟨by show 3 ≤ sizeLine; decide, fun q nq => ?_⟩
          have s8 := same_same s7 (o := .tup [.str l0.rule, .int l0.gap, .ref c]) nq
          exact ⟨_, _, q, ⟨l0.rule, l0.gap, cs⟩, rfl, ⟨c, upd_same, same_new nq _ _ upd_same⟩, ⟨ok0.rule, ok0.lo, ok0.hi, sorted_sub ok1.srt hsub, hsub.nodup ok1.nd, fun x hx => ok1.sub x (hsub.subset hx)⟩, P6.same s8, (b24.trans b46).then s8⟩
    subst e5
    -- one that has the same to come
    refine ⟨fun σ' H' => ∃ (q : Addr) (l : Lp), σ' = [some (.ref p), some (.ref ra), some (.int 12), some (.ref la), some (.int (0 + (i : Int))), some (.ref q), some (.int way), y7, y8, none] ∧ LpAt H' q l ∧ LpOk row l ∧ Pot H' p ∧ But1 p H2 H',
      ?_, fun σ6 H6 ⟨q6, l6, e6, hq6, ok6, P6, b26⟩ => ?_⟩
    · refine ⟨_, rfl, rfl, _, rfl, ?_⟩
      refine ite2 (fun c => ?_) (fun c => iteF ⟨q5, l5, rfl, hq5, ok5, P5, b25⟩)
      refine ⟨_, rfl, Nat.zero_le _, fun n1 nn1 => ⟨dLps ls, .list [], dp_lps (((P2.lps b25 hps)).same (same_new nn1)) (same_new nn1 _ _ (LA b25)), .lst (SqL.of upd_same) .nil, shp, shaped_nil, _, rfl, ?_⟩⟩
      rw [eqv_lnil]
      have s5 : Same H5 (upd H5 n1 (.lst [])) := same_new nn1
      by_cases cn : ls = []
      · rw [decide_eq_true cn]
        exact iteF ⟨q5, l5, rfl, hq5.same s5, ok5, P5.same s5, b25.then s5⟩
      · rw [decide_eq_false cn]
        have lp : 0 < ls.length := List.length_pos_iff.mpr cn
        refine iteT ?_
        refine ⟨_, rfl, p, _, rfl, P5.same s5, by decide, by decide, fun r6 H6 r60 r61 P6 b6 => ⟨rfl, _, rfl, ?_⟩⟩
        have b56 := (But1.of s5).trans b6
        refine ite2 (fun c => ?_) (fun c => ⟨q5, l5, rfl, P5.lp b56 hq5, ok5, P6, b25.trans b56⟩)
        obtain ⟨c0, h01, h02⟩ := P5.lp b56 hq5
        refine ⟨_, rfl, q5, _, 0, _, rfl, rfl, SqT.of h01, atI_nat (j := 0) rfl, _, rfl, q5, _, 1, _, rfl, rfl, SqT.of h01, atI_nat (j := 1) rfl, ?_⟩
        refine ⟨_, rfl, _, rfl, _, rfl, la, _, rfl, .inl (SqL.of (LA (b25.trans b56))), p, _, rfl, P6, by omega, by omega, fun r7 H7 r70 r71 P7 b7 => ?_⟩
        have b27 := (b25.trans b56).trans b7
        obtain ⟨x, hx, hat⟩ := atI_int (xs := ps.map V.ref) r70 r71
        obtain ⟨q1, hq1, rfl⟩ := map_at hx
        have hj : r7.toNat < ls.length := by rw [← hps.len]; exact lt_of_at hq1
        have at1 := (P2.lps b27 hps).at' _ q1 _ hq1 (List.getElem?_eq_getElem hj)
        have ok1 := hok _ (List.getElem_mem hj)
        generalize ls[r7.toNat] = l1 at at1 ok1
        obtain ⟨c1, h1, h2⟩ := id at1
        refine ⟨la, _, _, _, rfl, rfl, SqL.of (LA b27), hat, ?_⟩
        refine ⟨q1, _, 2, _, rfl, rfl, SqT.of h1, atI_nat (j := 2) rfl, by show 3 ≤ sizeLine; decide, fun q nq => ?_⟩
        have s8 := same_new (H := H7) (o := .tup [.str l5.rule, .int l5.gap, .ref c1]) nq
        exact ⟨q, ⟨l5.rule, l5.gap, l1.coming⟩, rfl, ⟨c1, upd_same, s8 _ _ h2⟩, ⟨ok5.rule, ok5.lo, ok5.hi, ok1.srt, ok1.nd, ok1.sub⟩, P7.same s8, b27.then s8⟩
    subst e6
    -- put in somewhere
    have hla6 := LA b26
    refine ⟨_, rfl, .inl ⟨rfl, _, SqL.of hla6⟩, _, rfl, _, rfl, la, _, rfl, .inl (SqL.of hla6), _, _, rfl, rfl, p, _, rfl, P6, by omega, by omega, fun r7 H7 r70 r71 P7 b7 => ?_⟩
    have hla7 := b7 _ _ lap hla6
    have b27 := b26.trans b7
    have hps7 := P2.lps b27 hps
    have hq7 := P6.lp b7 hq6
    refine ⟨_, rfl, la, ps.map V.ref, r7, _, rfl, rfl, hla7, by rw [elp]; exact small1000 (by omega), r70, by omega, ?_⟩
    have b8 : But1 la H7 (upd H7 la (.lst ((ps.map V.ref).take r7.toNat ++ [.ref q6] ++ (ps.map V.ref).drop r7.toNat))) := .put
    have hq8 := hq7.but b8 hla7
    have hps8 := hps7.but b8 hla7
    refine ⟨_, _, _, _, _, ps.take r7.toNat ++ [q6] ++ ps.drop r7.toNat, ls.take r7.toNat ++ [l6] ++ ls.drop r7.toNat, rfl, ?_, ((hps8.take _).app (.one hq8)).app (hps8.drop _), ?_, fun l hl' => ?_, P7.put lap, (b2.trans b27).new nla⟩
    · rw [upd_same, List.map_append, List.map_append, List.map_take, List.map_drop]
      rfl
    · rw [List.length_append, List.length_append, List.length_take, List.length_drop, List.length_singleton]
      omega
    · rcases List.mem_append.mp hl' with z | z
      · rcases List.mem_append.mp z with z | z
        · exact hok l (List.mem_of_mem_take z)
        · rw [List.mem_singleton.mp z]; exact ok6
      · exact hok l (List.mem_of_mem_drop z)
  · subst e
    exact ⟨_, rfl, fin la ps ls H2 nla hla hps (by omega) hok P2 b2⟩
end
end W44
set_option Elab.async false
set_option linter.all false
set_option maxRecDepth 100000
set_option maxHeartbeats 8000000
/-! the law's judgement, first: _law_within, _law_fit, _law_apart -/
namespace W44
open PySem PySem.Spec PyProof.Rows L2 KIt
abbrev s_law_within : Stmt := topS 30
theorem sc_law_within : FnScope ["one", "other"] ["one", "other"] (defScope s_law_within) := ⟨rfl, rfl, rfl, by decide +kernel, rfl, by decide +kernel, by decide +kernel⟩
abbrev s_law_fit : Stmt := topS 31
theorem sc_law_fit : FnScope ["one", "other"] ["one", "other"] (defScope s_law_fit) := ⟨rfl, rfl, rfl, by decide +kernel, rfl, by decide +kernel, by decide +kernel⟩
abbrev s_law_apart : Stmt := topS 33
theorem sc_law_apart : FnScope ["loops", "apart", "k", "j"] ["loops", "apart"] (defScope s_law_apart) := ⟨rfl, rfl, rfl, by decide +kernel, rfl, by decide +kernel, by decide +kernel⟩
/-- all of one's coming is among the other's -/
def wi (l m : Lp) : Bool := l.coming.all fun x => decide (x ∈ m.coming)
theorem wi_of {xs ys : List Str} : decide ((∀ k ∈ xs ++ ys, k ∈ ys) ∧ ∀ k ∈ ys, k ∈ xs ++ ys) = xs.all fun x => decide (x ∈ ys) := by
  rw [Bool.eq_iff_iff, decide_eq_true_iff, List.all_eq_true]
  refine ⟨fun h x hx => decide_eq_true (h.1 x (List.mem_append_left _ hx)), fun h => ⟨fun k hk => ?_, fun k hk => List.mem_append_right _ hk⟩⟩
  rcases List.mem_append.mp hk with q | q
  · exact of_decide_eq_true (h k q)
  · exact q
section
variable {P : Program} {w : World} {K : PySem.W.Frag} {mg : Str → Option Value} {base : Heap}
def spIn2 (v : Lp → Lp → Bool) : Sp := fun vs H Q _ => ∃ (p q : Addr) (l m : Lp), vs = [.ref p, .ref q] ∧ LpAt H p l ∧ LpAt H q m ∧ l.coming.length ≤ 40 ∧ m.coming.length ≤ 40 ∧ ∀ H', Same H H' → Q (.bl (v l m)) H'
theorem ok_lwithin {f : Addr} {fd : FuncData} {k : Nat} (F : Fun K "_law_within" "_law_within" s_law_within f fd) (mset : mg "set" = none) : FnOk P w K mg base CX0 (k + 1) f fd ["one", "other"] (spIn2 wi) := by
  refine F.ok sc_law_within (fun vs H Q E h => ?_) (fun cdv A' outer s H vs Q E hr h => ?_)
  · obtain ⟨p, q, l, m, rfl, _⟩ := h
    rfl
  obtain ⟨p, q, l, m, rfl, ⟨c1, hp, hc1⟩, ⟨c2, hq, hc2⟩, h1, h2, fin⟩ := h
  have hu := hu_of hr
  refine ⟨_, (pss_one (ps_ret (pe_cmpR (KRule.op_eqT (Nat.lt_of_succ_lt hu)) (pe_callTy (KRule.cr_setT rfl) (by rfl) mset (by decide +kernel) (pa_cons (pe_op op_catA (pe_ix ix_tup (pv 0) pe_int (fun _ _ => rfl)) (pe_ix ix_tup (pv 1) pe_int (fun _ _ => rfl))) pa_nil)) (pe_callTy (KRule.cr_setT rfl) (by rfl) mset (by decide +kernel) (pa_cons (pe_ix ix_tup (pv 1) pe_int (fun _ _ => rfl)) pa_nil)) (nomark _)))), ?_⟩
  have e1 : (l.coming.map V.str).length = l.coming.length := List.length_map _
  have e2 : (m.coming.map V.str).length = m.coming.length := List.length_map _
  have sb : scanBound = 4096 := rfl
  have sl := small1000 (n := l.coming.length + m.coming.length) (by omega)
  refine ⟨_, rfl, p, _, 2, _, rfl, rfl, SqT.of hp, atI_nat (j := 2) rfl, _, rfl, q, _, 2, _, rfl, rfl, SqT.of hq, atI_nat (j := 2) rfl, c1, c2, _, _, rfl, rfl, SqT.of hc1, SqT.of hc2, by rw [e1, e2]; exact Nat.le_of_lt sl, fun e => ?_, fun ne e => ?_, fun ne ne2 c nc => ?_⟩
  · have e0 : l.coming = [] := List.map_eq_nil_iff.mp e
    have hc : H c2 = some (.tup ((l.coming ++ m.coming).map V.str)) := by rw [e0]; exact hc2
    have s1 := Same.refl H
    refine ⟨_, l.coming ++ m.coming, rfl, SqT.of hc, by rw [List.length_append, sb]; omega, fun n1 nn1 => ?_⟩
    have s2 := same_same s1 (o := KRule.SetT P w n1 (l.coming ++ m.coming)) nn1
    refine ⟨_, rfl, q, _, 2, _, rfl, rfl, SqT.of (s2 _ _ hq), atI_nat (j := 2) rfl, c2, m.coming, rfl, SqT.of (s2 _ _ hc2), by rw [sb]; omega, fun n2 nn2 => ?_⟩
    have s3 := same_same s2 (o := KRule.SetT P w n2 m.coming) nn2
    refine ⟨n1, n2, l.coming ++ m.coming, m.coming, rfl, rfl, same_new nn2 _ _ upd_same, upd_same, ?_⟩
    rw [wi_of]
    exact fin _ s3
  · have e0 : m.coming = [] := List.map_eq_nil_iff.mp e
    have hc : H c1 = some (.tup ((l.coming ++ m.coming).map V.str)) := by rw [e0, List.append_nil]; exact hc1
    have s1 := Same.refl H
    refine ⟨_, l.coming ++ m.coming, rfl, SqT.of hc, by rw [List.length_append, sb]; omega, fun n1 nn1 => ?_⟩
    have s2 := same_same s1 (o := KRule.SetT P w n1 (l.coming ++ m.coming)) nn1
    refine ⟨_, rfl, q, _, 2, _, rfl, rfl, SqT.of (s2 _ _ hq), atI_nat (j := 2) rfl, c2, m.coming, rfl, SqT.of (s2 _ _ hc2), by rw [sb]; omega, fun n2 nn2 => ?_⟩
    have s3 := same_same s2 (o := KRule.SetT P w n2 m.coming) nn2
    refine ⟨n1, n2, l.coming ++ m.coming, m.coming, rfl, rfl, same_new nn2 _ _ upd_same, upd_same, ?_⟩
    rw [wi_of]
    exact fin _ s3
  · rw [← List.map_append]
    have hc : upd H c (.tup ((l.coming ++ m.coming).map V.str)) c = some (.tup ((l.coming ++ m.coming).map V.str)) := upd_same
    have s1 : Same H (upd H c (.tup ((l.coming ++ m.coming).map V.str))) := same_new nc
    refine ⟨_, l.coming ++ m.coming, rfl, SqT.of hc, by rw [List.length_append, sb]; omega, fun n1 nn1 => ?_⟩
    have s2 := same_same s1 (o := KRule.SetT P w n1 (l.coming ++ m.coming)) nn1
    refine ⟨_, rfl, q, _, 2, _, rfl, rfl, SqT.of (s2 _ _ hq), atI_nat (j := 2) rfl, c2, m.coming, rfl, SqT.of (s2 _ _ hc2), by rw [sb]; omega, fun n2 nn2 => ?_⟩
    have s3 := same_same s2 (o := KRule.SetT P w n2 m.coming) nn2
    refine ⟨n1, n2, l.coming ++ m.coming, m.coming, rfl, rfl, same_new nn2 _ _ upd_same, upd_same, ?_⟩
    rw [wi_of]
    exact fin _ s3
def fit2 (l m : Lp) : Bool := wi l m || wi m l
theorem ok_lfit {f f1 : Addr} {fd d1 : FuncData} {k : Nat} (F : Fun K "_law_fit" "_law_fit" s_law_fit f fd)
    (G_law_within : FnOk P w K mg base CX0 k f1 d1 ["one", "other"] (spIn2 wi)) (k_law_within : PySem.W.keepIn K (.ref f1) = true) (b_law_within : Binds K d1 ["one", "other"] []) (m_law_within : mg "_law_within" = some (.ref f1)) :
    FnOk P w K mg base CX0 (k + 1) f fd ["one", "other"] (spIn2 fit2) := by
  refine F.ok sc_law_fit (fun vs H Q E h => ?_) (fun cdv A' outer s H vs Q E hr h => ?_)
  · obtain ⟨p, q, l, m, rfl, _⟩ := h
    rfl
  obtain ⟨p, q, l, m, rfl, hp, hq, h1, h2, fin⟩ := h
  refine ⟨_, (pss_one (ps_ret (pe_or (pe_call G_law_within hr rfl m_law_within k_law_within b_law_within .nil pass0 (pa_cons (pv 0) (pa_cons (pv 1) pa_nil))) (pe_one (pe_call G_law_within hr rfl m_law_within k_law_within b_law_within .nil pass0 (pa_cons (pv 1) (pa_cons (pv 0) pa_nil))))))), ?_⟩
  refine ⟨_, rfl, _, rfl, p, q, l, m, rfl, hp, hq, h1, h2, fun H1 s1 => ⟨_, rfl, ?_⟩⟩
  cases c : wi l m with
  | true =>
    have q := fin H1 s1
    rw [fit2, c] at q
    exact iteT q
  | false =>
    refine iteF ⟨_, rfl, _, rfl, q, p, m, l, rfl, hq.same s1, hp.same s1, h2, h1, fun H2 s2 => ?_⟩
    have q := fin H2 (s1.trans s2)
    rw [fit2, c] at q
    exact q
def spApart : Sp := fun vs H Q _ => ∃ (la aa : Addr) (ps : List Addr) (ls : List Lp) (ns : List Nat), vs = [.ref la, .ref aa] ∧ H la = some (.lst (ps.map V.ref)) ∧ LpsAt H ps ls ∧ ls.length ≤ 12 ∧ (∀ l ∈ ls, l.coming.length ≤ 40) ∧
  H aa = some (.lst (nsV ns)) ∧ ns.length ≤ 12 ∧ (∀ n ∈ ns, n < ls.length) ∧ ns.Pairwise (· < ·) ∧ (∀ (i j : Nat) (l m : Lp), i ∈ ns → j ∈ ns → i ≠ j → ls[i]? = some l → ls[j]? = some m → fit2 l m = false) ∧ ∀ H', Same H H' → Q (.bl true) H'
theorem ok_apart {f f1 : Addr} {fd d1 : FuncData} {k : Nat} (F : Fun K "_law_apart" "_law_apart" s_law_apart f fd)
    (G_law_fit : FnOk P w K mg base CX0 k f1 d1 ["one", "other"] (spIn2 fit2)) (k_law_fit : PySem.W.keepIn K (.ref f1) = true) (b_law_fit : Binds K d1 ["one", "other"] []) (m_law_fit : mg "_law_fit" = some (.ref f1))
    (mlen : mg "len" = none) (mrange : mg "range" = none) (many : mg "any" = none) : FnOk P w K mg base CX0 (k + 1) f fd ["loops", "apart"] spApart := by
  refine F.ok sc_law_apart (fun vs H Q E h => ?_) (fun cdv A' outer s H vs Q E hr h => ?_)
  · obtain ⟨la, aa, ps, ls, ns, rfl, _⟩ := h
    rfl
  obtain ⟨la, aa, ps, ls, ns, rfl, hla, hps, l12, l40, haa, n12, nlt, inc, nofit, fin⟩ := h
  refine ⟨_, (pss_cons (ps_for PassesOwn.never rfl (pi_range1 (by rfl) mrange (pa_cons (pe_callB call_len_seq (by rfl) mlen (by decide +kernel) (pa_cons (pv 1) pa_nil)) pa_nil)) (pg_name (i := 2) sc_law_apart.nd rfl (.inr rfl)) (pss_cons (ps_if (PW.pt (pw_or (pt_not (pt_chain op_le op_lt pe_int (pe_ix ix_list (pv 1) (pv 2) (fun _ _ => rfl)) (pe_callB call_len_seq (by rfl) mlen (by decide +kernel) (pa_cons (pv 0) pa_nil)))) (pw_or1 (PW.pt (pw_and (pt_cmpR op_gt (pv 2) pe_int (nomark _)) (pw_and1 (pt_cmpR op_ge (pe_ix ix_list (pv 1) (pe_op op_sub (pv 2) pe_int) (fun _ _ => rfl)) (pe_ix ix_list (pv 1) (pv 2) (fun _ _ => rfl)) (nomark _)))))))) (pss_one (ps_ret pe_bl)) pss_nil)
    (pss_one (ps_if (pt_val (pe_callB (cr_any rfl) (by rfl) many (by decide +kernel) (pa_cons (pe_lc (own := [("j", 3)]) (g := (gName 3)) (tt := tYes) rfl sc_law_apart.nd (pi_range1 (by rfl) mrange (pa_cons (pv 2) pa_nil)) (blkOk_by (N := ["loops", "apart", "k", "j"]) (sc := defScope s_law_apart) (by decide +kernel)) (fun _ _ _ _ _ => (pg_name (i := 3) sc_law_apart.nd rfl (.inl rfl))) (fun _ _ _ _ _ => pts_nil) (fun _ _ _ _ _ => (pe_call G_law_fit hr rfl m_law_fit k_law_fit b_law_fit .nil pass0 (pa_cons (pe_ix (r := rIxL K) ix_list (pv 0) (pe_ix (r := rIxL K) ix_list (pv 1) (pv 3) (fun _ _ => rfl)) (fun _ _ => rfl)) (pa_cons (pe_ix (r := rIxL K) ix_list (pv 0) (pe_ix (r := rIxL K) ix_list (pv 1) (pv 2) (fun _ _ => rfl)) (fun _ _ => rfl)) pa_nil))))) pa_nil))) (pss_one (ps_ret pe_bl)) pss_nil))))
    (pss_one (ps_ret pe_bl))), ?_⟩
  have eln : (nsV ns).length = ns.length := List.length_map _
  have elp : (ps.map V.ref).length = ls.length := by rw [List.length_map, hps.len]
  have gt : ∀ {H1 : Hp}, Same H H1 → ∀ {j : Nat} (hj : j < ns.length), ∃ (p : Addr) (l : Lp), ps[ns[j]]? = some p ∧ LpAt H1 p l ∧ l.coming.length ≤ 40 ∧ ls[ns[j]]? = some l := fun s j hj => by
    have h1 := nlt _ (List.getElem_mem hj)
    obtain ⟨p, hp, lp⟩ := hps.get h1
    exact ⟨p, _, hp, lp.same s, l40 _ (List.getElem_mem h1), List.getElem?_eq_getElem h1⟩
  have nat' : ∀ {j : Nat} (hj : j < ns.length), (nsV ns)[j]? = some (nV ns[j]) := fun hj => at_map (List.getElem?_eq_getElem hj)
  refine ⟨_, rfl, aa, _, rfl, .inl (SqL.of haa), _, rfl, by omega, by rw [eln]; omega, ?_⟩
  rw [eln, Int.toNat_natCast]
  refine for_range (lo := 0) (n := ns.length) (fun i σ H1 => ∃ (y2 : Option V), σ = [some (.ref la), some (.ref aa), y2, none] ∧ Same H H1)
    ⟨none, rfl, Same.refl H⟩ (fun i σ H1 hi ⟨y2, e, s1⟩ => ?_) (fun σ H1 ⟨y2, e, s1⟩ => ?_)
  · subst e
    rw [Int.zero_add]
    have h1 := nlt _ (List.getElem_mem hi)
    refine ⟨_, rfl, _, rfl, aa, _, _, _, rfl, rfl, SqL.of (s1 _ _ haa), atI_nat (nat' hi), 0, (ns[i] : Int), rfl, rfl, _, rfl, ?_⟩
    rw [decide_eq_true (show (0 : Int) ≤ (ns[i] : Int) by omega)]
    refine iteT ⟨_, rfl, la, _, rfl, .inl (SqL.of (s1 _ _ hla)), _, _, rfl, rfl, _, rfl, ?_⟩
    rw [elp, decide_eq_true (show (ns[i] : Int) < (ls.length : Int) by omega)]
    refine iteF ?_
    refine ⟨_, rfl, _, _, rfl, rfl, _, rfl, ?_⟩
    refine (have y : _ := ?rest; ite2 (fun c => ?now) (fun c => iteF y))
    case now =>
      have c := of_decide_eq_true c
      have hi0 : i - 1 < ns.length := by omega
      have ei : (i : Int) - 1 = ((i - 1 : Nat) : Int) := by omega
      have up : ns[i - 1] < ns[i] := List.pairwise_iff_getElem.mp inc (i - 1) i hi0 hi (by omega)
      refine ⟨_, rfl, _, rfl, _, _, rfl, rfl, aa, _, _, _, rfl, rfl, SqL.of (s1 _ _ haa), (by rw [ei]; exact atI_nat (nat' hi0)), _, rfl, _, rfl, aa, _, _, _, rfl, rfl, SqL.of (s1 _ _ haa), atI_nat (nat' hi), _, _, rfl, rfl, _, rfl, ?_⟩
      rw [decide_eq_false (show ¬ (ns[i] : Int) ≤ (ns[i - 1] : Int) by omega)]
      exact iteF y
    refine ⟨_, rfl, _, rfl, by omega, by omega, fun D nD => ?_⟩
    rw [Int.toNat_natCast]
    refine lc_range (lo := 0) (n := i) (fun j H2 => Same H1 H2 ∧ H2 D = some (.lst ((List.replicate j false).map V.bl))) ⟨same_new nD, upd_same⟩ (fun j H2 hj ⟨s2, hD⟩ => ?_) (fun H2 ⟨s2, hD⟩ => ?_)
    · rw [Int.zero_add]
      have s02 := s1.trans s2
      have hj' : j < ns.length := by omega
      obtain ⟨p, l, hp, lp, lc, hl⟩ := gt s02 hj'
      obtain ⟨q, m, hq, lq, mc, hm⟩ := gt s02 hi
      refine ⟨rfl, _, rfl, _, rfl, _, rfl, aa, _, _, _, rfl, rfl, SqL.of (s02 _ _ haa), atI_nat (nat' hj'), la, _, _, _, rfl, rfl, SqL.of (s02 _ _ hla), atI_nat (at_map hp), ?_⟩
      refine ⟨_, rfl, _, rfl, _, rfl, aa, _, _, _, rfl, rfl, SqL.of (s02 _ _ haa), atI_nat (nat' hi), la, _, _, _, rfl, rfl, SqL.of (s02 _ _ hla), atI_nat (at_map hq), p, q, l, m, rfl, lp, lq, lc, mc, fun H3 s3 => ?_⟩
      have lt : ns[j] < ns[i] := List.pairwise_iff_getElem.mp inc j i hj' hi hj
      rw [nofit _ _ l m (List.getElem_mem hj') (List.getElem_mem hi) (Nat.ne_of_lt lt) hl hm]
      refine ⟨_, s3 _ _ hD, by rw [List.length_map, List.length_replicate]; exact small1000 (by omega), fun b u q => ?_, ?_⟩
      · rw [upd_ne (ne_of_none q nD)]
        exact s3 _ _ (s2 _ _ q)
      · rw [upd_same, List.replicate_succ', List.map_append]
        rfl
    · have ea : (List.replicate i false).any id = false := by
        rw [List.any_eq_false]
        intro x hx
        rw [(List.mem_replicate.mp hx).2]
        exact Bool.false_ne_true
      refine ⟨D, List.replicate i false, rfl, SqL.of hD, ?_⟩
      rw [ea]
      exact ⟨_, rfl, iteF ⟨_, rfl, s1.trans s2⟩⟩
  · subst e
    exact fin H1 s1
end
end W44
set_option Elab.async false
set_option linter.all false
set_option maxRecDepth 100000
set_option maxHeartbeats 8000000
/-! the law's judgement: _law_seats_right -/
namespace W44
open PySem PySem.Spec PyProof.Rows L2 KIt
abbrev s_law_seats_right : Stmt := topS 32
theorem sc_law_seats_right : FnScope ["row", "loops", "lines", "seats", "loop", "seat", "line", "gap"] ["row", "loops", "lines", "seats"] (defScope s_law_seats_right) := ⟨rfl, rfl, rfl, by decide +kernel, rfl, by decide +kernel, by decide +kernel⟩
theorem cutV_drop {xs : List V} {k : Nat} (h : k ≤ xs.length) : cutV xs (some (k : Int)) none = xs.drop k := by
  unfold cutV
  rw [HT.sIx_none, HT.sIx_nat, Nat.min_eq_left h]
  exact List.take_of_length_le (by rw [List.length_drop]; omega)
section
variable {P : Program} {w : World} {K : PySem.W.Frag} {mg : Str → Option Value} {base : Heap}
def spSeats : Sp := fun vs H Q _ => ∃ (ra la l1 l2 : Addr) (row : List Str) (ps lns sts : List Addr) (ls : List Lp), vs = [.ref ra, .ref la, .ref l1, .ref l2] ∧ H ra = some (.lst (row.map V.str)) ∧ RowOk row ∧ H la = some (.lst (ps.map V.ref)) ∧ LpsAt H ps ls ∧ ls.length ≤ 12 ∧ (∀ l ∈ ls, LpOk row l) ∧
  H l1 = some (.lst (lns.map V.ref)) ∧ TxtsAt H lns (linesF row ls) ∧ H l2 = some (.lst (sts.map V.ref)) ∧ PairsAt H sts (seatsOf row ls) ∧ ∀ H', Same H H' → Q (.bl true) H'
theorem ok_seats {f : Addr} {fd : FuncData} {k : Nat} (F : Fun K "_law_seats_right" "_law_seats_right" s_law_seats_right f fd)
    (mlen : mg "len" = none) (mzip : mg "zip" = none) (msorted : mg "sorted" = none) (mlist : mg "list" = none) : FnOk P w K mg base CX0 (k + 1) f fd ["row", "loops", "lines", "seats"] spSeats := by
  refine F.ok sc_law_seats_right (fun vs H Q E h => ?_) (fun cdv A' outer s H vs Q E hr h => ?_)
  · obtain ⟨ra, la, l1, l2, row, ps, lns, sts, ls, rfl, _⟩ := h
    rfl
  obtain ⟨ra, la, l1, l2, row, ps, lns, sts, ls, rfl, hra, rok, hla, hps, h12, hok, hl1, hlns, hl2, hsts, fin⟩ := h
  refine ⟨_, (pss_cons (ps_if (pt_cmpR op_ne (pe_callB call_len_seq (by rfl) mlen (by decide +kernel) (pa_cons (pv 3) pa_nil)) (pe_callB call_len_seq (by rfl) mlen (by decide +kernel) (pa_cons (pv 1) pa_nil)) (nomark _)) (pss_one (ps_ret pe_bl)) pss_nil)
    (pss_cons (ps_for PassesOwn.never rfl (pi_zip (by rfl) mzip (pa_cons (pv 1) (pa_cons (pv 3) pa_nil))) (pg_tup rfl (pgs_cons (pg_name (i := 4) sc_law_seats_right.nd rfl (.inl rfl)) (pgs_cons (pg_name (i := 5) sc_law_seats_right.nd rfl (.inl rfl)) pgs_nil))) (pss_cons (ps_asg (pv 5) (pg_tup rfl (pgs_cons (pg_name (i := 6) sc_law_seats_right.nd rfl (.inl rfl)) (pgs_cons (pg_name (i := 7) sc_law_seats_right.nd rfl (.inl rfl)) pgs_nil))))
    (pss_cons (ps_if (PW.pt (pw_or (pt_not (pt_chain op_le op_lt pe_int (pv 6) (pe_callB call_len_seq (by rfl) mlen (by decide +kernel) (pa_cons (pv 2) pa_nil)))) (pw_or1 (pt_cmpR op_ne (pv 7) (pe_op op_sub (pe_callB call_len_seq (by rfl) mlen (by decide +kernel) (pa_cons (pv 0) pa_nil)) (pe_callB call_len_seq (by rfl) mlen (by decide +kernel) (pa_cons (pe_ix ix_tup (pv 4) pe_int (fun _ _ => rfl)) pa_nil))) (nomark _))))) (pss_one (ps_ret pe_bl)) pss_nil)
    (pss_one (ps_if (pt_cmpR (op_neD hr.units) (pe_callB cr_sortedS (by rfl) msorted (by decide +kernel) (pa_cons (pe_slice sl_list (pe_ix ix_list (pv 2) (pv 6) (fun _ _ => rfl)) (po_some (pv 7)) po_none) pa_nil)) (pe_callTy call_list_of (by rfl) mlist (by decide +kernel) (pa_cons (pe_ix ix_tup (pv 4) pe_int (fun _ _ => rfl)) pa_nil)) (nomark _)) (pss_one (ps_ret pe_bl)) pss_nil)))))
    (pss_one (ps_ret pe_bl)))), ?_⟩
  have elp : (ps.map V.ref).length = ls.length := by rw [List.length_map, hps.len]
  have els : (sts.map V.ref).length = ls.length := by rw [List.length_map, hsts.len, seatsOf, List.length_map, List.length_range]
  have elr : (row.map V.str).length = row.length := List.length_map _
  have ell : (lns.map V.ref).length = (linesF row ls).length := by rw [List.length_map, hlns.len]
  have l40 := rok.len
  refine ⟨_, rfl, l2, _, rfl, .inl (SqL.of hl2), _, rfl, la, _, rfl, .inl (SqL.of hla), rfl, _, rfl, ?_⟩
  rw [elp, els, decide_eq_true rfl]
  refine iteF ?_
  refine ⟨_, rfl, _, rfl, la, l2, ps.map V.ref, sts.map V.ref, rfl, SqL.of hla, SqL.of hl2, ?_⟩
  refine RZ.for_zipL (xs := ps.map V.ref) (ys := sts.map V.ref) (by rw [elp, els]) (fun i σ H1 => ∃ (y4 y5 y6 y7 : Option V), σ = [some (.ref ra), some (.ref la), some (.ref l1), some (.ref l2), y4, y5, y6, y7] ∧ Same H H1)
    ⟨none, none, none, none, rfl, Same.refl H⟩ (fun i σ H1 ⟨_, _, _, _, _, s1⟩ => ⟨SqL.of (s1 _ _ hla), SqL.of (s1 _ _ hl2)⟩) (fun i x y T σ H1 hx hy ⟨y4, y5, y6, y7, e, s1⟩ nT => ?_) (fun σ H1 ⟨y4, y5, y6, y7, e, s1⟩ => ?_)
  · subst e
    obtain ⟨p, hp, rfl⟩ := map_at hx
    obtain ⟨q, hq, rfl⟩ := map_at hy
    have hi : i < ls.length := by rw [← hps.len]; exact lt_of_at hp
    have s2 := same_same s1 (o := .tup [.ref p, .ref q]) nT
    have hse : (seatsOf row ls)[i]? = some (seatOf row ls i) := at_map (by rw [List.getElem?_range hi])
    have hq2 := s2 _ _ (hsts.at' i q _ hq hse)
    obtain ⟨c, hp2, hc2⟩ := (hps.at' i p _ hp (List.getElem?_eq_getElem hi)).same s2
    have lok := hok _ (List.getElem_mem hi)
    have ec : cOf ls i = ls[i].coming := cOf_at hi
    have lc := lok.len rok
    have ltr : ls[i].coming.length ≤ row.length := K44.nd_len lok.nd lok.sub
    unfold seatOf at hq2
    rw [ec] at hq2
    have hln := K44.lineNo_lt (row := row) h12 (loops_nd hok) hi
    have hdrop : ∀ l, (linesF row ls)[K44.lineNo (cOf ls) ls.length i]? = some l → (l.drop (row.length - ls[i].coming.length)).Perm ls[i].coming := fun l hl => by
      have q := K44.seat_drop (row := row) h12 rok.nd (loops_nd hok) (fun j hj x hx => by rw [cOf_at hj] at hx; exact (hok _ (List.getElem_mem hj)).sub x hx) hi hl
      rwa [ec] at q
    have hln : K44.lineNo (cOf ls) ls.length i < (linesF row ls).length := hln
    generalize K44.lineNo (cOf ls) ls.length i = v at *
    generalize ls[i] = l at *
    have lenc : (l.coming.map V.str).length = l.coming.length := List.length_map _
    refine ⟨T, [.ref p, .ref q], rfl, SqT.of upd_same, rfl, .ref p, [.ref q], rfl, .ref q, [], rfl, rfl, ?_⟩
    generalize upd H1 T (.tup [.ref p, .ref q]) = H2 at *
    refine ⟨_, rfl, q, _, rfl, SqT.of hq2, rfl, nV v, [.int ((row.length : Int) - (l.coming.length : Int))], rfl, _, [], rfl, rfl, ?_⟩
    refine ⟨_, rfl, 0, (v : Int), rfl, rfl, _, rfl, ?_⟩
    rw [decide_eq_true (show (0 : Int) ≤ (v : Int) by omega)]
    refine iteT ⟨_, rfl, l1, _, rfl, .inl (SqL.of (s2 _ _ hl1)), _, _, rfl, rfl, _, rfl, ?_⟩
    rw [ell, decide_eq_true (show (v : Int) < ((linesF row ls).length : Int) by omega)]
    refine iteF ?_
    refine ⟨_, rfl, _, rfl, ra, _, rfl, .inl (SqL.of (s2 _ _ hra)), _, rfl, p, _, 2, _, rfl, rfl, SqT.of hp2, atI_nat (j := 2) rfl, c, _, rfl, .inr (SqT.of hc2), _, _, rfl, rfl, rfl, _, rfl, ?_⟩
    rw [elr, lenc, decide_eq_true rfl]
    refine iteF ?_
    have hlv : (linesF row ls)[v]? = some (linesF row ls)[v] := List.getElem?_eq_getElem hln
    obtain ⟨ln, hln2, hlnv⟩ : ∃ ln, lns[v]? = some ln ∧ H2 ln = some (.lst ((linesF row ls)[v].map V.str)) := by
      have hv : v < lns.length := by rw [hlns.len]; exact hln
      exact ⟨lns[v], List.getElem?_eq_getElem hv, s2 _ _ (hlns.at' v _ _ (List.getElem?_eq_getElem hv) hlv)⟩
    have pm := hdrop _ hlv
    generalize (linesF row ls)[v] = line at *
    refine ⟨_, rfl, _, rfl, l1, _, _, _, rfl, rfl, SqL.of (s2 _ _ hl1), atI_nat (at_map hln2), _, rfl, ?_⟩
    have llen : line.length = row.length := (K44.lines_perm (C := cOf ls) (N := ls.length) rok.nd line (List.mem_of_getElem? hlv)).length_eq
    have egap : (row.length : Int) - (l.coming.length : Int) = ((row.length - l.coming.length : Nat) : Int) := by omega
    have lmap : (line.map V.str).length = line.length := List.length_map _
    rw [egap]
    refine ⟨_, rfl, ln, line.map V.str, rfl, SqL.of hlnv, fun n1 nn1 => ?_⟩
    rw [cutV_drop (by rw [lmap, llen]; omega), ← List.map_drop]
    have s3 := same_same s2 (o := .lst ((line.drop (row.length - l.coming.length)).map V.str)) nn1
    have s23 := same_new (H := H2) (o := .lst ((line.drop (row.length - l.coming.length)).map V.str)) nn1
    refine ⟨n1, _, rfl, SqL.of upd_same, by rw [List.length_drop]; omega, fun ys n2 pm2 srt nn2 => ?_⟩
    have eys : ys = l.coming := sorted_same (pm2.trans pm) srt lok.srt
    subst eys
    have s4 := same_same s3 (o := .lst (l.coming.map V.str)) nn2
    have s24 := same_same s23 (o := .lst (l.coming.map V.str)) nn2
    refine ⟨_, rfl, p, _, 2, _, rfl, rfl, SqT.of (s24 _ _ hp2), atI_nat (j := 2) rfl, c, _, rfl, .inr (SqT.of (s24 _ _ hc2)), fun n3 nn3 => ?_⟩
    have s5 := same_same s4 (o := .lst (l.coming.map V.str)) nn3
    have shp := shaped_strs (lok.tx rok)
    refine ⟨.list (dS l.coming), .list (dS l.coming), .lst (SqL.of (same_new nn3 _ _ upd_same)) (dp_strs _), .lst (SqL.of upd_same) (dp_strs _), shp, shp, _, rfl, ?_⟩
    rw [refl_shaped shp]
    exact iteF ⟨_, _, _, _, rfl, s5⟩
  · subst e
    exact fin H1 s1
end
end W44
set_option Elab.async false
set_option linter.all false
set_option maxRecDepth 100000
set_option maxHeartbeats 8000000
/-! the law's judgement: _law_whole, _law_texts, _law_lines_form, _law_right -/
namespace W44
open PySem PySem.Spec PyProof.Rows L2 KIt
abbrev s_law_whole : Stmt := topS 26
theorem sc_law_whole : FnScope ["found"] ["found"] (defScope s_law_whole) := ⟨rfl, rfl, rfl, by decide +kernel, rfl, by decide +kernel, by decide +kernel⟩
abbrev s_law_texts : Stmt := topS 27
theorem sc_law_texts : FnScope ["found", "name"] ["found"] (defScope s_law_texts) := ⟨rfl, rfl, rfl, by decide +kernel, rfl, by decide +kernel, by decide +kernel⟩
abbrev s_law_lines_form : Stmt := topS 34
theorem sc_law_lines_form : FnScope ["found", "part", "line", "seat", "number"] ["found"] (defScope s_law_lines_form) := ⟨rfl, rfl, rfl, by decide +kernel, rfl, by decide +kernel, by decide +kernel⟩
abbrev s_law_right : Stmt := topS 35
theorem sc_law_right : FnScope ["row", "loops", "found", "lines", "seats", "apart", "line"] ["row", "loops", "found"] (defScope s_law_right) := ⟨rfl, rfl, rfl, by decide +kernel, rfl, by decide +kernel, by decide +kernel⟩
theorem all_true (n : Nat) : (List.replicate n true).all id = true := by
  rw [List.all_eq_true]
  intro x hx
  rw [(List.mem_replicate.mp hx).2]; rfl
theorem rep_snoc (n : Nat) (H : Hp) (D : Addr) : upd H D (.lst ((List.replicate n true).map V.bl ++ [V.bl true])) D = some (.lst ((List.replicate (n + 1) true).map V.bl)) := by
  rw [upd_same, List.replicate_succ', List.map_append]; rfl
theorem rep_len (n : Nat) : ((List.replicate n true).map V.bl).length = n := by rw [List.length_map, List.length_replicate]
theorem lines_few {row : List Str} {ls : List Lp} (h12 : ls.length ≤ 12) : (apartF ls).length ≤ 12 ∧ (linesF row ls).length ≤ 12 := by
  have h1 : (apartF ls).length = (linesF row ls).length := K44.lines_len h12
  have h2 : (apartF ls).length ≤ ls.length := by
    unfold apartF K44.apartOf
    have := List.length_filter_le (fun v => decide (v ∈ (K44.gOf (cOf ls) ls.length).1) && !decide (v ∈ (K44.gOf (cOf ls) ls.length).2)) (List.range ls.length)
    rwa [List.length_range] at this
  omega
section
variable {P : Program} {w : World} {K : PySem.W.Frag} {mg : Str → Option Value} {base : Heap}
def spWhole : Sp := fun vs H Q _ => ∃ i : Int, vs = [.int i] ∧ Q (.bl true) H
theorem ok_whole {f : Addr} {fd : FuncData} {k : Nat} (F : Fun K "_law_whole" "_law_whole" s_law_whole f fd)
    (misinstance : mg "isinstance" = none) (mint : mg "int" = none) (mbool : mg "bool" = none) : FnOk P w K mg base CX0 (k + 1) f fd ["found"] spWhole := by
  refine F.ok sc_law_whole (fun vs H Q E h => ?_) (fun cdv A' outer s H vs Q E hr h => ?_)
  · obtain ⟨i, rfl, _⟩ := h
    rfl
  obtain ⟨i, rfl, fin⟩ := h
  refine ⟨_, (pss_one (ps_ret (pe_and (pe_callB call_isi (by rfl) misinstance (by decide +kernel) (pa_cons (pv 0) (pa_cons (pe_bltn (v := .ty "int") (by rfl) mint (by decide +kernel) rfl) pa_nil))) (pe_one (pe_not (pe_callB call_isi (by rfl) misinstance (by decide +kernel) (pa_cons (pv 0) (pa_cons (pe_bltn (v := .ty "bool") (by rfl) mbool (by decide +kernel) rfl) pa_nil)))))))), ?_⟩
  refine ⟨_, rfl, .int i, .ty "int", _, _, true, rfl, .ty _, .base (.int i), kit_ty (by decide +kernel), _, rfl, iteT ?_⟩
  exact ⟨_, rfl, .int i, .ty "bool", _, _, false, rfl, .ty _, .base (.int i), kit_ty (by decide +kernel), _, rfl, fin⟩
def spTexts : Sp := fun vs H Q _ => ∃ (a : Addr) (xs : List Str), vs = [.ref a] ∧ H a = some (.lst (xs.map V.str)) ∧ xs.length ≤ 40 ∧ ∀ H', Same H H' → Q (.bl true) H'
theorem ok_texts {f : Addr} {fd : FuncData} {k : Nat} (F : Fun K "_law_texts" "_law_texts" s_law_texts f fd)
    (misinstance : mg "isinstance" = none) (mlist : mg "list" = none) (mstr : mg "str" = none) (mall : mg "all" = none) : FnOk P w K mg base CX0 (k + 1) f fd ["found"] spTexts := by
  refine F.ok sc_law_texts (fun vs H Q E h => ?_) (fun cdv A' outer s H vs Q E hr h => ?_)
  · obtain ⟨a, xs, rfl, _⟩ := h
    rfl
  obtain ⟨a, xs, rfl, ha, h40, fin⟩ := h
  refine ⟨_, (pss_one (ps_ret (pe_and (pe_callB call_isi (by rfl) misinstance (by decide +kernel) (pa_cons (pv 0) (pa_cons (pe_bltn (v := .ty "list") (by rfl) mlist (by decide +kernel) rfl) pa_nil))) (pe_one (pe_callB (cr_all rfl) (by rfl) mall (by decide +kernel) (pa_cons (pe_lc (own := [("name", 1)]) (g := (gName 1)) (tt := tYes) rfl sc_law_texts.nd (pi_list (pv 0)) (blkOk_by (N := ["found", "name"]) (sc := defScope s_law_texts) (by decide +kernel)) (fun _ _ _ _ _ => (pg_name (i := 1) sc_law_texts.nd rfl (.inl rfl))) (fun _ _ _ _ _ => pts_nil) (fun _ _ _ _ _ => (pe_callB (r := rIsi K) call_isi (by rfl) misinstance (by decide +kernel) (pa_cons (pv 1) (pa_cons (pe_bltn (v := .ty "str") (by rfl) mstr (by decide +kernel) rfl) pa_nil))))) pa_nil)))))), ?_⟩
  refine ⟨_, rfl, .ref a, .ty "list", _, _, true, rfl, .ty _, .base (.lst ha), kit_ty (by decide +kernel), _, rfl, iteT ?_⟩
  refine ⟨_, rfl, a, rfl, ⟨_, SqL.of ha⟩, fun D nD => ?_⟩
  have elx : (xs.map V.str).length = xs.length := List.length_map _
  refine lc_list (xs := xs.map V.str) (fun j H1 => Same H H1 ∧ H1 D = some (.lst ((List.replicate j true).map V.bl))) ⟨same_new nD, upd_same⟩ (fun j H1 _ ⟨s1, _⟩ => SqL.of (s1 _ _ ha)) (fun j x H1 hx ⟨s1, hD⟩ => ?_) (fun H1 ⟨s1, hD⟩ => ?_)
  · obtain ⟨z, hz, rfl⟩ := map_at hx
    have hj := lt_of_at hz
    refine ⟨rfl, _, rfl, .str z, .ty "str", _, _, true, rfl, .ty _, .base (.str z), kit_ty (by decide +kernel), _, hD, by rw [rep_len]; exact small1000 (by omega), fun b u q => ?_, rep_snoc _ _ _⟩
    rw [upd_ne (ne_of_none q nD)]
    exact s1 _ _ q
  · refine ⟨D, List.replicate _ true, rfl, SqL.of hD, ?_⟩
    rw [all_true]
    exact fin H1 s1
def spForm : Sp := fun vs H Q _ => ∃ (t l1 l2 l3 : Addr) (lns sts : List Addr) (row : List Str) (ls : List Lp), vs = [.ref t] ∧ ToldAt H t l1 l2 l3 lns sts row ls ∧ RowOk row ∧ ls.length ≤ 12 ∧ ∀ H', Same H H' → Q (.bl true) H'
theorem ok_form {f f1 f2 : Addr} {fd d1 d2 : FuncData} {k : Nat} (F : Fun K "_law_lines_form" "_law_lines_form" s_law_lines_form f fd)
    (G_law_texts : FnOk P w K mg base CX0 k f1 d1 ["found"] spTexts) (k_law_texts : PySem.W.keepIn K (.ref f1) = true) (b_law_texts : Binds K d1 ["found"] []) (m_law_texts : mg "_law_texts" = some (.ref f1))
    (G_law_whole : FnOk P w K mg base CX0 k f2 d2 ["found"] spWhole) (k_law_whole : PySem.W.keepIn K (.ref f2) = true) (b_law_whole : Binds K d2 ["found"] []) (m_law_whole : mg "_law_whole" = some (.ref f2))
    (misinstance : mg "isinstance" = none) (mtuple : mg "tuple" = none) (mlist : mg "list" = none) (mlen : mg "len" = none) (mall : mg "all" = none) : FnOk P w K mg base CX0 (k + 1) f fd ["found"] spForm := by
  refine F.ok sc_law_lines_form (fun vs H Q E h => ?_) (fun cdv A' outer s H vs Q E hr h => ?_)
  · obtain ⟨t, l1, l2, l3, lns, sts, row, ls, rfl, _⟩ := h
    rfl
  obtain ⟨t, l1, l2, l3, lns, sts, row, ls, rfl, ⟨ht, hl1, hlns, hl2, hsts, hl3⟩, rok, h12, fin⟩ := h
  refine ⟨_, (pss_cons (ps_if (PW.pt (pw_or (pt_not (pt_val (pe_callB call_isi (by rfl) misinstance (by decide +kernel) (pa_cons (pv 0) (pa_cons (pe_bltn (v := .ty "tuple") (by rfl) mtuple (by decide +kernel) rfl) pa_nil))))) (pw_or1 (pt_cmpR op_ne (pe_callB call_len_seq (by rfl) mlen (by decide +kernel) (pa_cons (pv 0) pa_nil)) pe_int (nomark _))))) (pss_one (ps_ret pe_bl)) pss_nil)
    (pss_cons (ps_if (PW.pt (pw_or (pt_not (pt_val (pe_callB (cr_all rfl) (by rfl) mall (by decide +kernel) (pa_cons (pe_lc (own := [("part", 1)]) (g := (gName 1)) (tt := tYes) rfl sc_law_lines_form.nd (pi_tup (pv 0)) (blkOk_by (N := ["found", "part", "line", "seat", "number"]) (sc := defScope s_law_lines_form) (by decide +kernel)) (fun _ _ _ _ _ => (pg_name (i := 1) sc_law_lines_form.nd rfl (.inl rfl))) (fun _ _ _ _ _ => pts_nil) (fun _ _ _ _ _ => (pe_callB (r := rIsi K) call_isi (by rfl) misinstance (by decide +kernel) (pa_cons (pv 1) (pa_cons (pe_bltn (v := .ty "list") (by rfl) mlist (by decide +kernel) rfl) pa_nil))))) pa_nil)))) (pw_or1 (pt_not (pt_val (pe_callB (cr_all rfl) (by rfl) mall (by decide +kernel) (pa_cons (pe_lc (own := [("line", 2)]) (g := (gName 2)) (tt := tYes) rfl sc_law_lines_form.nd (pi_list (pe_ix ix_tup (pv 0) pe_int (fun _ _ => rfl))) (blkOk_by (N := ["found", "part", "line", "seat", "number"]) (sc := defScope s_law_lines_form) (by decide +kernel)) (fun _ _ _ _ _ => (pg_name (i := 2) sc_law_lines_form.nd rfl (.inl rfl))) (fun _ _ _ _ _ => pts_nil) (fun _ _ _ _ _ => (pe_call G_law_texts hr rfl m_law_texts k_law_texts b_law_texts .nil pass0 (pa_cons (pv 2) pa_nil)))) pa_nil))))))) (pss_one (ps_ret pe_bl)) pss_nil)
    (pss_cons (ps_for PassesOwn.never rfl (pi_list (pe_ix ix_tup (pv 0) pe_int (fun _ _ => rfl))) (pg_name (i := 3) sc_law_lines_form.nd rfl (.inl rfl)) (pss_one (ps_if (PW.pt (pw_or (pt_not (pt_val (pe_callB call_isi (by rfl) misinstance (by decide +kernel) (pa_cons (pv 3) (pa_cons (pe_bltn (v := .ty "tuple") (by rfl) mtuple (by decide +kernel) rfl) pa_nil))))) (pw_or (pt_cmpR op_ne (pe_callB call_len_seq (by rfl) mlen (by decide +kernel) (pa_cons (pv 3) pa_nil)) pe_int (nomark _)) (pw_or1 (pt_not (pt_val (pe_callB (cr_all rfl) (by rfl) mall (by decide +kernel) (pa_cons (pe_lc (own := [("number", 4)]) (g := (gName 4)) (tt := tYes) rfl sc_law_lines_form.nd (pi_tup (pv 3)) (blkOk_by (N := ["found", "part", "line", "seat", "number"]) (sc := defScope s_law_lines_form) (by decide +kernel)) (fun _ _ _ _ _ => (pg_name (i := 4) sc_law_lines_form.nd rfl (.inl rfl))) (fun _ _ _ _ _ => pts_nil) (fun _ _ _ _ _ => (pe_call G_law_whole hr rfl m_law_whole k_law_whole b_law_whole .nil pass0 (pa_cons (pv 4) pa_nil)))) pa_nil)))))))) (pss_one (ps_ret pe_bl)) pss_nil)))
    (pss_one (ps_ret (pe_callB (cr_all rfl) (by rfl) mall (by decide +kernel) (pa_cons (pe_lc (own := [("number", 4)]) (g := (gName 4)) (tt := tYes) rfl sc_law_lines_form.nd (pi_list (pe_ix ix_tup (pv 0) pe_int (fun _ _ => rfl))) (blkOk_by (N := ["found", "part", "line", "seat", "number"]) (sc := defScope s_law_lines_form) (by decide +kernel)) (fun _ _ _ _ _ => (pg_name (i := 4) sc_law_lines_form.nd rfl (.inl rfl))) (fun _ _ _ _ _ => pts_nil) (fun _ _ _ _ _ => (pe_call G_law_whole hr rfl m_law_whole k_law_whole b_law_whole .nil pass0 (pa_cons (pv 4) pa_nil)))) pa_nil))))))), ?_⟩
  obtain ⟨few3, few1⟩ := lines_few (row := row) h12
  have els : (sts.map V.ref).length = ls.length := by rw [List.length_map, hsts.len, seatsOf, List.length_map, List.length_range]
  have ell : (lns.map V.ref).length = (linesF row ls).length := by rw [List.length_map, hlns.len]
  have el3 : (nsV (apartF ls)).length = (apartF ls).length := List.length_map _
  -- a tuple of three
  refine ⟨_, rfl, .ref t, .ty "tuple", _, _, true, rfl, .ty _, .base (.tup ht), kit_ty (by decide +kernel), _, rfl, ?_⟩
  refine iteF ⟨_, rfl, t, _, rfl, .inr (SqT.of ht), rfl, _, rfl, iteF ?_⟩
  -- of lists
  refine ⟨_, rfl, t, rfl, ⟨_, SqT.of ht⟩, fun D nD => ?_⟩
  refine lc_tup (xs := [.ref l1, .ref l2, .ref l3]) (fun j H1 => Same H H1 ∧ H1 D = some (.lst ((List.replicate j true).map V.bl))) ⟨same_new nD, upd_same⟩ (fun j H1 _ ⟨s1, _⟩ => SqT.of (s1 _ _ ht)) (fun j x H1 hx ⟨s1, hD⟩ => ?_) (fun H1 ⟨s1, hD⟩ => ?_)
  · have hj : j < 3 := lt_of_at hx
    obtain ⟨a, ys, rfl, ha⟩ : ∃ a ys, x = .ref a ∧ H1 a = some (.lst ys) := by
      have := List.mem_of_getElem? hx
      simp only [List.mem_cons, List.not_mem_nil, or_false] at this
      rcases this with q | q | q
      · exact ⟨_, _, q, s1 _ _ hl1⟩
      · exact ⟨_, _, q, s1 _ _ hl2⟩
      · exact ⟨_, _, q, s1 _ _ hl3⟩
    refine ⟨rfl, _, rfl, .ref a, .ty "list", _, _, true, rfl, .ty _, .base (.lst ha), kit_ty (by decide +kernel), _, hD, by rw [rep_len]; exact small1000 (by omega), fun b u q => ?_, rep_snoc _ _ _⟩
    rw [upd_ne (ne_of_none q nD)]
    exact s1 _ _ q
  refine ⟨D, List.replicate _ true, rfl, SqL.of hD, ?_⟩
  rw [all_true]
  refine ⟨_, rfl, iteF ?_⟩
  -- the lines are texts
  have ht1 := s1 _ _ ht
  refine ⟨_, rfl, t, _, 0, _, rfl, rfl, SqT.of ht1, atI_nat (j := 0) rfl, l1, rfl, ⟨_, SqL.of (s1 _ _ hl1)⟩, fun D2 nD2 => ?_⟩
  refine lc_list (xs := lns.map V.ref) (fun j H2 => Same H H2 ∧ H2 D2 = some (.lst ((List.replicate j true).map V.bl))) ⟨same_same s1 nD2, upd_same⟩ (fun j H2 _ ⟨s2, _⟩ => SqL.of (s2 _ _ hl1)) (fun j x H2 hx ⟨s2, hD2⟩ => ?_) (fun H2 ⟨s2, hD2⟩ => ?_)
  · obtain ⟨q, hq, rfl⟩ := map_at hx
    have hj : j < (linesF row ls).length := by rw [← hlns.len]; exact lt_of_at hq
    have hl := List.getElem?_eq_getElem hj
    have pm : ((linesF row ls)[j]).length = row.length := (K44.lines_perm (C := cOf ls) (N := ls.length) rok.nd _ (List.getElem_mem hj)).length_eq
    have l40 := rok.len
    refine ⟨rfl, _, rfl, q, _, rfl, s2 _ _ (hlns.at' j q _ hq hl), by omega, fun H3 s3 => ⟨_, s3 _ _ hD2, by rw [rep_len]; exact small1000 (by omega), fun b u q => ?_, rep_snoc _ _ _⟩⟩
    rw [upd_ne (ne_of_none (s1 _ _ q) nD2)]
    exact s3 _ _ (s2 _ _ q)
  refine ⟨D2, List.replicate _ true, rfl, SqL.of hD2, ?_⟩
  rw [all_true]
  refine ⟨_, rfl, iteF ?_⟩
  -- the seats are pairs of whole numbers
  refine ⟨_, rfl, t, _, 1, _, rfl, rfl, SqT.of (s2 _ _ ht), atI_nat (j := 1) rfl, l2, rfl, ⟨_, SqL.of (s2 _ _ hl2)⟩, ?_⟩
  refine for_list (xs := sts.map V.ref) (fun j σ H3 => ∃ y3 : Option V, σ = [some (.ref t), none, none, y3, none] ∧ Same H H3) ⟨none, rfl, s2⟩ (fun j σ H3 _ ⟨_, _, s3⟩ => SqL.of (s3 _ _ hl2)) (fun j x σ H3 hx ⟨y3, e, s3⟩ => ?_) (fun σ H3 ⟨y3, e, s3⟩ => ?_)
  · subst e
    obtain ⟨q, hq, rfl⟩ := map_at hx
    have hj : j < ls.length := by
      have := lt_of_at hq
      rwa [hsts.len, seatsOf, List.length_map, List.length_range] at this
    have hse : (seatsOf row ls)[j]? = some (seatOf row ls j) := at_map (by rw [List.getElem?_range hj])
    have hq3 := s3 _ _ (hsts.at' j q _ hq hse)
    generalize seatOf row ls j = se at hq3
    refine ⟨_, rfl, .ref q, .ty "tuple", _, _, true, rfl, .ty _, .base (.tup hq3), kit_ty (by decide +kernel), _, rfl, ?_⟩
    refine iteF ⟨_, rfl, q, _, rfl, .inr (SqT.of hq3), rfl, _, rfl, iteF ?_⟩
    refine ⟨_, rfl, q, rfl, ⟨_, SqT.of hq3⟩, fun D3 nD3 => ?_⟩
    refine lc_tup (xs := [nV se.1, .int se.2]) (fun j H4 => Same H3 H4 ∧ H4 D3 = some (.lst ((List.replicate j true).map V.bl))) ⟨same_new nD3, upd_same⟩ (fun j H4 _ ⟨s4, _⟩ => SqT.of (s4 _ _ hq3)) (fun j x H4 hx ⟨s4, hD⟩ => ?_) (fun H4 ⟨s4, hD⟩ => ?_)
    · have hj : j < 2 := lt_of_at hx
      obtain ⟨i, rfl⟩ : ∃ i : Int, x = .int i := by
        have := List.mem_of_getElem? hx
        simp only [List.mem_cons, List.not_mem_nil, or_false] at this
        rcases this with q | q
        · exact ⟨_, q⟩
        · exact ⟨_, q⟩
      refine ⟨rfl, _, rfl, i, rfl, _, hD, by rw [rep_len]; exact small1000 (by omega), fun b u q => ?_, rep_snoc _ _ _⟩
      rw [upd_ne (ne_of_none q nD3)]
      exact s4 _ _ q
    refine ⟨D3, List.replicate _ true, rfl, SqL.of hD, ?_⟩
    rw [all_true]
    exact ⟨_, rfl, iteF ⟨_, rfl, s3.trans s4⟩⟩
  subst e
  -- the apart ones are whole numbers
  refine ⟨_, rfl, t, _, 2, _, rfl, rfl, SqT.of (s3 _ _ ht), atI_nat (j := 2) rfl, l3, rfl, ⟨_, SqL.of (s3 _ _ hl3)⟩, fun D4 nD4 => ?_⟩
  refine lc_list (xs := nsV (apartF ls)) (fun j H4 => Same H3 H4 ∧ H4 D4 = some (.lst ((List.replicate j true).map V.bl))) ⟨same_new nD4, upd_same⟩ (fun j H4 _ ⟨s4, _⟩ => SqL.of (s4 _ _ (s3 _ _ hl3))) (fun j x H4 hx ⟨s4, hD⟩ => ?_) (fun H4 ⟨s4, hD⟩ => ?_)
  · obtain ⟨n, hn, rfl⟩ := map_at hx
    have hj := lt_of_at hn
    refine ⟨rfl, _, rfl, (n : Int), rfl, _, hD, by rw [rep_len]; exact small1000 (by omega), fun b u q => ?_, rep_snoc _ _ _⟩
    rw [upd_ne (ne_of_none q nD4)]
    exact s4 _ _ q
  refine ⟨D4, List.replicate _ true, rfl, SqL.of hD, ?_⟩
  rw [all_true]
  exact fin H4 (s3.trans s4)
theorem wi_within {ls : List Lp} {i j : Nat} {l m : Lp} (hl : ls[i]? = some l) (hm : ls[j]? = some m) : K44.within (cOf ls) i j = wi l m := by
  unfold K44.within wi cOf
  rw [hl, hm]
def spRight : Sp := fun vs H Q _ => ∃ (ra la t l1 l2 l3 : Addr) (row : List Str) (ps lns sts : List Addr) (ls : List Lp), vs = [.ref ra, .ref la, .ref t] ∧ H ra = some (.lst (row.map V.str)) ∧ RowOk row ∧ H la = some (.lst (ps.map V.ref)) ∧ LpsAt H ps ls ∧ ls.length ≤ 12 ∧ (∀ l ∈ ls, LpOk row l) ∧
  ToldAt H t l1 l2 l3 lns sts row ls ∧ ∀ H', Same H H' → Q (.bl true) H'
theorem ok_right {f f1 f2 f3 : Addr} {fd d1 d2 d3 : FuncData} {k : Nat} (F : Fun K "_law_right" "_law_right" s_law_right f fd)
    (G_law_lines_form : FnOk P w K mg base CX0 k f1 d1 ["found"] spForm) (k_law_lines_form : PySem.W.keepIn K (.ref f1) = true) (b_law_lines_form : Binds K d1 ["found"] []) (m_law_lines_form : mg "_law_lines_form" = some (.ref f1))
    (G_law_seats_right : FnOk P w K mg base CX0 k f2 d2 ["row", "loops", "lines", "seats"] spSeats) (k_law_seats_right : PySem.W.keepIn K (.ref f2) = true) (b_law_seats_right : Binds K d2 ["row", "loops", "lines", "seats"] []) (m_law_seats_right : mg "_law_seats_right" = some (.ref f2))
    (G_law_apart : FnOk P w K mg base CX0 k f3 d3 ["loops", "apart"] spApart) (k_law_apart : PySem.W.keepIn K (.ref f3) = true) (b_law_apart : Binds K d3 ["loops", "apart"] []) (m_law_apart : mg "_law_apart" = some (.ref f3))
    (mlen : mg "len" = none) (msorted : mg "sorted" = none) (mall : mg "all" = none) : FnOk P w K mg base CX0 (k + 1) f fd ["row", "loops", "found"] spRight := by
  refine F.ok sc_law_right (fun vs H Q E h => ?_) (fun cdv A' outer s H vs Q E hr h => ?_)
  · obtain ⟨ra, la, t, l1, l2, l3, row, ps, lns, sts, ls, rfl, _⟩ := h
    rfl
  obtain ⟨ra, la, t, l1, l2, l3, row, ps, lns, sts, ls, rfl, hra, rok, hla, hps, h12, hok, told, fin⟩ := h
  refine ⟨_, (pss_cons (ps_if (pt_not (pt_val (pe_call G_law_lines_form hr rfl m_law_lines_form k_law_lines_form b_law_lines_form .nil pass0 (pa_cons (pv 2) pa_nil)))) (pss_one (ps_ret pe_bl)) pss_nil)
    (pss_cons (ps_asg (pv 2) (pg_tup rfl (pgs_cons (pg_name (i := 3) sc_law_right.nd rfl (.inl rfl)) (pgs_cons (pg_name (i := 4) sc_law_right.nd rfl (.inl rfl)) (pgs_cons (pg_name (i := 5) sc_law_right.nd rfl (.inl rfl)) pgs_nil)))))
    (pss_cons (ps_if (PW.pt (pw_or (pt_not (pt_val (pe_callB (cr_all rfl) (by rfl) mall (by decide +kernel) (pa_cons (pe_lc (own := [("line", 6)]) (g := (gName 6)) (tt := tYes) rfl sc_law_right.nd (pi_list (pv 3)) (blkOk_by (N := ["row", "loops", "found", "lines", "seats", "apart", "line"]) (sc := defScope s_law_right) (by decide +kernel)) (fun _ _ _ _ _ => (pg_name (i := 6) sc_law_right.nd rfl (.inl rfl))) (fun _ _ _ _ _ => pts_nil) (fun _ _ _ _ _ => (pe_cmpR (r := rEqD K) (op_eqD hr.units) (pe_callB (r := rSortedS K) cr_sortedS (by rfl) msorted (by decide +kernel) (pa_cons (pv 6) pa_nil)) (pe_callB (r := rSortedS K) cr_sortedS (by rfl) msorted (by decide +kernel) (pa_cons (pv 0) pa_nil)) (nomark _)))) pa_nil)))) (pw_or1 (pt_cmpR op_ne (pe_callB call_len_seq (by rfl) mlen (by decide +kernel) (pa_cons (pv 5) pa_nil)) (pe_callB call_len_seq (by rfl) mlen (by decide +kernel) (pa_cons (pv 3) pa_nil)) (nomark _))))) (pss_one (ps_ret pe_bl)) pss_nil)
    (pss_one (ps_ret (pe_and (pe_call G_law_seats_right hr rfl m_law_seats_right k_law_seats_right b_law_seats_right .nil pass0 (pa_cons (pv 0) (pa_cons (pv 1) (pa_cons (pv 3) (pa_cons (pv 4) pa_nil))))) (pe_one (pe_call G_law_apart hr rfl m_law_apart k_law_apart b_law_apart .nil pass0 (pa_cons (pv 1) (pa_cons (pv 5) pa_nil)))))))))), ?_⟩
  obtain ⟨few3, few1⟩ := lines_few (row := row) h12
  have l40 := rok.len
  refine ⟨_, rfl, t, l1, l2, l3, lns, sts, row, ls, rfl, told, rok, h12, fun H1 s1 => ⟨_, rfl, iteF ?_⟩⟩
  have told1 := told.same s1
  refine ⟨_, rfl, t, _, rfl, SqT.of told1.t, rfl, .ref l1, [.ref l2, .ref l3], rfl, .ref l2, [.ref l3], rfl, .ref l3, [], rfl, rfl, ?_⟩
  have ell : (lns.map V.ref).length = (linesF row ls).length := by rw [List.length_map, told.lns.len]
  have el3 : (nsV (apartF ls)).length = (apartF ls).length := List.length_map _
  refine ⟨_, rfl, l1, rfl, ⟨_, SqL.of told1.l1⟩, fun D nD => ?_⟩
  refine lc_list (xs := lns.map V.ref) (fun j H2 => Same H1 H2 ∧ H2 D = some (.lst ((List.replicate j true).map V.bl))) ⟨same_new nD, upd_same⟩ (fun j H2 _ ⟨s2, _⟩ => SqL.of (s2 _ _ told1.l1)) (fun j x H2 hx ⟨s2, hD⟩ => ?_) (fun H2 ⟨s2, hD⟩ => ?_)
  · obtain ⟨q, hq, rfl⟩ := map_at hx
    have hj : j < (linesF row ls).length := by rw [← told.lns.len]; exact lt_of_at hq
    have hl := List.getElem?_eq_getElem hj
    have pm : ((linesF row ls)[j]).Perm row := K44.lines_perm (C := cOf ls) (N := ls.length) rok.nd _ (List.getElem_mem hj)
    have hq2 := s2 _ _ (told1.lns.at' j q _ hq hl)
    generalize (linesF row ls)[j] = line at *
    have len := pm.length_eq
    refine ⟨rfl, _, rfl, q, line, rfl, SqL.of hq2, by omega, fun ys n1 pm1 srt1 nn1 => ?_⟩
    have s3 := same_same s2 (o := .lst (ys.map V.str)) nn1
    refine ⟨_, rfl, ra, row, rfl, SqL.of (s3 _ _ (s1 _ _ hra)), by omega, fun zs n2 pm2 srt2 nn2 => ?_⟩
    have s4 := same_same s3 (o := .lst (zs.map V.str)) nn2
    have eyz : ys = zs := sorted_same (pm1.trans (pm.trans pm2.symm)) srt1 srt2
    subst eyz
    have shp := shaped_strs (xs := ys) fun x hx => rok.tx x (pm2.mem_iff.mp hx)
    refine ⟨.list (dS ys), .list (dS ys), .lst (SqL.of (same_new nn2 _ _ upd_same)) (dp_strs _), .lst (SqL.of upd_same) (dp_strs _), shp, shp, ?_⟩
    rw [refl_shaped shp]
    refine ⟨_, same_new nn2 _ _ (same_new nn1 _ _ hD), by rw [rep_len]; exact small1000 (by omega), fun b u q => ?_, rep_snoc _ _ _⟩
    rw [upd_ne (ne_of_none q nD)]
    exact s4 _ _ q
  have s02 := s1.trans s2
  have told2 := told.same s02
  refine ⟨D, List.replicate _ true, rfl, SqL.of hD, ?_⟩
  rw [all_true]
  refine ⟨_, rfl, iteF ?_⟩
  refine ⟨_, rfl, l3, _, rfl, .inl (SqL.of told2.l3), _, rfl, l1, _, rfl, .inl (SqL.of told2.l1), rfl, _, rfl, ?_⟩
  rw [el3, ell, show (apartF ls).length = (linesF row ls).length from K44.lines_len h12, decide_eq_true rfl]
  refine iteF ?_
  refine ⟨_, rfl, _, rfl, _, rfl, _, rfl, ra, la, l1, l2, row, ps, lns, sts, ls, rfl, s02 _ _ hra, rok, s02 _ _ hla, hps.same s02, h12, hok, told2.l1, told2.lns, told2.l2, told2.sts, fun H3 s3 => ⟨_, rfl, iteT ?_⟩⟩
  have s03 := s02.trans s3
  refine ⟨_, rfl, _, rfl, la, l3, ps, ls, apartF ls, rfl, s03 _ _ hla, hps.same s03, h12, fun l hl => (hok l hl).len rok, (told.same s03).l3, few3, K44.apart_lt, K44.apart_rise, fun i j l m hi hj ne hl hm => ?_, fun H4 s4 => fin H4 (s03.trans s4)⟩
  unfold fit2
  rw [← wi_within hl hm, ← wi_within hm hl, K44.apart_ok h12 hi hj ne, K44.apart_ok h12 hj hi (Ne.symm ne)]
  rfl
end
end W44
set_option Elab.async false
set_option linter.all false
set_option maxRecDepth 100000
set_option maxHeartbeats 16000000
/-! the law itself -/
namespace W44
open PySem PySem.Spec PyProof.Rows L2 KIt
abbrev slaw : Stmt := topS 36
theorem sclaw : FnScope ["script", "held", "k", "pot", "row", "loops", "handed", "found", "kept", "line"] ["script"] (defScope slaw) := ⟨rfl, rfl, rfl, by decide +kernel, rfl, by decide +kernel, by decide +kernel⟩
/-! ### what is told, as data -/
def dTold (row : List Str) (ls : List Lp) : PyData :=
  .tuple [.list ((linesF row ls).map fun l => .list (dS l)), .list ((seatsOf row ls).map fun s => .tuple [.int (s.1 : Int), .int s.2]), .list ((apartF ls).map fun n : Nat => .int (n : Int))]
theorem dp_told {K : PySem.W.Frag} {H : Hp} {t l1 l2 l3 : Addr} {lns sts : List Addr} {row : List Str} {ls : List Lp} (h : ToldAt H t l1 l2 l3 lns sts row ls) : Dp K H (.ref t) (dTold row ls) := by
  refine .tup (SqT.of h.t) (.cons (.lst (SqL.of h.l1) (dp_map (by rw [List.length_map, h.lns.len]) fun i x l hx hl => ?_)) (.cons (.lst (SqL.of h.l2) (dp_map (by rw [List.length_map, h.sts.len]) fun i x l hx hl => ?_)) (.cons (.lst (SqL.of h.l3) (dp_map (by rw [List.length_map]) fun i x n hx hn => ?_)) .nil)))
  · obtain ⟨p, hp, rfl⟩ := map_at hx
    exact .lst (SqL.of (h.lns.at' i p l hp hl)) (dp_strs l)
  · obtain ⟨p, hp, rfl⟩ := map_at hx
    exact .tup (SqT.of (h.sts.at' i p l hp hl)) (.cons (.int _) (.cons (.int _) .nil))
  · rw [at_map hn] at hx
    rw [← Option.some.inj hx]
    exact .int _
theorem shaped_told {row : List Str} {ls : List Lp} (rok : RowOk row) : SeqAt.shaped (dTold row ls) = true := by
  have c1 : ∀ d ∈ (linesF row ls).map (fun l => PyData.list (dS l)), PyData.canLay0 d = true ∧ PyData.depth d ≤ 1 := fun d hd => by
    obtain ⟨l, hl, rfl⟩ := List.mem_map.mp hd
    have pm : l.Perm row := K44.lines_perm (C := cOf ls) (N := ls.length) rok.nd l hl
    refine ⟨can_strs fun x hx => rok.tx x (pm.mem_iff.mp hx), ?_⟩
    show PyData.depthAll (dS l) + 1 ≤ 1
    rw [depth_strs]; decide
  have c2 : ∀ d ∈ (seatsOf row ls).map (fun s => PyData.tuple [.int (s.1 : Int), .int s.2]), PyData.canLay0 d = true ∧ PyData.depth d ≤ 1 := fun d hd => by
    obtain ⟨l, hl, rfl⟩ := List.mem_map.mp hd
    exact ⟨rfl, Nat.le_refl _⟩
  have c3 : ∀ d ∈ (apartF ls).map (fun n : Nat => PyData.int (n : Int)), PyData.canLay0 d = true ∧ PyData.depth d ≤ 1 := fun d hd => by
    obtain ⟨l, hl, rfl⟩ := List.mem_map.mp hd
    exact ⟨rfl, Nat.zero_le _⟩
  have one : ∀ ds : List PyData, (∀ d ∈ ds, PyData.canLay0 d = true ∧ PyData.depth d ≤ 1) → PyData.canLay0 (.list ds) = true ∧ PyData.depth (.list ds) ≤ 2 := fun ds h =>
    ⟨lay_all fun d hd => (h d hd).1, Nat.succ_le_succ (dep_all fun d hd => (h d hd).2)⟩
  refine shaped_of (lay_all (ds := [_, _, _]) fun d hd => ?_) (Nat.le_trans (Nat.succ_le_succ (dep_all (n := 2) (ds := [_, _, _]) fun d hd => ?_)) (by decide : 2 + 1 ≤ 64))
  · simp only [List.mem_cons, List.not_mem_nil, or_false] at hd
    rcases hd with rfl | rfl | rfl
    · exact (one _ c1).1
    · exact (one _ c2).1
    · exact (one _ c3).1
  · simp only [List.mem_cons, List.not_mem_nil, or_false] at hd
    rcases hd with rfl | rfl | rfl
    · exact (one _ c1).2
    · exact (one _ c2).2
    · exact (one _ c3).2
/-! ### heaps that keep all but some -/
/-- a heap without one place -/
def rem (H : Hp) (a : Addr) : Hp := fun b => if b = a then none else H b
theorem rem_sub {H : Hp} {a : Addr} : Same (rem H a) H := fun b u h => by
  unfold rem at h
  split at h
  · exact nomatch h
  · exact h
theorem rem_of {H : Hp} {a b : Addr} {u : HO} (n : b ≠ a) (h : H b = some u) : rem H a b = some u := by unfold rem; rw [if_neg n]; exact h
/-- what one round keeps for later -/
def HeldAt (H : Hp) (h : Addr) : Prop := ∃ (ra la kt k1 k2 k3 : Addr) (row : List Str) (ps lns sts : List Addr) (ls : List Lp), H h = some (.tup [.ref ra, .ref la, .ref kt]) ∧ H ra = some (.lst (row.map V.str)) ∧ RowOk row ∧
  H la = some (.lst (ps.map V.ref)) ∧ LpsAt H ps ls ∧ ls.length ≤ 12 ∧ (∀ l ∈ ls, LpOk row l) ∧ ToldAt H kt k1 k2 k3 lns sts row ls
theorem HeldAt.same {H H' : Hp} {h : Addr} (q : HeldAt H h) (s : Same H H') : HeldAt H' h := by
  obtain ⟨ra, la, kt, k1, k2, k3, row, ps, lns, sts, ls, a, b, c, d, e, f, g, i⟩ := q
  exact ⟨ra, la, kt, k1, k2, k3, row, ps, lns, sts, ls, s _ _ a, s _ _ b, c, s _ _ d, e.same s, f, g, i.same s⟩
/-- all outside S stands; at S stand lists, not long -/
structure Keeps (S : Addr → Prop) (n : Nat) (H H' : Hp) : Prop where
  out : ∀ b u, ¬ S b → H b = some u → H' b = some u
  lists : ∀ b, S b → ∃ xs : List V, H' b = some (.lst xs) ∧ xs.length ≤ n
theorem Keeps.app {S : Addr → Prop} {n : Nat} {H H' : Hp} {b : Addr} {xs : List V} (k : Keeps S n H H') (hb : S b) (h : xs.length ≤ n + 1) : Keeps S (n + 1) H (upd H' b (.lst xs)) := by
  refine ⟨fun c u nc q => by rw [upd_ne (fun e : c = b => nc (e ▸ hb))]; exact k.out c u nc q, fun c hc => ?_⟩
  by_cases e : c = b
  · rw [e, upd_same]
    exact ⟨xs, rfl, h⟩
  · rw [upd_ne e]
    obtain ⟨zs, h1, h2⟩ := k.lists c hc
    exact ⟨zs, h1, Nat.le_succ_of_le h2⟩
theorem Keeps.new {S : Addr → Prop} {n : Nat} {H H' : Hp} {q : Addr} {o : HO} (k : Keeps S n H H') (nq : H' q = none) : Keeps S n H (upd H' q o) :=
  ⟨fun c u nc h => same_new nq _ _ (k.out c u nc h), fun c hc => let ⟨zs, h1, h2⟩ := k.lists c hc; ⟨zs, same_new nq _ _ h1, h2⟩⟩
theorem Keeps.mono {S : Addr → Prop} {n m : Nat} {H H' : Hp} (k : Keeps S n H H') (h : n ≤ m) : Keeps S m H H' := ⟨k.out, fun c hc => let ⟨zs, h1, h2⟩ := k.lists c hc; ⟨zs, h1, Nat.le_trans h2 h⟩⟩
theorem But1.same {H H1 H2 : Hp} {p : Addr} (s : Same H H1) (n : H p = none) (b : But1 p H1 H2) : Same H H2 := fun c u h => b c u (ne_of_none h n) (s c u h)
section
variable {P : Program} {w : World} {K : PySem.W.Frag} {mg : Str → Option Value} {base : Heap}
def spLaw (K : PySem.W.Frag) : Sp := fun vs H Q _ => ∃ (sa : Addr) (ns : List Int), vs = [.ref sa] ∧ SqL K H sa (ns.map V.int) ∧ ns.length ≤ 63 ∧ ∀ H', Q (.bl true) H'
theorem ok_law {f f1 f2 f3 f4 f5 : Addr} {fd d1 d2 d3 d4 d5 : FuncData} {k : Nat} (F : Fun K "law" "law" slaw f fd)
    (G_law_pot : FnOk P w K mg base CX0 k f1 d1 ["script", "k"] (spPot K)) (k_law_pot : PySem.W.keepIn K (.ref f1) = true) (b_law_pot : Binds K d1 ["script", "k"] []) (m_law_pot : mg "_law_pot" = some (.ref f1))
    (G_law_row : FnOk P w K mg base CX0 k f2 d2 ["pot", "most"] spRow) (k_law_row : PySem.W.keepIn K (.ref f2) = true) (b_law_row : Binds K d2 ["pot", "most"] []) (m_law_row : mg "_law_row" = some (.ref f2))
    (G_law_loops : FnOk P w K mg base CX0 k f3 d3 ["pot", "row", "most"] spLoops) (k_law_loops : PySem.W.keepIn K (.ref f3) = true) (b_law_loops : Binds K d3 ["pot", "row", "most"] []) (m_law_loops : mg "_law_loops" = some (.ref f3))
    (Glines_of : FnOk P w K mg base CX0 k f4 d4 ["row", "loops"] spLines) (klines_of : PySem.W.keepIn K (.ref f4) = true) (blines_of : Binds K d4 ["row", "loops"] []) (mlines_of : mg "lines_of" = some (.ref f4))
    (G_law_right : FnOk P w K mg base CX0 k f5 d5 ["row", "loops", "found"] spRight) (k_law_right : PySem.W.keepIn K (.ref f5) = true) (b_law_right : Binds K d5 ["row", "loops", "found"] []) (m_law_right : mg "_law_right" = some (.ref f5))
    (mlen : mg "len" = none) (mrange : mg "range" = none) (mmax : mg "max" = none) (mmin : mg "min" = none) (mlist : mg "list" = none) (mtuple : mg "tuple" = none) : FnOk P w K mg base CX0 (k + 1) f fd ["script"] (spLaw K) := by
  refine F.ok sclaw (fun vs H Q E h => ?_) (fun cdv A' outer s H0 vs Q E hr h => ?_)
  · obtain ⟨sa, ns, rfl, _⟩ := h
    rfl
  obtain ⟨sa, ns, rfl, hsa, h63, fin⟩ := h
  refine ⟨_, (pss_cons (ps_set (i := 1) sclaw.nd rfl (.inl rfl) (pe_lst pa_nil))
    (pss_cons (ps_for PassesOwn.never rfl (pi_range1 (by rfl) mrange (pa_cons (pe_callB (call_max2 rfl) (by rfl) mmax (by decide +kernel) (pa_cons pe_int (pa_cons (pe_callB (call_min2 rfl) (by rfl) mmin (by decide +kernel) (pa_cons (pe_callB call_len_seq (by rfl) mlen (by decide +kernel) (pa_cons (pv 0) pa_nil)) (pa_cons pe_int pa_nil))) pa_nil))) pa_nil)) (pg_name (i := 2) sclaw.nd rfl (.inl rfl)) (pss_cons (ps_set (i := 3) sclaw.nd rfl (.inl rfl) (pe_call G_law_pot hr rfl m_law_pot k_law_pot b_law_pot .nil pass0 (pa_cons (pv 0) (pa_cons (pv 2) pa_nil))))
    (pss_cons (ps_set (i := 4) sclaw.nd rfl (.inl rfl) (pe_call G_law_row hr rfl m_law_row k_law_row b_law_row .nil pass0 (pa_cons (pv 3) (pa_cons pe_int pa_nil))))
    (pss_cons (ps_set (i := 5) sclaw.nd rfl (.inl rfl) (pe_call G_law_loops hr rfl m_law_loops k_law_loops b_law_loops .nil pass0 (pa_cons (pv 3) (pa_cons (pv 4) (pa_cons pe_int pa_nil)))))
    (pss_cons (ps_set (i := 6) sclaw.nd rfl (.inl rfl) (pe_callTy call_list_of (by rfl) mlist (by decide +kernel) (pa_cons (pv 5) pa_nil)))
    (pss_cons (ps_set (i := 7) sclaw.nd rfl (.inl rfl) (pe_call Glines_of hr rfl mlines_of klines_of blines_of .nil pass0 (pa_cons (pe_callTy call_list_of (by rfl) mlist (by decide +kernel) (pa_cons (pv 4) pa_nil)) (pa_cons (pv 6) pa_nil))))
    (pss_cons (ps_if (PW.pt (pw_or (pt_not (pt_val (pe_call G_law_right hr rfl m_law_right k_law_right b_law_right .nil pass0 (pa_cons (pv 4) (pa_cons (pv 5) (pa_cons (pv 7) pa_nil)))))) (pw_or1 (pt_cmpR (op_neD hr.units) (pv 6) (pv 5) (nomark _))))) (pss_one (ps_ret pe_bl)) pss_nil)
    (pss_cons (ps_set (i := 8) sclaw.nd rfl (.inl rfl) (pe_tup (pa_cons (pe_lc (own := [("line", 9)]) (g := (gName 9)) (tt := tYes) rfl sclaw.nd (pi_list (pe_ix ix_tup (pv 7) pe_int (fun _ _ => rfl))) (blkOk_by (N := ["script", "held", "k", "pot", "row", "loops", "handed", "found", "kept", "line"]) (sc := defScope slaw) (by decide +kernel)) (fun _ _ _ _ _ => (pg_name (i := 9) sclaw.nd rfl (.inl rfl))) (fun _ _ _ _ _ => pts_nil) (fun _ _ _ _ _ => (pe_callTy (r := rListQ K) call_list_of (by rfl) mlist (by decide +kernel) (pa_cons (pv 9) pa_nil)))) (pa_cons (pe_callTy call_list_of (by rfl) mlist (by decide +kernel) (pa_cons (pe_ix ix_tup (pv 7) pe_int (fun _ _ => rfl)) pa_nil)) (pa_cons (pe_callTy call_list_of (by rfl) mlist (by decide +kernel) (pa_cons (pe_ix ix_tup (pv 7) pe_int (fun _ _ => rfl)) pa_nil)) pa_nil)))))
    (pss_cons (ps_for PassesOwn.never rfl (pi_list (pe_ix ix_tup (pv 7) pe_int (fun _ _ => rfl))) (pg_name (i := 9) sclaw.nd rfl (.inl rfl)) (pss_one (ps_expr (pe_bm PySem.F.plainAttrs_list PySem.F.slot_list_append PySem.F.type_list_append mt_append (pv 9) (pa_cons pe_str pa_nil)))))
    (pss_cons (ps_expr (pe_bm PySem.F.plainAttrs_list PySem.F.slot_list_append PySem.F.type_list_append mt_append (pe_ix ix_tup (pv 7) pe_int (fun _ _ => rfl)) (pa_cons (pe_lst pa_nil) pa_nil)))
    (pss_cons (ps_expr (pe_bm PySem.F.plainAttrs_list PySem.F.slot_list_append PySem.F.type_list_append mt_append (pe_ix ix_tup (pv 7) pe_int (fun _ _ => rfl)) (pa_cons (pe_tup (pa_cons pe_int (pa_cons pe_int pa_nil))) pa_nil)))
    (pss_cons (ps_expr (pe_bm PySem.F.plainAttrs_list PySem.F.slot_list_append PySem.F.type_list_append mt_append (pe_ix ix_tup (pv 7) pe_int (fun _ _ => rfl)) (pa_cons pe_int pa_nil)))
    (pss_cons (ps_expr (pe_bm0 PySem.F.plainAttrs_list PySem.F.slot_list_clear PySem.F.type_list_clear mt_clear (pv 6)))
    (pss_one (ps_expr (pe_bm PySem.F.plainAttrs_list PySem.F.slot_list_append PySem.F.type_list_append mt_append (pv 1) (pa_cons (pe_tup (pa_cons (pv 4) (pa_cons (pv 5) (pa_cons (pv 8) pa_nil)))) pa_nil)))))))))))))))))
    (pss_cons (ps_for PassesOwn.never rfl (pi_list (pv 1)) (pg_tup rfl (pgs_cons (pg_name (i := 4) sclaw.nd rfl (.inl rfl)) (pgs_cons (pg_name (i := 5) sclaw.nd rfl (.inl rfl)) (pgs_cons (pg_name (i := 8) sclaw.nd rfl (.inl rfl)) pgs_nil)))) (pss_cons (ps_if (pt_cmpR (op_neD hr.units) (pe_call Glines_of hr rfl mlines_of klines_of blines_of .nil pass0 (pa_cons (pe_callTy call_list_of (by rfl) mlist (by decide +kernel) (pa_cons (pv 4) pa_nil)) (pa_cons (pe_callTy call_list_of (by rfl) mlist (by decide +kernel) (pa_cons (pv 5) pa_nil)) pa_nil))) (pv 8) (nomark _)) (pss_one (ps_ret pe_bl)) pss_nil)
    (pss_one (ps_if (pt_not (pt_val (pe_call G_law_right hr rfl m_law_right k_law_right b_law_right .nil pass0 (pa_cons (pv 4) (pa_cons (pv 5) (pa_cons (pe_call Glines_of hr rfl mlines_of klines_of blines_of .nil pass0 (pa_cons (pe_callTy call_tuple_of (by rfl) mtuple (by decide +kernel) (pa_cons (pv 4) pa_nil)) (pa_cons (pe_callTy call_tuple_of (by rfl) mtuple (by decide +kernel) (pa_cons (pv 5) pa_nil)) pa_nil))) pa_nil)))))) (pss_one (ps_ret pe_bl)) pss_nil))))
    (pss_one (ps_ret pe_bl))))), ?_⟩
  have eln : (ns.map V.int).length = ns.length := List.length_map _
  refine ⟨Nat.zero_le _, fun hd nhd => ?_⟩
  have s1 : Same H0 (upd H0 hd (.lst [])) := same_new nhd
  refine ⟨_, rfl, sa, _, rfl, .inl (s1.seq hsa), _, _, rfl, _, _, rfl, ?_⟩
  rw [eln]
  obtain ⟨N, eN, n5⟩ : ∃ N : Nat, (if (if (5 : Int) < (ns.length : Int) then 5 else (ns.length : Int)) > 1 then (if (5 : Int) < (ns.length : Int) then 5 else (ns.length : Int)) else 1) = (N : Int) ∧ N ≤ 5 := by
    by_cases c : (5 : Int) < (ns.length : Int)
    · rw [if_pos c]
      exact ⟨5, rfl, Nat.le_refl _⟩
    · rw [if_neg c]
      by_cases c2 : (ns.length : Int) > 1
      · rw [if_pos c2]
        exact ⟨ns.length, rfl, by omega⟩
      · rw [if_neg c2]
        exact ⟨1, rfl, by decide⟩
  rw [eN]
  refine ⟨_, rfl, by omega, by omega, ?_⟩
  rw [Int.toNat_natCast]
  refine for_range (lo := 0) (n := N) (fun i σ H => ∃ (y2 y3 y4 y5 y6 y7 y8 y9 : Option V) (hs : List Addr), σ = [some (.ref sa), some (.ref hd), y2, y3, y4, y5, y6, y7, y8, y9] ∧ Same H0 H ∧ H hd = some (.lst (hs.map V.ref)) ∧ hs.length = i ∧ ∀ h ∈ hs, HeldAt (rem H hd) h)
    ⟨none, none, none, none, none, none, none, none, [], rfl, s1, upd_same, rfl, by simp⟩ (fun i σ H hi ⟨y2, y3, y4, y5, y6, y7, y8, y9, hs, e, s0, hhd, hsl, held⟩ => ?_) (fun σ H ⟨y2, y3, y4, y5, y6, y7, y8, y9, hs, e, s0, hhd, hsl, held⟩ => ?_)
  · subst e
    rw [Int.zero_add]
    -- the draws
    refine ⟨_, rfl, _, rfl, sa, ns, i, rfl, s0.seq hsa, by omega, fun p a b np okp => ?_⟩
    have s01 : Same H (upd H p (.lst [.int a, .int b])) := same_new np
    have P1 : Pot (upd H p (.lst [.int a, .int b])) p := ⟨a, b, upd_same, okp⟩
    generalize upd H p (.lst [.int a, .int b]) = H1 at *
    refine ⟨_, rfl, p, rfl, P1, fun ra row H2 nra hra rok P2 b2 => ?_⟩
    have s02 := But1.same s01 np b2
    have rap : ra ≠ p := P2.ne_strs hra
    refine ⟨_, rfl, _, rfl, p, ra, row, rfl, P2, hra, rok, fun la ps ls H3 nla hla hps h12 hok P3 b3 => ?_⟩
    have s03 := But1.same s02 np b3
    have hra3 := b3 _ _ rap hra
    obtain ⟨few3, few1⟩ := lines_few (row := row) h12
    have l40 := rok.len
    -- handed, found
    refine ⟨_, rfl, la, _, rfl, .inl (SqL.of hla), fun ha nha => ?_⟩
    have s34 : Same H3 (upd H3 ha (.lst (ps.map V.ref))) := same_new nha
    have hha4 : upd H3 ha (.lst (ps.map V.ref)) ha = some (.lst (ps.map V.ref)) := upd_same
    generalize upd H3 ha (.lst (ps.map V.ref)) = H4 at *
    refine ⟨_, rfl, ra, _, rfl, .inl (SqL.of (s34 _ _ hra3)), fun rb nrb => ?_⟩
    have s45 : Same H4 (upd H4 rb (.lst (row.map V.str))) := same_new nrb
    have hrb5 : upd H4 rb (.lst (row.map V.str)) rb = some (.lst (row.map V.str)) := upd_same
    generalize upd H4 rb (.lst (row.map V.str)) = H5 at *
    have s35 := s34.trans s45
    refine ⟨_, rfl, rb, ha, true, true, row, ps, ls, rfl, hrb5, rok, s45 _ _ hha4, hps.same s35, h12, hok, fun H6 t l1 l2 l3 lns sts s56 told nl1 nl2 nl3 nlns => ?_⟩
    have s36 := s35.trans s56
    -- it is right
    refine ⟨_, rfl, _, rfl, _, rfl, ra, la, t, l1, l2, l3, row, ps, lns, sts, ls, rfl, s36 _ _ hra3, rok, s36 _ _ hla, hps.same s36, h12, hok, told, fun H7 s67 => ⟨_, rfl, iteF ?_⟩⟩
    have s37 := s36.trans s67
    have hha7 := s67 _ _ (s56 _ _ (s45 _ _ hha4))
    have shp := shaped_lps rok hok
    refine ⟨_, rfl, _, rfl, dLps ls, dLps ls, dp_lps (hps.same s37) hha7, dp_lps (hps.same s37) (s37 _ _ hla), shp, shp, _, rfl, ?_⟩
    rw [refl_shaped shp]
    refine iteF ?_
    have told7 := told.same s67
    -- kept
    refine ⟨_, rfl, t, _, 0, _, rfl, rfl, SqT.of told7.t, atI_nat (j := 0) rfl, l1, rfl, ⟨_, SqL.of told7.l1⟩, fun k1 nk1 => ?_⟩
    have lenl : (lns.map V.ref).length = (linesF row ls).length := by rw [List.length_map, told.lns.len]
    refine lc_list (xs := lns.map V.ref) (fun j H8 => ∃ kl : List Addr, Same H7 H8 ∧ H8 k1 = some (.lst (kl.map V.ref)) ∧ TxtsAt H8 kl ((linesF row ls).take j) ∧ k1 ∉ kl ∧ ∀ q ∈ kl, H7 q = none)
      ⟨[], same_new nk1, upd_same, ⟨rfl, fun i p l a b => nomatch a⟩, by simp, by simp⟩ (fun j H8 _ ⟨_, q, _⟩ => SqL.of (q _ _ told7.l1)) (fun j x H8 hx ⟨kl, s78, hk1, htx, nin, nfr⟩ => ?_) (fun H8 ⟨kl, s78, hk1, htx, nin, nfr⟩ => ?_)
    · obtain ⟨q, hq, rfl⟩ := map_at hx
      have hj : j < (linesF row ls).length := by rw [← told.lns.len]; exact lt_of_at hq
      have hl := List.getElem?_eq_getElem hj
      have hq8 := s78 _ _ (told7.lns.at' j q _ hq hl)
      refine ⟨rfl, _, rfl, q, _, rfl, .inl (SqL.of hq8), fun n nn => ?_⟩
      have lenk : kl.length = j := by rw [htx.len, List.length_take]; omega
      have nk : n ≠ k1 := (ne_of_none hk1 nn).symm
      have s89 := same_new (H := H8) (o := .lst ((linesF row ls)[j].map V.str)) nn
      refine ⟨_, s89 _ _ hk1, by rw [List.length_map]; exact small1000 (by omega), kl ++ [n], fun b' u q => ?_, by rw [upd_same, List.map_append]; rfl, ?_, fun z => ?_, fun z hz => ?_⟩
      · rw [upd_ne (ne_of_none q nk1)]
        exact s89 _ _ (s78 _ _ q)
      · rw [take_snoc hl]
        refine TxtsAt.snoc ((htx.same s89).keep fun p hp o q => by rw [upd_ne (fun e : p = k1 => nin (e ▸ hp))]; exact q) ?_
        rw [upd_ne nk]
        exact upd_same
      · rcases List.mem_append.mp z with z | z
        · exact nin z
        · exact nk (List.mem_singleton.mp z).symm
      · rcases List.mem_append.mp hz with hz | hz
        · exact nfr z hz
        · rw [List.mem_singleton.mp hz]
          exact s78.free nn
    rw [lenl, List.take_length] at htx
    have told8 := told7.same s78
    refine ⟨_, rfl, t, _, 1, _, rfl, rfl, SqT.of told8.t, atI_nat (j := 1) rfl, l2, _, rfl, .inl (SqL.of told8.l2), fun k2 nk2 => ?_⟩
    have s8a := same_new (H := H8) (o := .lst (sts.map V.ref)) nk2
    have hk2 : upd H8 k2 (.lst (sts.map V.ref)) k2 = some (.lst (sts.map V.ref)) := upd_same
    generalize upd H8 k2 (.lst (sts.map V.ref)) = Ha at *
    have told8a := told8.same s8a
    refine ⟨_, rfl, t, _, 2, _, rfl, rfl, SqT.of told8a.t, atI_nat (j := 2) rfl, l3, _, rfl, .inl (SqL.of told8a.l3), fun k3 nk3 => ?_⟩
    have sab := same_new (H := Ha) (o := .lst (nsV (apartF ls))) nk3
    have hk3 : upd Ha k3 (.lst (nsV (apartF ls))) k3 = some (.lst (nsV (apartF ls))) := upd_same
    generalize upd Ha k3 (.lst (nsV (apartF ls))) = Hb at *
    refine ⟨by show 3 ≤ sizeLine; decide, fun kt nkt => ?_⟩
    have sb9 := same_new (H := Hb) (o := .tup [.ref k1, .ref k2, .ref k3]) nkt
    have hkt : upd Hb kt (.tup [.ref k1, .ref k2, .ref k3]) kt = some (.tup [.ref k1, .ref k2, .ref k3]) := upd_same
    generalize upd Hb kt (.tup [.ref k1, .ref k2, .ref k3]) = H9 at *
    have sa9 := sab.trans sb9
    have s89 := s8a.trans sa9
    have s79 := s78.trans s89
    have s39 := s37.trans s79
    have told9 := told7.same s79
    have keep9 : ToldAt H9 kt k1 k2 k3 kl sts row ls := ⟨hkt, s89 _ _ hk1, htx.same s89, sa9 _ _ hk2, told9.sts, sb9 _ _ hk3⟩
    have nk27 : H7 k2 = none := s78.free nk2
    have nk37 : H7 k3 = none := (s78.trans s8a).free nk3
    have nkt7 : H7 kt = none := (s78.trans (s8a.trans sab)).free nkt
    -- what is changed
    obtain ⟨S, hS⟩ : ∃ S : Addr → Prop, S = fun b => b = l1 ∨ b = l2 ∨ b = l3 ∨ b ∈ lns ∨ b = ha := ⟨_, rfl⟩
    have S1 : S l1 := by rw [hS]; exact .inl rfl
    have S2 : S l2 := by rw [hS]; exact .inr (.inl rfl)
    have S3 : S l3 := by rw [hS]; exact .inr (.inr (.inl rfl))
    have S4 : ∀ q ∈ lns, S q := fun q hq => by rw [hS]; exact .inr (.inr (.inr (.inl hq)))
    have S5 : S ha := by rw [hS]; exact .inr (.inr (.inr (.inr rfl)))
    have free3 : ∀ b, S b → H3 b = none := fun b h => by
      rw [hS] at h
      rcases h with h | h | h | h | h
      · rw [h]; exact s35.free nl1
      · rw [h]; exact s35.free nl2
      · rw [h]; exact s35.free nl3
      · exact s35.free (nlns b h)
      · rw [h]; exact nha
    have lists7 : ∀ b, S b → ∃ xs : List V, H7 b = some (.lst xs) ∧ xs.length ≤ 40 := fun b h => by
      rw [hS] at h
      rcases h with h | h | h | h | h
      · rw [h]; exact ⟨_, told7.l1, by rw [lenl]; omega⟩
      · rw [h]; exact ⟨_, told7.l2, by rw [List.length_map, told.sts.len, seatsOf, List.length_map, List.length_range]; omega⟩
      · rw [h]; exact ⟨_, told7.l3, by rw [List.length_map]; omega⟩
      · obtain ⟨j, hj⟩ := List.getElem?_of_mem h
        have hj2 : j < (linesF row ls).length := by rw [← told.lns.len]; exact lt_of_at hj
        have pm : ((linesF row ls)[j]).length = row.length := (K44.lines_perm (C := cOf ls) (N := ls.length) rok.nd _ (List.getElem_mem hj2)).length_eq
        exact ⟨_, told7.lns.at' j b _ hj (List.getElem?_eq_getElem hj2), by rw [List.length_map]; omega⟩
      · rw [h]; exact ⟨_, hha7, by rw [List.length_map, hps.len]; omega⟩
    have out7 : ∀ b, H7 b = none → ¬ S b := fun b h q => by
      obtain ⟨xs, e, _⟩ := lists7 b q
      rw [h] at e
      exact nomatch e
    have outT : ∀ b xs, H9 b = some (.tup xs) → ¬ S b := fun b xs h q => by
      obtain ⟨ys, e, _⟩ := lists7 b q
      rw [s79 _ _ e] at h
      exact nomatch h
    have out3 : ∀ b u, H3 b = some u → ¬ S b := fun b u h q => by
      rw [free3 b q] at h
      exact nomatch h
    have keep0 : Keeps S 40 H9 H9 := ⟨fun _ _ _ q => q, fun b h => let ⟨xs, e, l⟩ := lists7 b h; ⟨xs, s79 _ _ e, l⟩⟩
    have tS := outT _ _ told9.t
    have l1p : ∀ q ∈ lns, q ≠ l1 := fun q hq e => by
      obtain ⟨j, hj⟩ := List.getElem?_of_mem hq
      have hj2 : j < (linesF row ls).length := by rw [← told.lns.len]; exact lt_of_at hj
      have h1 := told7.lns.at' j q _ hj (List.getElem?_eq_getElem hj2)
      rw [e, told7.l1] at h1
      have h2 := HO.lst.inj (Option.some.inj h1)
      have h3 : V.ref q ∈ lns.map V.ref := List.mem_map.mpr ⟨q, hq, rfl⟩
      rw [h2] at h3
      obtain ⟨z, _, hz⟩ := List.mem_map.mp h3
      exact nomatch hz
    -- a sign behind each line
    refine ⟨_, rfl, t, _, 0, _, rfl, rfl, SqT.of told9.t, atI_nat (j := 0) rfl, l1, rfl, ⟨_, SqL.of told9.l1⟩, ?_⟩
    refine for_list (xs := lns.map V.ref) (fun j σ H' => ∃ y9 : Option V, σ = [some (.ref sa), some (.ref hd), some (nV i), some (.ref p), some (.ref ra), some (.ref la), some (.ref ha), some (.ref t), some (.ref kt), y9] ∧ Keeps S (40 + j) H9 H' ∧ H' l1 = some (.lst (lns.map V.ref)))
      ⟨_, rfl, keep0, told9.l1⟩ (fun j σ H' _ ⟨_, _, _, q⟩ => SqL.of q) (fun j x σ H' hx ⟨y9, e, kp, hl1⟩ => ?_) (fun σ H' ⟨y9, e, kp, hl1⟩ => ?_)
    · subst e
      obtain ⟨q, hq, rfl⟩ := map_at hx
      have hj : j < lns.length := lt_of_at hq
      have hqm : q ∈ lns := List.mem_of_getElem? hq
      obtain ⟨xs, hxs, lxs⟩ := kp.lists q (S4 q hqm)
      have : lns.length ≤ 12 := by rw [told.lns.len]; exact few1
      refine ⟨_, rfl, .inl ⟨rfl, _, SqL.of hxs⟩, q, xs, _, rfl, rfl, hxs, small1000 (by omega), ?_⟩
      refine ⟨_, rfl, kp.app (S4 q hqm) (by rw [List.length_append]; show xs.length + 1 ≤ _; omega), ?_⟩
      rw [upd_ne (l1p q hqm).symm]
      exact hl1
    subst e
    have kp : Keeps S 60 H9 H' := kp.mono (by rw [lenl]; omega)
    -- found[0].append([])
    obtain ⟨xs1, hxs1, lxs1⟩ := kp.lists l1 S1
    refine ⟨_, rfl, t, _, 0, _, rfl, rfl, SqT.of (kp.out _ _ tS told9.t), atI_nat (j := 0) rfl, .inl ⟨rfl, _, SqL.of hxs1⟩, Nat.zero_le _, fun e1 ne1 => ?_⟩
    have kp := kp.new (o := .lst []) ne1
    refine ⟨l1, xs1, _, rfl, rfl, same_new ne1 _ _ hxs1, small1000 (by omega), ?_⟩
    have kp := kp.app (xs := xs1 ++ [.ref e1]) S1 (by rw [List.length_append]; show xs1.length + 1 ≤ _; omega)
    generalize upd (upd H' e1 (.lst [])) l1 (.lst (xs1 ++ [.ref e1])) = Hc at *
    -- found[1].append((0, 0))
    obtain ⟨xs2, hxs2, lxs2⟩ := kp.lists l2 S2
    refine ⟨_, rfl, t, _, 1, _, rfl, rfl, SqT.of (kp.out _ _ tS told9.t), atI_nat (j := 1) rfl, .inl ⟨rfl, _, SqL.of hxs2⟩, (by show 2 ≤ sizeLine; decide), fun e2 ne2 => ?_⟩
    have kp := kp.new (o := .tup [.int 0, .int 0]) ne2
    refine ⟨l2, xs2, _, rfl, rfl, same_new ne2 _ _ hxs2, small1000 (by omega), ?_⟩
    have kp := kp.app (xs := xs2 ++ [.ref e2]) S2 (by rw [List.length_append]; show xs2.length + 1 ≤ _; omega)
    generalize upd (upd Hc e2 (.tup [.int 0, .int 0])) l2 (.lst (xs2 ++ [.ref e2])) = Hd at *
    -- found[2].append(0)
    obtain ⟨xs3, hxs3, lxs3⟩ := kp.lists l3 S3
    refine ⟨_, rfl, t, _, 2, _, rfl, rfl, SqT.of (kp.out _ _ tS told9.t), atI_nat (j := 2) rfl, .inl ⟨rfl, _, SqL.of hxs3⟩, l3, xs3, _, rfl, rfl, hxs3, small1000 (by omega), ?_⟩
    have kp := kp.app (xs := xs3 ++ [.int 0]) S3 (by rw [List.length_append]; show xs3.length + 1 ≤ _; omega)
    generalize upd Hd l3 (.lst (xs3 ++ [.int 0])) = He at *
    -- handed.clear()
    obtain ⟨xs4, hxs4, lxs4⟩ := kp.lists ha S5
    refine ⟨_, rfl, .inl ⟨rfl, _, SqL.of hxs4⟩, ha, xs4, rfl, rfl, hxs4, ?_⟩
    have kp := kp.app (xs := []) S5 (Nat.zero_le _)
    generalize upd He ha (.lst []) = Hf at *
    -- held
    have hhd3 := s03 _ _ hhd
    have hhdf := kp.out _ _ (out3 _ _ hhd3) (s39 _ _ hhd3)
    refine ⟨_, rfl, .inl ⟨rfl, _, SqL.of hhdf⟩, _, rfl, _, rfl, _, rfl, (by show 3 ≤ sizeLine; decide), fun h nh => ?_⟩
    have hhn : hd ≠ h := ne_of_none hhdf nh
    refine ⟨hd, hs.map V.ref, _, rfl, rfl, same_new nh _ _ hhdf, by rw [List.length_map]; exact small1000 (by omega), ?_⟩
    -- what stands when the round is over
    have stay : ∀ b u, b ≠ hd → ¬ S b → H9 b = some u → rem (upd (upd Hf h (.tup [.ref ra, .ref la, .ref kt])) hd (.lst (hs.map V.ref ++ [.ref h]))) hd b = some u := fun b u n1 n2 q => by
      refine rem_of n1 ?_
      rw [upd_ne n1]
      exact same_new nh _ _ (kp.out b u n2 q)
    have stay3 : ∀ b u, b ≠ hd → H3 b = some u → rem (upd (upd Hf h (.tup [.ref ra, .ref la, .ref kt])) hd (.lst (hs.map V.ref ++ [.ref h]))) hd b = some u := fun b u n1 q => stay b u n1 (out3 b u q) (s39 _ _ q)
    have old : Same (rem H hd) (rem (upd (upd Hf h (.tup [.ref ra, .ref la, .ref kt])) hd (.lst (hs.map V.ref ++ [.ref h]))) hd) := fun b u q => by
      have n1 : b ≠ hd := fun e => by
        rw [e] at q
        unfold rem at q
        rw [if_pos rfl] at q
        exact nomatch q
      exact stay3 b u n1 (s03 _ _ (rem_sub _ _ q))
    have hdne : ∀ b, H7 b = none → b ≠ hd := fun b q e => by
      rw [e, s37 _ _ hhd3] at q
      exact nomatch q
    have hdneT : ∀ b xs, H9 b = some (.tup xs) → b ≠ hd := fun b xs q e => by
      rw [e, s39 _ _ hhd3] at q
      exact nomatch q
    have tups : ∀ b xs, H9 b = some (.tup xs) → rem (upd (upd Hf h (.tup [.ref ra, .ref la, .ref kt])) hd (.lst (hs.map V.ref ++ [.ref h]))) hd b = some (.tup xs) := fun b xs q => stay b _ (hdneT b xs q) (outT b xs q) q
    have news : ∀ b u, H7 b = none → H9 b = some u → rem (upd (upd Hf h (.tup [.ref ra, .ref la, .ref kt])) hd (.lst (hs.map V.ref ++ [.ref h]))) hd b = some u := fun b u n q => stay b u (hdne b n) (out7 b n) q
    refine ⟨_, _, _, _, _, _, _, _, hs ++ [h], rfl, fun b u q => ?_, by rw [upd_same, List.map_append]; rfl, by rw [List.length_append, hsl]; rfl, fun z hz => ?_⟩
    · have n1 : b ≠ hd := ne_of_none q nhd
      exact rem_sub _ _ (stay3 b u n1 (s03 _ _ (s0 _ _ q)))
    · rcases List.mem_append.mp hz with hz | hz
      · exact (held z hz).same old
      · rw [List.mem_singleton.mp hz]
        have ran : ra ≠ hd := fun e => by
          rw [e, s01 _ _ hhd] at nra
          exact nomatch nra
        have lan : la ≠ hd := fun e => by
          rw [e, s02 _ _ hhd] at nla
          exact nomatch nla
        refine ⟨ra, la, kt, k1, k2, k3, row, ps, kl, sts, ls, rem_of hhn.symm (by rw [upd_ne hhn.symm]; exact upd_same), stay3 _ _ ran hra3, rok, stay3 _ _ lan hla, ⟨hps.len, fun i q l a b => ?_⟩, h12, hok, tups _ _ keep9.t, news _ _ nk1 keep9.l1, keep9.lns.keep fun q hq o e => news _ _ (nfr q hq) e, news _ _ nk27 keep9.l2, ⟨keep9.sts.len, fun i q l a b => tups _ _ (keep9.sts.at' i q l a b)⟩, news _ _ nk37 keep9.l3⟩
        obtain ⟨c, q1, q2⟩ := (hps.same s39).at' i q l a b
        exact ⟨c, tups _ _ q1, tups _ _ q2⟩
  · subst e
    have held : ∀ h ∈ hs, HeldAt H h := fun h hh => (held h hh).same rem_sub
    refine ⟨_, rfl, hd, rfl, ⟨_, SqL.of hhd⟩, ?_⟩
    refine for_list (xs := hs.map V.ref) (fun j σ H' => ∃ (y4 y5 y8 : Option V), σ = [some (.ref sa), some (.ref hd), y2, y3, y4, y5, y6, y7, y8, y9] ∧ Same H H') ⟨y4, y5, y8, rfl, Same.refl H⟩ (fun j σ H' _ ⟨_, _, _, _, q⟩ => SqL.of (q _ _ hhd)) (fun j x σ H' hx ⟨y4, y5, y8, e, s1⟩ => ?_) (fun σ H' ⟨y4, y5, y8, e, s1⟩ => ?_)
    · subst e
      obtain ⟨h, hh, rfl⟩ := map_at hx
      obtain ⟨ra, la, kt, k1, k2, k3, row, ps, kl, sts, ls, hh, hra, rok, hla, hps, h12, hok, keep⟩ := (held h (List.mem_of_getElem? hh)).same s1
      refine ⟨h, [.ref ra, .ref la, .ref kt], rfl, SqT.of hh, rfl, .ref ra, [.ref la, .ref kt], rfl, .ref la, [.ref kt], rfl, .ref kt, [], rfl, rfl, ?_⟩
      refine ⟨_, rfl, ra, _, rfl, .inl (SqL.of hra), fun rb nrb => ?_⟩
      have s2 := same_new (H := H') (o := .lst (row.map V.str)) nrb
      refine ⟨_, rfl, la, _, rfl, .inl (SqL.of (s2 _ _ hla)), fun lb nlb => ?_⟩
      have s23 := same_new (H := upd H' rb (.lst (row.map V.str))) (o := .lst (ps.map V.ref)) nlb
      have s3 := s2.trans s23
      refine ⟨rb, lb, true, true, row, ps, ls, rfl, s23 _ _ upd_same, rok, upd_same, hps.same s3, h12, hok, fun H3 t l1 l2 l3 lns sts s34 told _ _ _ _ => ?_⟩
      have s4 := s3.trans s34
      have shp := shaped_told (ls := ls) rok
      refine ⟨_, rfl, dTold row ls, dTold row ls, dp_told told, dp_told (keep.same s4), shp, shp, _, rfl, ?_⟩
      rw [refl_shaped shp]
      refine iteF ?_
      refine ⟨_, rfl, _, rfl, _, rfl, ra, _, rfl, .inl ⟨SqL.of (s4 _ _ hra), fun rt nrt => ?_⟩⟩
      have s45 := same_new (H := H3) (o := .tup (row.map V.str)) nrt
      refine ⟨_, rfl, la, _, rfl, .inl ⟨SqL.of (s45 _ _ (s4 _ _ hla)), fun lt nlt => ?_⟩⟩
      have s56 := same_new (H := upd H3 rt (.tup (row.map V.str))) (o := .tup (ps.map V.ref)) nlt
      have s6 := s4.trans (s45.trans s56)
      refine ⟨rt, lt, false, false, row, ps, ls, rfl, s56 _ _ upd_same, rok, upd_same, hps.same s6, h12, hok, fun H7 t l1 l2 l3 lns sts s67 told _ _ _ _ => ?_⟩
      have s7 := s6.trans s67
      exact ⟨ra, la, t, l1, l2, l3, row, ps, lns, sts, ls, rfl, s7 _ _ hra, rok, s7 _ _ hla, hps.same s7, h12, hok, told, fun H8 s8 => ⟨_, rfl, iteF ⟨_, _, _, rfl, s1.trans (s7.trans s8)⟩⟩⟩
    · subst e
      exact fin H'
end
end W44
set_option Elab.async false
set_option linter.all false
set_option maxRecDepth 100000
set_option maxHeartbeats 16000000
/-! the top: the defs stand there, their contracts joined -/
namespace W44
open PySem PySem.Spec PyProof.Rows L2 KIt
theorem all_mk {l : PySem.W.OpenLaw} {w : World} {K : PySem.W.Frag} {h : Heap} {mg : Str → Option Value} {fa aR : Addr} {tM : Tok} {dR : Option Addr} {itsR : Array Value} {nR : Nat} {slR : Array (Option Value)} (X : K.In h) (G : h.Ns mainGlobals mg) (hfa : mg "law" = some (.ref fa))
    {f1 f2 f3 f4 f5 f6 f7 f8 f9 f10 f11 f12 f13 f14 f15 f16 f17 f18 f19 f20 f21 f22 f23 f24 f25 f26 f27 : Addr}
    {od1 an1 od2 an2 od3 an3 od4 an4 od5 an5 od6 an6 od7 an7 od8 an8 od9 an9 od10 an10 od11 an11 od12 an12 od13 an13 od14 an14 od15 an15 od16 an16 od17 an17 od18 an18 od19 an19 od20 an20 od21 an21 od22 an22 od23 an23 od24 an24 od25 an25 od26 an26 od27 an27 : Option Addr} {sl1 sl2 sl3 sl4 sl5 sl6 sl7 sl8 sl9 sl10 sl11 sl12 sl13 sl14 sl15 sl16 sl17 sl18 sl19 sl20 sl21 sl22 sl23 sl24 sl25 sl26 sl27 : Array (Option Value)}
    {oc1 kV1 dc1 pm1 cd1 ct1 oc2 kV2 dc2 pm2 cd2 ct2 oc3 kV3 dc3 pm3 cd3 ct3 oc4 kV4 dc4 pm4 cd4 ct4 oc5 kV5 dc5 pm5 cd5 ct5 oc6 kV6 dc6 pm6 cd6 ct6 oc7 kV7 dc7 pm7 cd7 ct7 oc8 kV8 dc8 pm8 cd8 ct8 oc9 kV9 dc9 pm9 cd9 ct9 oc10 kV10 dc10 pm10 cd10 ct10 oc11 kV11 dc11 pm11 cd11 ct11 oc12 kV12 dc12 pm12 cd12 ct12 oc13 kV13 dc13 pm13 cd13 ct13 oc14 kV14 dc14 pm14 cd14 ct14 oc15 kV15 dc15 pm15 cd15 ct15 oc16 kV16 dc16 pm16 cd16 ct16 oc17 kV17 dc17 pm17 cd17 ct17 oc18 kV18 dc18 pm18 cd18 ct18 oc19 kV19 dc19 pm19 cd19 ct19 oc20 kV20 dc20 pm20 cd20 ct20 oc21 kV21 dc21 pm21 cd21 ct21 oc22 kV22 dc22 pm22 cd22 ct22 oc23 kV23 dc23 pm23 cd23 ct23 oc24 kV24 dc24 pm24 cd24 ct24 oc25 kV25 dc25 pm25 cd25 ct25 oc26 kV26 dc26 pm26 cd26 ct26 oc27 kV27 dc27 pm27 cd27 ct27 : Value}
    (a1 : PySem.W.nsIn K mainGlobals "is_within" = some (some (.ref f1))) (l1 : K.lookup f1 = some ⟨oc1, od1, .func (PySem.W.fnOf "is_within" "is_within" (defArgs sWithin) (defBody sWithin) (defScope sWithin) .none kV1 dc1 pm1 an1 cd1 ct1), sl1⟩) (c1 : PySem.W.codeIn K cd1 "is_within" = true) (k1 : PySem.W.keepIn K (.ref f1) = true)
    (a2 : PySem.W.nsIn K mainGlobals "stands_under" = some (some (.ref f2))) (l2 : K.lookup f2 = some ⟨oc2, od2, .func (PySem.W.fnOf "stands_under" "stands_under" (defArgs sstands_under) (defBody sstands_under) (defScope sstands_under) .none kV2 dc2 pm2 an2 cd2 ct2), sl2⟩) (c2 : PySem.W.codeIn K cd2 "stands_under" = true) (k2 : PySem.W.keepIn K (.ref f2) = true)
    (a3 : PySem.W.nsIn K mainGlobals "is_loop" = some (some (.ref f3))) (l3 : K.lookup f3 = some ⟨oc3, od3, .func (PySem.W.fnOf "is_loop" "is_loop" (defArgs sis_loop) (defBody sis_loop) (defScope sis_loop) .none kV3 dc3 pm3 an3 cd3 ct3), sl3⟩) (c3 : PySem.W.codeIn K cd3 "is_loop" = true) (k3 : PySem.W.keepIn K (.ref f3) = true)
    (a4 : PySem.W.nsIn K mainGlobals "look_at_loops" = some (some (.ref f4))) (l4 : K.lookup f4 = some ⟨oc4, od4, .func (PySem.W.fnOf "look_at_loops" "look_at_loops" (defArgs slook_at_loops) (defBody slook_at_loops) (defScope slook_at_loops) .none kV4 dc4 pm4 an4 cd4 ct4), sl4⟩) (c4 : PySem.W.codeIn K cd4 "look_at_loops" = true) (k4 : PySem.W.keepIn K (.ref f4) = true)
    (a5 : PySem.W.nsIn K mainGlobals "seated" = some (some (.ref f5))) (l5 : K.lookup f5 = some ⟨oc5, od5, .func (PySem.W.fnOf "seated" "seated" (defArgs sseated) (defBody sseated) (defScope sseated) .none kV5 dc5 pm5 an5 cd5 ct5), sl5⟩) (c5 : PySem.W.codeIn K cd5 "seated" = true) (k5 : PySem.W.keepIn K (.ref f5) = true)
    (a6 : PySem.W.nsIn K mainGlobals "paired" = some (some (.ref f6))) (l6 : K.lookup f6 = some ⟨oc6, od6, .func (PySem.W.fnOf "paired" "paired" (defArgs spaired) (defBody spaired) (defScope spaired) .none kV6 dc6 pm6 an6 cd6 ct6), sl6⟩) (c6 : PySem.W.codeIn K cd6 "paired" = true) (k6 : PySem.W.keepIn K (.ref f6) = true)
    (a7 : PySem.W.nsIn K mainGlobals "gone_over" = some (some (.ref f7))) (l7 : K.lookup f7 = some ⟨oc7, od7, .func (PySem.W.fnOf "gone_over" "gone_over" (defArgs sgone_over) (defBody sgone_over) (defScope sgone_over) .none kV7 dc7 pm7 an7 cd7 ct7), sl7⟩) (c7 : PySem.W.codeIn K cd7 "gone_over" = true) (k7 : PySem.W.keepIn K (.ref f7) = true)
    (a8 : PySem.W.nsIn K mainGlobals "chains_of" = some (some (.ref f8))) (l8 : K.lookup f8 = some ⟨oc8, od8, .func (PySem.W.fnOf "chains_of" "chains_of" (defArgs schains_of) (defBody schains_of) (defScope schains_of) .none kV8 dc8 pm8 an8 cd8 ct8), sl8⟩) (c8 : PySem.W.codeIn K cd8 "chains_of" = true) (k8 : PySem.W.keepIn K (.ref f8) = true)
    (a9 : PySem.W.nsIn K mainGlobals "line_by" = some (some (.ref f9))) (l9 : K.lookup f9 = some ⟨oc9, od9, .func (PySem.W.fnOf "line_by" "line_by" (defArgs sline_by) (defBody sline_by) (defScope sline_by) .none kV9 dc9 pm9 an9 cd9 ct9), sl9⟩) (c9 : PySem.W.codeIn K cd9 "line_by" = true) (k9 : PySem.W.keepIn K (.ref f9) = true)
    (a10 : PySem.W.nsIn K mainGlobals "lines_of" = some (some (.ref f10))) (l10 : K.lookup f10 = some ⟨oc10, od10, .func (PySem.W.fnOf "lines_of" "lines_of" (defArgs slines_of) (defBody slines_of) (defScope slines_of) .none kV10 dc10 pm10 an10 cd10 ct10), sl10⟩) (c10 : PySem.W.codeIn K cd10 "lines_of" = true) (k10 : PySem.W.keepIn K (.ref f10) = true)
    (a11 : PySem.W.nsIn K mainGlobals "_law_pot" = some (some (.ref f11))) (l11 : K.lookup f11 = some ⟨oc11, od11, .func (PySem.W.fnOf "_law_pot" "_law_pot" (defArgs s_law_pot) (defBody s_law_pot) (defScope s_law_pot) .none kV11 dc11 pm11 an11 cd11 ct11), sl11⟩) (c11 : PySem.W.codeIn K cd11 "_law_pot" = true) (k11 : PySem.W.keepIn K (.ref f11) = true)
    (a12 : PySem.W.nsIn K mainGlobals "_law_take" = some (some (.ref f12))) (l12 : K.lookup f12 = some ⟨oc12, od12, .func (PySem.W.fnOf "_law_take" "_law_take" (defArgs s_law_take) (defBody s_law_take) (defScope s_law_take) .none kV12 dc12 pm12 an12 cd12 ct12), sl12⟩) (c12 : PySem.W.codeIn K cd12 "_law_take" = true) (k12 : PySem.W.keepIn K (.ref f12) = true)
    (a13 : PySem.W.nsIn K mainGlobals "_law_letters" = some (some (.ref f13))) (l13 : K.lookup f13 = some ⟨oc13, od13, .func (PySem.W.fnOf "_law_letters" "_law_letters" (defArgs s_law_letters) (defBody s_law_letters) (defScope s_law_letters) .none kV13 dc13 pm13 an13 cd13 ct13), sl13⟩) (c13 : PySem.W.codeIn K cd13 "_law_letters" = true) (k13 : PySem.W.keepIn K (.ref f13) = true)
    (a14 : PySem.W.nsIn K mainGlobals "_law_name" = some (some (.ref f14))) (l14 : K.lookup f14 = some ⟨oc14, od14, .func (PySem.W.fnOf "_law_name" "_law_name" (defArgs s_law_name) (defBody s_law_name) (defScope s_law_name) .none kV14 dc14 pm14 an14 cd14 ct14), sl14⟩) (c14 : PySem.W.codeIn K cd14 "_law_name" = true) (k14 : PySem.W.keepIn K (.ref f14) = true)
    (a15 : PySem.W.nsIn K mainGlobals "_law_names" = some (some (.ref f15))) (l15 : K.lookup f15 = some ⟨oc15, od15, .func (PySem.W.fnOf "_law_names" "_law_names" (defArgs s_law_names) (defBody s_law_names) (defScope s_law_names) .none kV15 dc15 pm15 an15 cd15 ct15), sl15⟩) (c15 : PySem.W.codeIn K cd15 "_law_names" = true) (k15 : PySem.W.keepIn K (.ref f15) = true)
    (a16 : PySem.W.nsIn K mainGlobals "_law_row" = some (some (.ref f16))) (l16 : K.lookup f16 = some ⟨oc16, od16, .func (PySem.W.fnOf "_law_row" "_law_row" (defArgs s_law_row) (defBody s_law_row) (defScope s_law_row) .none kV16 dc16 pm16 an16 cd16 ct16), sl16⟩) (c16 : PySem.W.codeIn K cd16 "_law_row" = true) (k16 : PySem.W.keepIn K (.ref f16) = true)
    (a17 : PySem.W.nsIn K mainGlobals "_law_some_loop" = some (some (.ref f17))) (l17 : K.lookup f17 = some ⟨oc17, od17, .func (PySem.W.fnOf "_law_some_loop" "_law_some_loop" (defArgs s_law_some_loop) (defBody s_law_some_loop) (defScope s_law_some_loop) .none kV17 dc17 pm17 an17 cd17 ct17), sl17⟩) (c17 : PySem.W.codeIn K cd17 "_law_some_loop" = true) (k17 : PySem.W.keepIn K (.ref f17) = true)
    (a18 : PySem.W.nsIn K mainGlobals "_law_loops" = some (some (.ref f18))) (l18 : K.lookup f18 = some ⟨oc18, od18, .func (PySem.W.fnOf "_law_loops" "_law_loops" (defArgs s_law_loops) (defBody s_law_loops) (defScope s_law_loops) .none kV18 dc18 pm18 an18 cd18 ct18), sl18⟩) (c18 : PySem.W.codeIn K cd18 "_law_loops" = true) (k18 : PySem.W.keepIn K (.ref f18) = true)
    (a19 : PySem.W.nsIn K mainGlobals "_law_within" = some (some (.ref f19))) (l19 : K.lookup f19 = some ⟨oc19, od19, .func (PySem.W.fnOf "_law_within" "_law_within" (defArgs s_law_within) (defBody s_law_within) (defScope s_law_within) .none kV19 dc19 pm19 an19 cd19 ct19), sl19⟩) (c19 : PySem.W.codeIn K cd19 "_law_within" = true) (k19 : PySem.W.keepIn K (.ref f19) = true)
    (a20 : PySem.W.nsIn K mainGlobals "_law_fit" = some (some (.ref f20))) (l20 : K.lookup f20 = some ⟨oc20, od20, .func (PySem.W.fnOf "_law_fit" "_law_fit" (defArgs s_law_fit) (defBody s_law_fit) (defScope s_law_fit) .none kV20 dc20 pm20 an20 cd20 ct20), sl20⟩) (c20 : PySem.W.codeIn K cd20 "_law_fit" = true) (k20 : PySem.W.keepIn K (.ref f20) = true)
    (a21 : PySem.W.nsIn K mainGlobals "_law_apart" = some (some (.ref f21))) (l21 : K.lookup f21 = some ⟨oc21, od21, .func (PySem.W.fnOf "_law_apart" "_law_apart" (defArgs s_law_apart) (defBody s_law_apart) (defScope s_law_apart) .none kV21 dc21 pm21 an21 cd21 ct21), sl21⟩) (c21 : PySem.W.codeIn K cd21 "_law_apart" = true) (k21 : PySem.W.keepIn K (.ref f21) = true)
    (a22 : PySem.W.nsIn K mainGlobals "_law_seats_right" = some (some (.ref f22))) (l22 : K.lookup f22 = some ⟨oc22, od22, .func (PySem.W.fnOf "_law_seats_right" "_law_seats_right" (defArgs s_law_seats_right) (defBody s_law_seats_right) (defScope s_law_seats_right) .none kV22 dc22 pm22 an22 cd22 ct22), sl22⟩) (c22 : PySem.W.codeIn K cd22 "_law_seats_right" = true) (k22 : PySem.W.keepIn K (.ref f22) = true)
    (a23 : PySem.W.nsIn K mainGlobals "_law_whole" = some (some (.ref f23))) (l23 : K.lookup f23 = some ⟨oc23, od23, .func (PySem.W.fnOf "_law_whole" "_law_whole" (defArgs s_law_whole) (defBody s_law_whole) (defScope s_law_whole) .none kV23 dc23 pm23 an23 cd23 ct23), sl23⟩) (c23 : PySem.W.codeIn K cd23 "_law_whole" = true) (k23 : PySem.W.keepIn K (.ref f23) = true)
    (a24 : PySem.W.nsIn K mainGlobals "_law_texts" = some (some (.ref f24))) (l24 : K.lookup f24 = some ⟨oc24, od24, .func (PySem.W.fnOf "_law_texts" "_law_texts" (defArgs s_law_texts) (defBody s_law_texts) (defScope s_law_texts) .none kV24 dc24 pm24 an24 cd24 ct24), sl24⟩) (c24 : PySem.W.codeIn K cd24 "_law_texts" = true) (k24 : PySem.W.keepIn K (.ref f24) = true)
    (a25 : PySem.W.nsIn K mainGlobals "_law_lines_form" = some (some (.ref f25))) (l25 : K.lookup f25 = some ⟨oc25, od25, .func (PySem.W.fnOf "_law_lines_form" "_law_lines_form" (defArgs s_law_lines_form) (defBody s_law_lines_form) (defScope s_law_lines_form) .none kV25 dc25 pm25 an25 cd25 ct25), sl25⟩) (c25 : PySem.W.codeIn K cd25 "_law_lines_form" = true) (k25 : PySem.W.keepIn K (.ref f25) = true)
    (a26 : PySem.W.nsIn K mainGlobals "_law_right" = some (some (.ref f26))) (l26 : K.lookup f26 = some ⟨oc26, od26, .func (PySem.W.fnOf "_law_right" "_law_right" (defArgs s_law_right) (defBody s_law_right) (defScope s_law_right) .none kV26 dc26 pm26 an26 cd26 ct26), sl26⟩) (c26 : PySem.W.codeIn K cd26 "_law_right" = true) (k26 : PySem.W.keepIn K (.ref f26) = true)
    (a27 : PySem.W.nsIn K mainGlobals "law" = some (some (.ref f27))) (l27 : K.lookup f27 = some ⟨oc27, od27, .func (PySem.W.fnOf "law" "law" (defArgs slaw) (defBody slaw) (defScope slaw) .none kV27 dc27 pm27 an27 cd27 ct27), sl27⟩) (c27 : PySem.W.codeIn K cd27 "law" = true) (k27 : PySem.W.keepIn K (.ref f27) = true)
    (aR1 : PySem.W.nsIn K mainGlobals "RULES" = some (some (.ref aR))) (lR : K.lookup aR = some ⟨.type "tuple", dR, .seq itsR nR, slR⟩) (vR : Vals (rules.map V.str) itsR.toList) (aM : PySem.W.nsIn K mainGlobals "MOST_LOOPS" = some (some (.int 12 tM)))
    (zlen : PySem.W.nsIn K mainGlobals "len" = some none) (zrange : PySem.W.nsIn K mainGlobals "range" = some none) (zenumerate : PySem.W.nsIn K mainGlobals "enumerate" = some none) (zlist : PySem.W.nsIn K mainGlobals "list" = some none) (zsorted : PySem.W.nsIn K mainGlobals "sorted" = some none) (zset : PySem.W.nsIn K mainGlobals "set" = some none) (zall : PySem.W.nsIn K mainGlobals "all" = some none) (zany : PySem.W.nsIn K mainGlobals "any" = some none) (zmax : PySem.W.nsIn K mainGlobals "max" = some none) (zmin : PySem.W.nsIn K mainGlobals "min" = some none) (ztuple : PySem.W.nsIn K mainGlobals "tuple" = some none) (zisinstance : PySem.W.nsIn K mainGlobals "isinstance" = some none) (zint : PySem.W.nsIn K mainGlobals "int" = some none) (zbool : PySem.W.nsIn K mainGlobals "bool" = some none) (zstr : PySem.W.nsIn K mainGlobals "str" = some none) (zzip : PySem.W.nsIn K mainGlobals "zip" = some none) (zreversed : PySem.W.nsIn K mainGlobals "reversed" = some none) :
    ∃ fd : FuncData, (∀ (s : Shared) (v : Value), BindsTo s fd ⟨[v], []⟩ [("script", v)]) ∧ ∀ base : Heap, K.In base → base.Ns mainGlobals mg → FnOk l.prog w K mg base CX0 16 fa fd ["script"] (spLaw K) := by
  have e := hfa.symm.trans (PySem.W.mg_of X G a27)
  cases e
  have F1 := fun_mk (st := sWithin) l1 c1 k1
  have F2 := fun_mk (st := sstands_under) l2 c2 k2
  have F3 := fun_mk (st := sis_loop) l3 c3 k3
  have F4 := fun_mk (st := slook_at_loops) l4 c4 k4
  have F5 := fun_mk (st := sseated) l5 c5 k5
  have F6 := fun_mk (st := spaired) l6 c6 k6
  have F7 := fun_mk (st := sgone_over) l7 c7 k7
  have F8 := fun_mk (st := schains_of) l8 c8 k8
  have F9 := fun_mk (st := sline_by) l9 c9 k9
  have F10 := fun_mk (st := slines_of) l10 c10 k10
  have F11 := fun_mk (st := s_law_pot) l11 c11 k11
  have F12 := fun_mk (st := s_law_take) l12 c12 k12
  have F13 := fun_mk (st := s_law_letters) l13 c13 k13
  have F14 := fun_mk (st := s_law_name) l14 c14 k14
  have F15 := fun_mk (st := s_law_names) l15 c15 k15
  have F16 := fun_mk (st := s_law_row) l16 c16 k16
  have F17 := fun_mk (st := s_law_some_loop) l17 c17 k17
  have F18 := fun_mk (st := s_law_loops) l18 c18 k18
  have F19 := fun_mk (st := s_law_within) l19 c19 k19
  have F20 := fun_mk (st := s_law_fit) l20 c20 k20
  have F21 := fun_mk (st := s_law_apart) l21 c21 k21
  have F22 := fun_mk (st := s_law_seats_right) l22 c22 k22
  have F23 := fun_mk (st := s_law_whole) l23 c23 k23
  have F24 := fun_mk (st := s_law_texts) l24 c24 k24
  have F25 := fun_mk (st := s_law_lines_form) l25 c25 k25
  have F26 := fun_mk (st := s_law_right) l26 c26 k26
  have F27 := fun_mk (st := slaw) l27 c27 k27
  have b1 := F1.binds (ps := ["one", "other"]) fun _ _ _ _ _ _ us hl => match us, hl with | [_, _], _ => rfl
  have m1 := PySem.W.mg_of X G a1
  have b2 := F2.binds (ps := ["loops", "one", "other"]) fun _ _ _ _ _ _ us hl => match us, hl with | [_, _, _], _ => rfl
  have m2 := PySem.W.mg_of X G a2
  have b3 := F3.binds (ps := ["row", "thing"]) fun _ _ _ _ _ _ us hl => match us, hl with | [_, _], _ => rfl
  have m3 := PySem.W.mg_of X G a3
  have b4 := F4.binds (ps := ["row", "loops"]) fun _ _ _ _ _ _ us hl => match us, hl with | [_, _], _ => rfl
  have m4 := PySem.W.mg_of X G a4
  have b5 := F5.binds (ps := ["above", "below", "one", "tried"]) fun _ _ _ _ _ _ us hl => match us, hl with | [_, _, _, _], _ => rfl
  have m5 := PySem.W.mg_of X G a5
  have b6 := F6.binds (ps := ["above"]) fun _ _ _ _ _ _ us hl => match us, hl with | [_], _ => rfl
  have m6 := PySem.W.mg_of X G a6
  have b7 := F7.binds (ps := ["above", "below"]) fun _ _ _ _ _ _ us hl => match us, hl with | [_, _], _ => rfl
  have m7 := PySem.W.mg_of X G a7
  have b8 := F8.binds (ps := ["above", "below"]) fun _ _ _ _ _ _ us hl => match us, hl with | [_, _], _ => rfl
  have m8 := PySem.W.mg_of X G a8
  have b9 := F9.binds (ps := ["row", "loops", "chain"]) fun _ _ _ _ _ _ us hl => match us, hl with | [_, _, _], _ => rfl
  have m9 := PySem.W.mg_of X G a9
  have b10 := F10.binds (ps := ["row", "loops"]) fun _ _ _ _ _ _ us hl => match us, hl with | [_, _], _ => rfl
  have m10 := PySem.W.mg_of X G a10
  have b11 := F11.binds (ps := ["script", "k"]) fun _ _ _ _ _ _ us hl => match us, hl with | [_, _], _ => rfl
  have m11 := PySem.W.mg_of X G a11
  have b12 := F12.binds (ps := ["pot", "many"]) fun _ _ _ _ _ _ us hl => match us, hl with | [_, _], _ => rfl
  have m12 := PySem.W.mg_of X G a12
  have b13 := F13.binds (ps := ["number"]) fun _ _ _ _ _ _ us hl => match us, hl with | [_], _ => rfl
  have m13 := PySem.W.mg_of X G a13
  have b14 := F14.binds (ps := ["pot", "names"]) fun _ _ _ _ _ _ us hl => match us, hl with | [_, _], _ => rfl
  have m14 := PySem.W.mg_of X G a14
  have b15 := F15.binds (ps := ["pot", "many"]) fun _ _ _ _ _ _ us hl => match us, hl with | [_, _], _ => rfl
  have m15 := PySem.W.mg_of X G a15
  have b16 := F16.binds (ps := ["pot", "most"]) fun _ _ _ _ _ _ us hl => match us, hl with | [_, _], _ => rfl
  have m16 := PySem.W.mg_of X G a16
  have b17 := F17.binds (ps := ["pot", "row"]) fun _ _ _ _ _ _ us hl => match us, hl with | [_, _], _ => rfl
  have m17 := PySem.W.mg_of X G a17
  have b18 := F18.binds (ps := ["pot", "row", "most"]) fun _ _ _ _ _ _ us hl => match us, hl with | [_, _, _], _ => rfl
  have m18 := PySem.W.mg_of X G a18
  have b19 := F19.binds (ps := ["one", "other"]) fun _ _ _ _ _ _ us hl => match us, hl with | [_, _], _ => rfl
  have m19 := PySem.W.mg_of X G a19
  have b20 := F20.binds (ps := ["one", "other"]) fun _ _ _ _ _ _ us hl => match us, hl with | [_, _], _ => rfl
  have m20 := PySem.W.mg_of X G a20
  have b21 := F21.binds (ps := ["loops", "apart"]) fun _ _ _ _ _ _ us hl => match us, hl with | [_, _], _ => rfl
  have m21 := PySem.W.mg_of X G a21
  have b22 := F22.binds (ps := ["row", "loops", "lines", "seats"]) fun _ _ _ _ _ _ us hl => match us, hl with | [_, _, _, _], _ => rfl
  have m22 := PySem.W.mg_of X G a22
  have b23 := F23.binds (ps := ["found"]) fun _ _ _ _ _ _ us hl => match us, hl with | [_], _ => rfl
  have m23 := PySem.W.mg_of X G a23
  have b24 := F24.binds (ps := ["found"]) fun _ _ _ _ _ _ us hl => match us, hl with | [_], _ => rfl
  have m24 := PySem.W.mg_of X G a24
  have b25 := F25.binds (ps := ["found"]) fun _ _ _ _ _ _ us hl => match us, hl with | [_], _ => rfl
  have m25 := PySem.W.mg_of X G a25
  have b26 := F26.binds (ps := ["row", "loops", "found"]) fun _ _ _ _ _ _ us hl => match us, hl with | [_, _, _], _ => rfl
  have m26 := PySem.W.mg_of X G a26
  have mlen := PySem.W.mg_none_of X G zlen
  have mrange := PySem.W.mg_none_of X G zrange
  have menumerate := PySem.W.mg_none_of X G zenumerate
  have mlist := PySem.W.mg_none_of X G zlist
  have msorted := PySem.W.mg_none_of X G zsorted
  have mset := PySem.W.mg_none_of X G zset
  have mall := PySem.W.mg_none_of X G zall
  have many := PySem.W.mg_none_of X G zany
  have mmax := PySem.W.mg_none_of X G zmax
  have mmin := PySem.W.mg_none_of X G zmin
  have mtuple := PySem.W.mg_none_of X G ztuple
  have misinstance := PySem.W.mg_none_of X G zisinstance
  have mint := PySem.W.mg_none_of X G zint
  have mbool := PySem.W.mg_none_of X G zbool
  have mstr := PySem.W.mg_none_of X G zstr
  have mzip := PySem.W.mg_none_of X G zzip
  have mreversed := PySem.W.mg_none_of X G zreversed
  have mR := PySem.W.mg_of X G aR1
  have mM := PySem.W.mg_of X G aM
  have hR : RulesAt K aR := ⟨_, itsR, nR, lR, rfl, rfl, by rw [← Array.length_toList, ← vR.length]; decide, vR⟩
  refine ⟨PySem.W.fnOf "law" "law" (defArgs slaw) (defBody slaw) (defScope slaw) .none kV27 dc27 pm27 an27 cd27 ct27, fun s v => .of_eq rfl, fun base _ _ => ?_⟩
  have G1 := ok_within (P := l.prog) (w := w) (mg := mg) (base := base) (k := 0) F1 mall
  have G2 := ok_under (P := l.prog) (w := w) (mg := mg) (base := base) (k := 1) F2 (G1.mono (by decide)) k1 b1 m1
  have G3 := ok_is_loop (P := l.prog) (w := w) (mg := mg) (base := base) (k := 0) F3 mR hR mlen mlist msorted mset mall
  have G4 := ok_look_at_loops (P := l.prog) (w := w) (mg := mg) (base := base) (k := 1) F4 (G3.mono (by decide)) k3 b3 m3 mM mlen
  have G5 := all_seated (P := l.prog) (w := w) (base := base) F5 b5 m5 13
  have G6 := ok_paired (P := l.prog) (w := w) (mg := mg) (base := base) F6 G5 b5 k5 m5 mrange mlen
  have G7 := ok_gone_over (P := l.prog) (w := w) (mg := mg) (base := base) (k := 0) F7 mrange mlen
  have G8 := ok_chains_of (P := l.prog) (w := w) (mg := mg) (base := base) (k := 0) F8 mrange mlen
  have G9 := ok_line_by (P := l.prog) (w := w) (mg := mg) (base := base) (k := 0) F9 mreversed
  have G10 := ok_lines_of (P := l.prog) (w := w) (mg := mg) (base := base) (k := 14) F10 (G4.mono (by decide)) k4 b4 m4 (G2.mono (by decide)) k2 b2 m2 (G6.mono (by decide)) k6 b6 m6 (G8.mono (by decide)) k8 b8 m8 (G7.mono (by decide)) k7 b7 m7 (G9.mono (by decide)) k9 b9 m9 mlen mrange menumerate
  have G11 := ok_pot (P := l.prog) (w := w) (mg := mg) (base := base) (k := 0) F11 mlen
  have G12 := (ok_take (P := l.prog) (w := w) (mg := mg) (base := base) (k := 0) F12).imp draw_imp
  have G13 := ok_letters (P := l.prog) (w := w) (mg := mg) (base := base) (k := 0) F13 
  have G14 := ok_name (P := l.prog) (w := w) (mg := mg) (base := base) (k := 1) F14 (G12.mono (by decide)) k12 b12 m12 (G13.mono (by decide)) k13 b13 m13 mlen
  have G15 := ok_names (P := l.prog) (w := w) (mg := mg) (base := base) (k := 2) F15 (G14.mono (by decide)) k14 b14 m14 mrange
  have G16 := ok_row (P := l.prog) (w := w) (mg := mg) (base := base) (k := 3) F16 (G12.mono (by decide)) k12 b12 m12 (G15.mono (by decide)) k15 b15 m15
  have G17 := ok_some (P := l.prog) (w := w) (mg := mg) (base := base) (k := 1) F17 (G12.mono (by decide)) k12 b12 m12 mlen mtuple msorted
  have G18 := ok_loops (P := l.prog) (w := w) (mg := mg) (base := base) (k := 2) F18 (G12.mono (by decide)) k12 b12 m12 (G17.mono (by decide)) k17 b17 m17 mlen mrange mtuple
  have G19 := ok_lwithin (P := l.prog) (w := w) (mg := mg) (base := base) (k := 0) F19 mset
  have G20 := ok_lfit (P := l.prog) (w := w) (mg := mg) (base := base) (k := 1) F20 (G19.mono (by decide)) k19 b19 m19
  have G21 := ok_apart (P := l.prog) (w := w) (mg := mg) (base := base) (k := 2) F21 (G20.mono (by decide)) k20 b20 m20 mlen mrange many
  have G22 := ok_seats (P := l.prog) (w := w) (mg := mg) (base := base) (k := 0) F22 mlen mzip msorted mlist
  have G23 := ok_whole (P := l.prog) (w := w) (mg := mg) (base := base) (k := 0) F23 misinstance mint mbool
  have G24 := ok_texts (P := l.prog) (w := w) (mg := mg) (base := base) (k := 0) F24 misinstance mlist mstr mall
  have G25 := ok_form (P := l.prog) (w := w) (mg := mg) (base := base) (k := 1) F25 (G24.mono (by decide)) k24 b24 m24 (G23.mono (by decide)) k23 b23 m23 misinstance mtuple mlist mlen mall
  have G26 := ok_right (P := l.prog) (w := w) (mg := mg) (base := base) (k := 3) F26 (G25.mono (by decide)) k25 b25 m25 (G22.mono (by decide)) k22 b22 m22 (G21.mono (by decide)) k21 b21 m21 mlen msorted mall
  exact ok_law (k := 15) F27 (G11.mono (by decide)) k11 b11 m11 (G16.mono (by decide)) k16 b16 m16 (G18.mono (by decide)) k18 b18 m18 (G10.mono (by decide)) k10 b10 m10 (G26.mono (by decide)) k26 b26 m26 mlen mrange mmax mmin mlist mtuple
theorem walk {l : PySem.W.OpenLaw} {q : Program} {loose : List Str} {XP : (Str → Option Value) → Heap → Prop} {YP : World → Heap → Prop} {d : DefRec} {K : Params → PySem.W.Frag} (hn : l.most = some 63) (hdf : d.params.defaults = [])
    (hY : ∀ (w : World) (h : Heap), YP w h → (K w.params).In h)
    (F : ∀ (w : World) (mg : Str → Option Value) (fa : Addr) (h : Heap), (K w.params).In h → h.Ns mainGlobals mg → mg d.name = some (.ref fa) →
      ∃ fd : FuncData, (∀ (s : Shared) (u : Value), BindsTo s fd ⟨[u], []⟩ [("script", u)]) ∧ ∀ base : Heap, (K w.params).In base → base.Ns mainGlobals mg → FnOk l.prog w (K w.params) mg base CX0 16 fa fd ["script"] (spLaw (K w.params))) :
    PySem.W.WalkO q loose XP YP l.row.toRowW d [] (fun f vs => PySem.call f vs) :=
  L2.walk_of (n := 63) (k := 16) (x := "script") (CX := fun _ => CX0) (sp := fun w => spLaw (K w.params)) hn (by decide) hdf ⟨rfl, by decide, by decide⟩ hY F (fun _ _ a ns hl _ hS => ⟨a, ns, rfl, hS, hl, fun _ => rfl⟩) fun _ _ _ _ _ z => z
end W44
set_option Elab.async false
open PySem PySem.W PyProof.Rows
set_option maxRecDepth 100000 in
set_option maxHeartbeats 0 in
theorem PySem.Challenge.cw_stirround_k44_whole_fewest_lines_holds : PySem.Challenge.rw_stirround_k44_whole_fewest_lines.Holds := by
  w_on; o_law; k_head; (case hw => w_witness2)
  k_fill
  refine W44.walk (l := PySem.Challenge.rw_stirround_k44_whole_fewest_lines) rfl rfl (fun w h Y => PySem.W.kIn_of Y) ?F
  case F =>
    intro w mg fa h KX G hmg
    refine' W44.all_mk KX G hmg ?a1 ?l1 ?c1 ?k1 ?a2 ?l2 ?c2 ?k2 ?a3 ?l3 ?c3 ?k3 ?a4 ?l4 ?c4 ?k4 ?a5 ?l5 ?c5 ?k5 ?a6 ?l6 ?c6 ?k6 ?a7 ?l7 ?c7 ?k7 ?a8 ?l8 ?c8 ?k8 ?a9 ?l9 ?c9 ?k9 ?a10 ?l10 ?c10 ?k10 ?a11 ?l11 ?c11 ?k11 ?a12 ?l12 ?c12 ?k12 ?a13 ?l13 ?c13 ?k13 ?a14 ?l14 ?c14 ?k14 ?a15 ?l15 ?c15 ?k15 ?a16 ?l16 ?c16 ?k16 ?a17 ?l17 ?c17 ?k17 ?a18 ?l18 ?c18 ?k18 ?a19 ?l19 ?c19 ?k19 ?a20 ?l20 ?c20 ?k20 ?a21 ?l21 ?c21 ?k21 ?a22 ?l22 ?c22 ?k22 ?a23 ?l23 ?c23 ?k23 ?a24 ?l24 ?c24 ?k24 ?a25 ?l25 ?c25 ?k25 ?a26 ?l26 ?c26 ?k26 ?a27 ?l27 ?c27 ?k27 ?aR1 ?lR ?vR ?aM ?zlen ?zrange ?zenumerate ?zlist ?zsorted ?zset ?zall ?zany ?zmax ?zmin ?ztuple ?zisinstance ?zint ?zbool ?zstr ?zzip ?zreversed
    (case a1 => k_is)
    (case l1 => k_is)
    (case c1 => k_is)
    (case k1 => k_is)
    (case a2 => k_is)
    (case l2 => k_is)
    (case c2 => k_is)
    (case k2 => k_is)
    (case a3 => k_is)
    (case l3 => k_is)
    (case c3 => k_is)
    (case k3 => k_is)
    (case a4 => k_is)
    (case l4 => k_is)
    (case c4 => k_is)
    (case k4 => k_is)
    (case a5 => k_is)
    (case l5 => k_is)
    (case c5 => k_is)
    (case k5 => k_is)
    (case a6 => k_is)
    (case l6 => k_is)
    (case c6 => k_is)
    (case k6 => k_is)
    (case a7 => k_is)
    (case l7 => k_is)
    (case c7 => k_is)
    (case k7 => k_is)
    (case a8 => k_is)
    (case l8 => k_is)
    (case c8 => k_is)
    (case k8 => k_is)
    (case a9 => k_is)
    (case l9 => k_is)
    (case c9 => k_is)
    (case k9 => k_is)
    (case a10 => k_is)
    (case l10 => k_is)
    (case c10 => k_is)
    (case k10 => k_is)
    (case a11 => k_is)
    (case l11 => k_is)
    (case c11 => k_is)
    (case k11 => k_is)
    (case a12 => k_is)
    (case l12 => k_is)
    (case c12 => k_is)
    (case k12 => k_is)
    (case a13 => k_is)
    (case l13 => k_is)
    (case c13 => k_is)
    (case k13 => k_is)
    (case a14 => k_is)
    (case l14 => k_is)
    (case c14 => k_is)
    (case k14 => k_is)
    (case a15 => k_is)
    (case l15 => k_is)
    (case c15 => k_is)
    (case k15 => k_is)
    (case a16 => k_is)
    (case l16 => k_is)
    (case c16 => k_is)
    (case k16 => k_is)
    (case a17 => k_is)
    (case l17 => k_is)
    (case c17 => k_is)
    (case k17 => k_is)
    (case a18 => k_is)
    (case l18 => k_is)
    (case c18 => k_is)
    (case k18 => k_is)
    (case a19 => k_is)
    (case l19 => k_is)
    (case c19 => k_is)
    (case k19 => k_is)
    (case a20 => k_is)
    (case l20 => k_is)
    (case c20 => k_is)
    (case k20 => k_is)
    (case a21 => k_is)
    (case l21 => k_is)
    (case c21 => k_is)
    (case k21 => k_is)
    (case a22 => k_is)
    (case l22 => k_is)
    (case c22 => k_is)
    (case k22 => k_is)
    (case a23 => k_is)
    (case l23 => k_is)
    (case c23 => k_is)
    (case k23 => k_is)
    (case a24 => k_is)
    (case l24 => k_is)
    (case c24 => k_is)
    (case k24 => k_is)
    (case a25 => k_is)
    (case l25 => k_is)
    (case c25 => k_is)
    (case k25 => k_is)
    (case a26 => k_is)
    (case l26 => k_is)
    (case c26 => k_is)
    (case k26 => k_is)
    (case a27 => k_is)
    (case l27 => k_is)
    (case c27 => k_is)
    (case k27 => k_is)
    (case aR1 => k_is)
    (case lR => k_is)
    (case vR => exact .cons ⟨_, rfl⟩ (.cons ⟨_, rfl⟩ (.cons ⟨_, rfl⟩ .nil)))
    (case aM => k_is)
    (case zlen => k_is)
    (case zrange => k_is)
    (case zenumerate => k_is)
    (case zlist => k_is)
    (case zsorted => k_is)
    (case zset => k_is)
    (case zall => k_is)
    (case zany => k_is)
    (case zmax => k_is)
    (case zmin => k_is)
    (case ztuple => k_is)
    (case zisinstance => k_is)
    (case zint => k_is)
    (case zbool => k_is)
    (case zstr => k_is)
    (case zzip => k_is)
    (case zreversed => k_is)
