import PyProof.Rows.All
import Wide.All
import OpenK.AllK
import Wide.FinOn
import HandS.ForMost
import HandS.Exc
import HandS.ExcOwn
import HandS.ExcInit
import HandS.ExcField
import HandS.ExcIs
import HandS.TryMany
import HandS.WordsExc
import HandS.Star
import HandS.Defaults
import HandS.IsInst
import HandS.DictComp
import HandS.ListItems
import HandS.Style
import HandS.Walk
import PySem.Challenge.RW_quaybest_k64_whole_tallies
set_option Elab.async false
set_option linter.all false
set_option maxRecDepth 100000
set_option maxHeartbeats 2000000
/-! Assoc lists of codes and ints; canonical lists; sorted keys. -/
namespace KT
open PySem PySem.Spec PyProof.Rows L2

abbrev AL := List (Str × Int)
def toK (f : AL) : List (Key × V) := f.map fun p => (Sum.inr p.1, V.int p.2)
def look (f : AL) (k : Str) : Option Int := (f.find? fun p => decide (p.1 = k)).map (·.2)
def gt (f : AL) (k : Str) : Int := (look f k).getD 0
def keys (f : AL) : List Str := f.map (·.1)
def put (f : AL) (k : Str) (v : Int) : AL :=
  if f.any (fun p => decide (p.1 = k)) then f.map (fun p => if p.1 = k then (p.1, v) else p) else f ++ [(k, v)]

theorem toK_length (f : AL) : (toK f).length = f.length := by unfold toK; rw [List.length_map]
theorem toK_get {f : AL} {i : Nat} {kv : Key × V} (h : (toK f)[i]? = some kv) : ∃ p, f[i]? = some p ∧ kv = (Sum.inr p.1, V.int p.2) := by
  unfold toK at h
  rw [List.getElem?_map] at h
  cases e : f[i]? with
  | none => rw [e] at h; cases h
  | some p => rw [e] at h; exact ⟨p, rfl, (Option.some.inj h).symm⟩
theorem toK_keys (f : AL) : (toK f).map (·.1) = (keys f).map Sum.inr := by
  unfold toK keys
  rw [List.map_map, List.map_map]
  rfl
theorem toK_inj : ∀ {f g : AL}, toK f = toK g → f = g
  | [], [], _ => rfl
  | [], _ :: _, h => by simp [toK] at h
  | _ :: _, [], h => by simp [toK] at h
  | (a, x) :: f, (b, y) :: g, h => by
    simp only [toK, List.map_cons, List.cons.injEq, Prod.mk.injEq, Sum.inr.injEq, V.int.injEq] at h
    obtain ⟨⟨h1, h2⟩, h3⟩ := h
    rw [h1, h2, toK_inj (f := f) (g := g) h3]

theorem look_cons_pos {p : Str × Int} {f : AL} {k : Str} (e : p.1 = k) : look (p :: f) k = some p.2 := by simp [look, List.find?_cons, e]
theorem look_cons_neg {p : Str × Int} {f : AL} {k : Str} (e : ¬ p.1 = k) : look (p :: f) k = look f k := by simp [look, List.find?_cons, e]
theorem valV_toK (k : Str) : ∀ f : AL, valV (toK f) (Sum.inr k : Key) = (look f k).map V.int
  | [] => rfl
  | p :: f => by
    have ih := valV_toK k f
    show valV ((Sum.inr p.1, V.int p.2) :: toK f) (Sum.inr k : Key) = _
    by_cases e : p.1 = k
    · rw [look_cons_pos e, valV_pos (p := ((Sum.inr p.1 : Key), V.int p.2)) (by rw [← e])]
      rfl
    · rw [look_cons_neg e, valV_neg (p := ((Sum.inr p.1 : Key), V.int p.2)) (fun z => e (Sum.inr.inj z))]
      exact ih
theorem any_toK (k : Str) : ∀ f : AL, ((toK f).any fun kv => decide (kv.1 = (Sum.inr k : Key))) = f.any fun p => decide (p.1 = k)
  | [] => rfl
  | p :: f => by
    show ((((Sum.inr p.1, V.int p.2) : Key × V) :: toK f).any _) = _
    rw [List.any_cons, List.any_cons, any_toK k f, key_rr]
theorem toK_put (f : AL) (k : Str) (v : Int) : toK (put f k v) = putK (toK f) (Sum.inr k) (V.int v) := by
  unfold put putK
  rw [any_toK]
  split
  · unfold toK
    rw [List.map_map, List.map_map]
    refine List.map_congr_left fun p _ => ?_
    simp only [Function.comp]
    by_cases e : p.1 = k
    · rw [if_pos e, if_pos (by rw [e])]
    · rw [if_neg e, if_neg (fun z => e (Sum.inr.inj z))]
  · unfold toK
    rw [List.map_append]
    rfl
theorem look_any (k : Str) : ∀ f : AL, (f.any fun p => decide (p.1 = k)) = (look f k).isSome
  | [] => rfl
  | p :: f => by
    rw [List.any_cons]
    by_cases e : p.1 = k
    · rw [look_cons_pos e, decide_eq_true e]; rfl
    · rw [look_cons_neg e, decide_eq_false e, Bool.false_or]; exact look_any k f
theorem look_mem {f : AL} {k : Str} {v : Int} (h : look f k = some v) : (k, v) ∈ f := by
  unfold look at h
  obtain ⟨p, hp, e⟩ := Option.map_eq_some_iff.mp h
  have h1 := List.mem_of_find?_eq_some hp
  have h2 := List.find?_some hp
  have h3 : p.1 = k := of_decide_eq_true h2
  obtain ⟨a, b⟩ := p
  simp only at h3 e
  rw [← h3, ← e]
  exact h1
theorem look_keys {f : AL} {k : Str} : (look f k).isSome = true ↔ k ∈ keys f := by
  rw [← look_any]
  constructor
  · intro h
    obtain ⟨p, hp, e⟩ := List.any_eq_true.mp h
    exact List.mem_map.mpr ⟨p, hp, of_decide_eq_true e⟩
  · intro h
    obtain ⟨p, hp, e⟩ := List.mem_map.mp h
    exact List.any_eq_true.mpr ⟨p, hp, decide_eq_true e⟩
theorem look_none {f : AL} {k : Str} (h : k ∉ keys f) : look f k = none := by
  cases e : look f k with
  | none => rfl
  | some v => exact absurd (look_keys.mp (by rw [e]; rfl)) h
theorem gt_none {f : AL} {k : Str} (h : k ∉ keys f) : gt f k = 0 := by unfold gt; rw [look_none h]; rfl
theorem look_of_mem : ∀ {f : AL} {k : Str} {v : Int}, (keys f).Nodup → (k, v) ∈ f → look f k = some v
  | [], _, _, _, h => by cases h
  | p :: f, k, v, nd, h => by
    obtain ⟨n1, n2⟩ := List.nodup_cons.mp (show (p.1 :: keys f).Nodup from nd)
    rcases List.mem_cons.mp h with e | h
    · rw [← e, look_cons_pos rfl]
    · by_cases e : p.1 = k
      · exact absurd (e ▸ List.mem_map.mpr ⟨(k, v), h, rfl⟩) n1
      · rw [look_cons_neg e]; exact look_of_mem n2 h
theorem gt_of_mem {f : AL} {k : Str} {v : Int} (nd : (keys f).Nodup) (h : (k, v) ∈ f) : gt f k = v := by unfold gt; rw [look_of_mem nd h]; rfl
theorem look_map (k j : Str) (v : Int) : ∀ f : AL, look (f.map fun p => if p.1 = k then (p.1, v) else p) j = (look f j).map fun x => if j = k then v else x
  | [] => rfl
  | p :: f => by
    have ih := look_map k j v f
    rw [List.map_cons]
    by_cases e : p.1 = j
    · rw [look_cons_pos e]
      by_cases e2 : p.1 = k
      · rw [if_pos e2, look_cons_pos (p := (p.1, v)) e]
        simp [← e, e2]
      · rw [if_neg e2, look_cons_pos e]
        simp [← e, e2]
    · rw [look_cons_neg e]
      have e' : ¬ (if p.1 = k then (p.1, v) else p).1 = j := by
        split
        · exact e
        · exact e
      rw [look_cons_neg e']
      exact ih
theorem look_snoc (k j : Str) (v : Int) : ∀ f : AL, look f k = none → look (f ++ [(k, v)]) j = if j = k then some v else look f j
  | [], _ => by
    show look [(k, v)] j = _
    by_cases e : j = k
    · rw [if_pos e, look_cons_pos (p := (k, v)) e.symm]
    · rw [if_neg e, look_cons_neg (p := (k, v)) (fun z => e z.symm)]
  | p :: f, hn => by
    by_cases ek : p.1 = k
    · rw [look_cons_pos ek] at hn; cases hn
    · rw [look_cons_neg ek] at hn
      rw [List.cons_append]
      by_cases e : p.1 = j
      · rw [look_cons_pos e, look_cons_pos e, if_neg (fun z => ek (e.trans z))]
      · rw [look_cons_neg e, look_cons_neg e]
        exact look_snoc k j v f hn
theorem look_put (f : AL) (k j : Str) (v : Int) : look (put f k v) j = if j = k then some v else look f j := by
  unfold put
  rw [look_any]
  cases e : look f k with
  | none =>
    rw [if_neg (by simp)]
    exact look_snoc k j v f e
  | some x =>
    rw [if_pos (by simp), look_map]
    by_cases ej : j = k
    · rw [if_pos ej, ej, e]; simp
    · rw [if_neg ej]
      cases look f j <;> simp [ej]
theorem gt_put (f : AL) (k j : Str) (v : Int) : gt (put f k v) j = if j = k then v else gt f j := by
  unfold gt
  rw [look_put]
  split <;> rfl
theorem keys_put (f : AL) (k : Str) (v : Int) : keys (put f k v) = if k ∈ keys f then keys f else keys f ++ [k] := by
  unfold put
  rw [look_any]
  by_cases h : k ∈ keys f
  · rw [if_pos h, if_pos (look_keys.mpr h)]
    unfold keys
    rw [List.map_map]
    refine List.map_congr_left fun p _ => ?_
    simp only [Function.comp]
    split <;> rfl
  · rw [if_neg h, if_neg (fun z => h (look_keys.mp z))]
    unfold keys
    rw [List.map_append]
    rfl
theorem nodup_put {f : AL} (k : Str) (v : Int) (nd : (keys f).Nodup) : (keys (put f k v)).Nodup := by
  rw [keys_put]
  split
  · exact nd
  · exact nd_snoc nd (by assumption)
theorem length_put (f : AL) (k : Str) (v : Int) : (put f k v).length ≤ f.length + 1 := by
  unfold put
  split
  · rw [List.length_map]; omega
  · rw [List.length_append]; simp
theorem put_new {f : AL} {k : Str} (v : Int) (h : k ∉ keys f) : put f k v = f ++ [(k, v)] := by
  unfold put
  rw [look_any, if_neg (fun z => h (look_keys.mp z))]
theorem mem_put {f : AL} {k : Str} {v : Int} {p : Str × Int} (h : p ∈ put f k v) : p ∈ f ∨ p = (k, v) := by
  unfold put at h
  split at h
  · obtain ⟨q, hq, e⟩ := List.mem_map.mp h
    split at e
    · rename_i ek
      right; rw [← e, ek]
    · left; rw [← e]; exact hq
  · rcases List.mem_append.mp h with h | h
    · exact .inl h
    · exact .inr (List.mem_singleton.mp h)

/-! ### the order of texts -/
def slt (a b : Str) : Prop := ltCps a.cps.toList b.cps.toList = true
theorem ltc_irrefl : ∀ a : List Nat, ltCps a a = false
  | [] => rfl
  | x :: r => by
    show (decide (x < x) || (x == x && ltCps r r)) = false
    rw [ltc_irrefl r]; simp
theorem ltc_total : ∀ {a b : List Nat}, a ≠ b → ltCps a b = false → ltCps b a = true
  | [], [], h, _ => absurd rfl h
  | [], _ :: _, _, h => by cases h
  | _ :: _, [], _, _ => rfl
  | x :: r, y :: t, hne, h => by
    have h : (decide (x < y) || (x == y && ltCps r t)) = false := h
    show (decide (y < x) || (y == x && ltCps t r)) = true
    rw [Bool.or_eq_false_iff] at h
    obtain ⟨h1, h2⟩ := h
    have h1 := of_decide_eq_false h1
    by_cases e : x = y
    · subst e
      have hrt : r ≠ t := fun z => hne (by rw [z])
      have h2' : ltCps r t = false := by simpa using h2
      rw [ltc_total hrt h2']; simp
    · have : y < x := by omega
      simp [this]
theorem ltc_trans : ∀ {a b c : List Nat}, ltCps a b = true → ltCps b c = true → ltCps a c = true
  | [], [], _, h, _ => by cases h
  | [], _ :: _, [], _, h => by cases h
  | [], _ :: _, _ :: _, _, _ => rfl
  | _ :: _, [], _, h, _ => by cases h
  | _ :: _, _ :: _, [], _, h => by cases h
  | x :: r, y :: t, z :: u, h1, h2 => by
    have h1 : (decide (x < y) || (x == y && ltCps r t)) = true := h1
    have h2 : (decide (y < z) || (y == z && ltCps t u)) = true := h2
    show (decide (x < z) || (x == z && ltCps r u)) = true
    rw [Bool.or_eq_true, Bool.and_eq_true, decide_eq_true_eq, beq_iff_eq] at h1 h2 ⊢
    rcases h1 with h1 | ⟨h1, h1'⟩
    · rcases h2 with h2 | ⟨h2, _⟩
      · exact .inl (by omega)
      · exact .inl (by omega)
    · rcases h2 with h2 | ⟨h2, h2'⟩
      · exact .inl (by omega)
      · exact .inr ⟨by omega, ltc_trans h1' h2'⟩
theorem slt_trans {a b c : Str} (h1 : slt a b) (h2 : slt b c) : slt a c := ltc_trans h1 h2
theorem slt_irrefl {a : Str} : ¬ slt a a := fun h => by unfold slt at h; rw [ltc_irrefl] at h; cases h
theorem slt_asymm {a b : Str} (h1 : slt a b) (h2 : slt b a) : False := slt_irrefl (slt_trans h1 h2)
theorem cps_ne {a b : Str} (h : a ≠ b) : a.cps.toList ≠ b.cps.toList := fun z => by
  obtain ⟨x⟩ := a
  obtain ⟨y⟩ := b
  refine h ?_
  have : x = y := Array.toList_inj.mp z
  rw [this]
theorem slt_of {a b : Str} (hne : a ≠ b) (h : ltCps b.cps.toList a.cps.toList = false) : slt a b := ltc_total (fun z => cps_ne hne z.symm) h
theorem rising_pw : ∀ (r : List Str) (p : Str), risingS p r = true → (p :: r).Nodup → (p :: r).Pairwise slt
  | [], _, _, _ => by simp
  | x :: r, p, h, nd => by
    have h : (!ltCps x.cps.toList p.cps.toList && risingS x r) = true := h
    rw [Bool.and_eq_true, Bool.not_eq_true'] at h
    obtain ⟨n1, n2⟩ := List.nodup_cons.mp nd
    have hpx : slt p x := slt_of (fun z => n1 (by rw [z]; exact List.mem_cons_self)) h.1
    have ih := rising_pw r x h.2 n2
    refine List.pairwise_cons.mpr ⟨fun y hy => ?_, ih⟩
    rcases List.mem_cons.mp hy with e | hy
    · rw [e]; exact hpx
    · exact slt_trans hpx ((List.pairwise_cons.mp ih).1 y hy)
theorem sorted_pw {ys : List Str} (h : sortedS ys = true) (nd : ys.Nodup) : ys.Pairwise slt := by
  cases ys with
  | nil => exact List.Pairwise.nil
  | cons p r => exact rising_pw r p h nd
theorem pw_nodup {ys : List Str} (h : ys.Pairwise slt) : ys.Nodup := h.imp fun {a b} hs e => by rw [e] at hs; exact slt_irrefl hs

/-! ### canonical lists -/
structure Canon (f : AL) : Prop where
  up : (keys f).Pairwise slt
  nz : ∀ p ∈ f, p.2 ≠ 0
theorem Canon.nd {f : AL} (c : Canon f) : (keys f).Nodup := pw_nodup c.up
theorem Canon.tail {p : Str × Int} {f : AL} (c : Canon (p :: f)) : Canon f :=
  ⟨(List.pairwise_cons.mp (show (p.1 :: keys f).Pairwise slt from c.up)).2, fun q hq => c.nz q (List.mem_cons_of_mem _ hq)⟩
theorem Canon.first {p : Str × Int} {f : AL} (c : Canon (p :: f)) {k : Str} (h : k ∈ keys f) : slt p.1 k :=
  (List.pairwise_cons.mp (show (p.1 :: keys f).Pairwise slt from c.up)).1 k h
theorem gt_cons (p : Str × Int) (f : AL) (k : Str) : gt (p :: f) k = if p.1 = k then p.2 else gt f k := by
  unfold gt
  by_cases e : p.1 = k
  · rw [if_pos e, look_cons_pos e]; rfl
  · rw [if_neg e, look_cons_neg e]
theorem canon_ext : ∀ {f g : AL}, Canon f → Canon g → (∀ k, gt f k = gt g k) → f = g
  | [], [], _, _, _ => rfl
  | [], q :: g, _, cg, h => by
    have e := h q.1
    rw [gt_cons, if_pos rfl] at e
    exact absurd e.symm (cg.nz q List.mem_cons_self)
  | p :: f, [], cf, _, h => by
    have e := h p.1
    rw [gt_cons, if_pos rfl] at e
    exact absurd e (cf.nz p List.mem_cons_self)
  | p :: f, q :: g, cf, cg, h => by
    have kp : p.1 = q.1 := by
      have e1 := h p.1
      have e2 := h q.1
      rw [gt_cons, if_pos rfl, gt_cons] at e1
      rw [gt_cons, gt_cons q, if_pos rfl] at e2
      by_cases e : p.1 = q.1
      · exact e
      · exfalso
        rw [if_neg (fun z => e z.symm)] at e1
        rw [if_neg e] at e2
        have m1 : p.1 ∈ keys g := by
          by_cases m : p.1 ∈ keys g
          · exact m
          · rw [gt_none m] at e1; exact absurd e1 (cf.nz p List.mem_cons_self)
        have m2 : q.1 ∈ keys f := by
          by_cases m : q.1 ∈ keys f
          · exact m
          · rw [gt_none m] at e2; exact absurd e2.symm (cg.nz q List.mem_cons_self)
        exact slt_asymm (cf.first m2) (cg.first m1)
    have vp : p.2 = q.2 := by
      have e1 := h p.1
      rw [gt_cons, if_pos rfl, gt_cons, if_pos kp.symm] at e1
      exact e1
    have tl : f = g := canon_ext cf.tail cg.tail fun k => by
      have e1 := h k
      rw [gt_cons, gt_cons, ← kp] at e1
      by_cases e : p.1 = k
      · have n1 : k ∉ keys f := fun m => slt_irrefl (e ▸ cf.first m)
        have n2 : k ∉ keys g := fun m => slt_irrefl (by have := cg.first m; rw [← kp, e] at this; exact this)
        rw [gt_none n1, gt_none n2]
      · rw [if_neg e, if_neg e] at e1
        exact e1
    obtain ⟨a, b⟩ := p
    obtain ⟨a', b'⟩ := q
    simp only at kp vp
    rw [kp, vp, tl]

/-- the canonical list over sorted keys -/
def norm (ys : List Str) (f : AL) : AL := (ys.filter fun k => !decide (gt f k = 0)).map fun k => (k, gt f k)
theorem keys_norm (ys : List Str) (f : AL) : keys (norm ys f) = ys.filter fun k => !decide (gt f k = 0) := by
  unfold keys norm
  rw [List.map_map]
  exact (List.map_congr_left (fun k _ => rfl)).trans (List.map_id _)
theorem canon_norm {ys : List Str} {f : AL} (h : ys.Pairwise slt) : Canon (norm ys f) := by
  refine ⟨by rw [keys_norm]; exact h.sublist List.filter_sublist, fun p hp => ?_⟩
  obtain ⟨k, hk, e⟩ := List.mem_map.mp hp
  have := (List.mem_filter.mp hk).2
  rw [← e]
  simpa using this
theorem gt_norm {ys : List Str} {f : AL} (h : ys.Pairwise slt) (hk : ∀ k, k ∈ keys f → k ∈ ys) (k : Str) : gt (norm ys f) k = gt f k := by
  by_cases e : gt f k = 0
  · rw [e]
    refine gt_none fun m => ?_
    rw [keys_norm] at m
    have := (List.mem_filter.mp m).2
    simp [e] at this
  · have m : k ∈ ys := by
      refine hk k ?_
      by_cases m : k ∈ keys f
      · exact m
      · exact absurd (gt_none m) e
    exact gt_of_mem (canon_norm h).nd (List.mem_map.mpr ⟨k, List.mem_filter.mpr ⟨m, by simp [e]⟩, rfl⟩)
theorem length_norm (ys : List Str) (f : AL) : (norm ys f).length ≤ ys.length := by
  unfold norm
  rw [List.length_map]
  exact List.length_filter_le _ _
theorem norm_snoc (ys : List Str) (k : Str) (f : AL) : norm (ys ++ [k]) f = if gt f k = 0 then norm ys f else norm ys f ++ [(k, gt f k)] := by
  unfold norm
  rw [List.filter_append, List.map_append]
  by_cases e : gt f k = 0
  · simp [e]
  · simp [e]

/-- g added, code by code -/
def addTo (acc : AL) (p : Str × Int) : AL := put acc p.1 (gt acc p.1 + p.2)
def addAll (f g : AL) : AL := g.foldl addTo f
theorem gt_addAll : ∀ {g f : AL}, (keys g).Nodup → ∀ k, gt (addAll f g) k = gt f k + gt g k
  | [], f, _, k => by show gt f k = gt f k + 0; omega
  | p :: g, f, nd, k => by
    obtain ⟨n1, n2⟩ := List.nodup_cons.mp (show (p.1 :: keys g).Nodup from nd)
    show gt (addAll (addTo f p) g) k = _
    rw [gt_addAll n2, addTo, gt_put, gt_cons]
    by_cases e : k = p.1
    · rw [if_pos e, if_pos e.symm, e, gt_none n1]; omega
    · rw [if_neg e, if_neg (fun z => e z.symm)]
theorem nodup_addAll : ∀ {g f : AL}, (keys f).Nodup → (keys (addAll f g)).Nodup
  | [], _, h => h
  | p :: g, f, h => nodup_addAll (g := g) (f := addTo f p) (nodup_put _ _ h)
theorem length_addAll : ∀ (g f : AL), (addAll f g).length ≤ f.length + g.length
  | [], f => Nat.le_refl _
  | p :: g, f => by
    have h1 := length_addAll g (addTo f p)
    have h2 : (addTo f p).length ≤ f.length + 1 := length_put _ _ _
    show (addAll (addTo f p) g).length ≤ f.length + (g.length + 1)
    omega
theorem take_more {α : Type} : ∀ {l : List α} {i : Nat} {x : α}, l[i]? = some x → l.take (i + 1) = l.take i ++ [x]
  | [], i, x, h => by simp at h
  | a :: l, 0, x, h => by
    have e : a = x := Option.some.inj h
    subst e
    rfl
  | a :: l, i + 1, x, h => by
    have ih := take_more (l := l) (i := i) (x := x) h
    show a :: l.take (i + 1) = a :: l.take i ++ [x]
    rw [ih]
    rfl
theorem addAll_more {f g : AL} {i : Nat} {p : Str × Int} (h : g[i]? = some p) : addAll f (g.take (i + 1)) = addTo (addAll f (g.take i)) p := by
  unfold addAll
  rw [take_more h, List.foldl_append]
  rfl
theorem perm_keys {ys : List Str} {f : AL} (h : ys.Perm (keys f)) (nd : (keys f).Nodup) (hs : sortedS ys = true) : ys.Pairwise slt ∧ (∀ k, k ∈ ys ↔ k ∈ keys f) ∧ ys.length = f.length :=
  ⟨sorted_pw hs (h.nodup_iff.mpr nd), fun k => h.mem_iff, by rw [h.length_eq]; unfold keys; rw [List.length_map]⟩
/-- dict(pairs) of pairs with keys that differ -/
theorem merge_toK : ∀ {g : AL} (f : AL), (keys (f ++ g)).Nodup → mergeK (toK f) (toK g) = toK (f ++ g)
  | [], f, _ => by rw [List.append_nil]; rfl
  | p :: g, f, nd => by
    have e : f ++ p :: g = (f ++ [p]) ++ g := by simp
    have hp : p.1 ∉ keys f := fun m => by
      have : (keys f ++ (p.1 :: keys g)).Nodup := by
        have z := nd
        unfold keys at z ⊢
        rw [List.map_append] at z
        exact z
      have q := (List.nodup_append.mp this).2.2 p.1 m p.1 List.mem_cons_self
      exact q rfl
    show mergeK (putK (toK f) (Sum.inr p.1) (V.int p.2)) (toK g) = _
    rw [← toK_put, put_new _ hp, e]
    exact merge_toK (f ++ [p]) (by rw [← e]; exact nd)
theorem merge_nil {g : AL} (nd : (keys g).Nodup) : mergeK [] (toK g) = toK g := merge_toK (g := g) [] nd

/-! ### codes -/
def letters : Str := Str.ofString "ABCDEFGHIJKLMNOPQRSTUVWXYZ0123456789"
structure IsCode (z : Str) : Prop where
  lo : 1 ≤ z.length
  hi : z.length ≤ 11
  all : ∀ c ∈ z.cps.toList, c ∈ letters.cps.toList
theorem notCode : ¬ IsCode (Str.ofString "a") := fun h => by
  have := h.all 97 (by decide +kernel)
  revert this
  decide +kernel
/-- counts: each code once, from 1 to 1000000 -/
structure CountsOk (f : AL) : Prop where
  nd : (keys f).Nodup
  ok : ∀ p ∈ f, IsCode p.1 ∧ 1 ≤ p.2 ∧ p.2 ≤ 1000000
theorem CountsOk.nil : CountsOk [] := ⟨List.nodup_nil, fun p h => by cases h⟩
theorem CountsOk.put {f : AL} {k : Str} {v : Int} (c : CountsOk f) (hk : IsCode k) (h1 : 1 ≤ v) (h2 : v ≤ 1000000) : CountsOk (put f k v) :=
  ⟨nodup_put _ _ c.nd, fun p hp => by
    rcases mem_put hp with h | h
    · exact c.ok p h
    · rw [h]; exact ⟨hk, h1, h2⟩⟩
end KT

/-! Rules beside the layer's: several except clauses with names, len of an own instance, an own error made with no argument, a method that may raise at the caller's slots. -/
namespace KT
open PySem PySem.Spec PyProof.Rows L2

/-! ### try: .. except A as n: .. except B as m: .. -/
def wMA (K : PySem.W.Frag) (Wout : WX) (D : Ends) : List (Value × Nat × (Addr → Value → Option Addr → TS)) → WX
  | [] => Wout
  | (c, i, ts) :: r => fun cls d σ H => ∃ b, PySem.W.exmOne K cls c = some b ∧
      (b = true → ∀ a, H a = none → ts a cls d { nx := fun σ' H' => D.nx (σ'.set i none) H', rt := D.rt, bk := fun σ' H' => D.bk (σ'.set i none) H', ct := fun σ' H' => D.ct (σ'.set i none) H' } (σ.set i (some (.ref a))) H) ∧
      (b = false → wMA K Wout D r cls d σ H)
inductive HdsAs (X : Cx) : List ExceptHandler → List (Value × Nat × (Addr → Value → Option Addr → TS)) → Prop
  | nil : HdsAs X [] []
  | cons {x n : Str} {c : Value} {i : Nat} {ts : Addr → Value → Option Addr → TS} {b0 : Stmt} {suite : List Stmt} {np pos' : Pos} {hds : List ExceptHandler} {l : List (Value × Nat × (Addr → Value → Option Addr → TS))}
      (hi : X.N[i]? = some n) (hln : X.env.kindOf n = some .local) (hc : Names X x c)
      (hsu : ∀ (a : Addr) (oe : Obj) (cls : Value) (d : Option Addr) (pn : List (Addr × Obj)), Zc cls d oe → (∃ vs, oe.data = .fields vs) → PSs (X.suite a ((a, oe) :: pn)) (b0 :: suite) (ts a cls d)) (r : HdsAs X hds l) :
      HdsAs X (.ExceptHandler (some (.Name x np)) (some n) (b0 :: suite) pos' :: hds) ((c, i, ts) :: l)
section
variable {X : Cx} {body : List Stmt} {h0 : ExceptHandler} {hds : List ExceptHandler} {l : List (Value × Nat × (Addr → Value → Option Addr → TS))} {pos : Pos} {tb : WX → TS} {Wout : WX}
theorem ps_try_mas (hs : X.stack = X.env :: X.outer) (hf : X.env.frame = some X.env.locals) (hN : X.N.Nodup) (tk : Takes X Wout)
    (hb : ∀ (W : WX) (pn : List (Addr × Obj)) (xe : Value → Shared → Prop), Takes (X.tr pn xe) W → PassesOwn (model X.prog X.w) X.A X.env xe → PSs (X.tr pn xe) body (tb W))
    (hh : HdsAs X (h0 :: hds) l) : PS X (.Try body (h0 :: hds) [] [] pos) (fun D σ H => tb (wMA X.K Wout D l) D σ H) := by
  refine ⟨fun pins s σ H D I h => ?_⟩
  have ok := I.ok
  have hfr : X.A.frames = some (X.env :: X.outer) := by rw [ok.frames, hs]
  refine wpAny_Try_except ?_
  refine wpAny_mono ((hb (wMA X.K Wout D l) (X.pn ++ pins) (fun e s1 => wpAny (model X.prog X.w) X.A (noteFrame e X.env) (fun _ s2 => wpAny (model X.prog X.w) X.A (setFlight e none) (fun _ s3 =>
    wpAny (model X.prog X.w) X.A (handleBy e X.env (h0 :: hds)) (SP X pins D) X.xe s3) X.xe s2) X.xe s1) (fun u s' xx => ?_) PassesOwn.looking).run [] s σ H D (I.toTry _) h) (fun f s1 hsp => ?_) (fun e s1 he => he)
  · obtain ⟨a, B, sI, pins', σ', H', cls, d, rfl, J', nb, up, sky, na, os, ag, w⟩ := xx
    have J : Inv X pins σ' H' sI := J'.ofTry ok
    have sky' : Sky B (X.env :: X.outer) a (Zc cls d) X.env.locals s'.heap := by rw [← hs]; exact sky
    show wpAny (model X.prog X.w) X.A (noteFrame (.ref a) X.env) _ _ _
    refine Sky.land Zc.steady hfr hf sky' fun h3 fl3 up3 => ?_
    have J3 : Inv X pins σ' H' { s' with heap := h3 } := J.landed nb fl3.1 (up.trans up3) os ag
    obtain ⟨oe3, vs3, he3, hz3, hd3⟩ := fl3.there
    have notFr : ∀ {h : Heap} {o : Obj} {vs : Array Value}, h.FunFrames B (X.env :: X.outer) → h.get? a = some o → o.data = .fields vs → a ∉ frs (X.env :: X.outer) := fun {h o vs} ff e dd hm => by
      obtain ⟨_, o', e', hnf⟩ := ff.mem hm
      rw [e] at e'; cases e'
      exact hnf _ dd
    have nfr := notFr fl3.2.2.1 he3 hd3
    have nL : a ≠ X.env.locals := fun z => nfr (List.mem_filterMap.mpr ⟨X.env, List.mem_cons_self, by rw [hf, z]⟩)
    have nF : a ∉ X.fs := fun hm => by
      obtain ⟨e, he, q⟩ := List.mem_filterMap.mp hm
      exact nfr (List.mem_filterMap.mpr ⟨e, List.mem_cons_of_mem _ he, q⟩)
    have S3 := J3.suite he3 hd3 na nL nF
    have go : ∀ {hds' : List ExceptHandler} {l' : List (Value × Nat × (Addr → Value → Option Addr → TS))}, HdsAs X hds' l' → wMA X.K Wout D l' cls d σ' H' →
        wpAny (model X.prog X.w) X.A (handleBy (.ref a) X.env hds') (SP X pins D) X.xe { s' with heap := h3 } := by
      intro hds' l' hk
      induction hk with
      | nil =>
        intro w
        refine wpAny_handleBy_nil ?_
        obtain ⟨k1, k2, k3, oe, vs, T, oT, ts', he, hz, hd, h1, hr⟩ := id fl3
        unfold PySem.passOn
        refine wpAny_bind (wpAny_field he hd h1 ?_)
        rw [if_neg (show ¬ ((Value.ref T == Value.none) = true) from by simp)]
        have fin : wpAny (model X.prog X.w) X.A (setFlight (.ref a) X.env.frame) (fun _ s4 => wpAny (model X.prog X.w) X.A (throw (.ref a) : Sem Flow) (SP X pins D) X.xe s4) X.xe { s' with heap := h3 } := by
          rw [hf]
          refine HandSPX.setFlight_upZ fl3 fun h4 hh4 up4 => wpAny_throw (tk _ _ ?_)
          exact ⟨a, B, sI, pins, σ', H', cls, d, rfl, J, nb, (up.trans up3).trans up4, .inr (.inr (by rw [hs]; exact hh4)), na, os, ag, w⟩
        first
          | exact wpAny_bind (wpAny_pure (wpAny_bind fin))
          | exact wpAny_bind fin
      | @cons x n c i ts b0 suite np pos' hds2 l2 hi hln hc hsu r ih =>
        intro w
        have hloc : Loc X.env.scope n := .inl hln
        obtain ⟨b, hb1, hyes, hno⟩ := w
        refine wpAny_handleBy_cons (codeAny_handlers_test ?_) (by intro q; cases q)
        have LT : PySem.W.Looks (model X.prog X.w) h3 (typeOf (.ref a)) cls := fun A Q E s k q => wpAny_typeOf_ref (k _ _ he3) (by rw [hz3.1]; exact q)
        have LM := PySem.W.exm_one (M := model X.prog X.w) (J3.kIn) LT hb1
        have test : ∀ {Q : Value → Shared → Prop} {E : Value → Shared → Prop}, Q c { s' with heap := h3 } → wpAny (model X.prog X.w) (X.A.mark (some (.ref a))) (eval (.Name x np) X.env) Q E { s' with heap := h3 } := fun {Q E} q => by
          obtain ⟨hg, hdbg, hm | ⟨hm, hv, hnn⟩⟩ := hc
          · exact ld_glob (X := X.suite a ((a, oe3) :: (X.pn ++ pins))) S3 hg hm q hdbg
          · exact ld_blt (X := X.suite a ((a, oe3) :: (X.pn ++ pins))) S3 hg hm hv q hnn hdbg
        refine test (LM.here ?_)
        cases b with
        | true =>
          refine codeAny_handlers_suite_as ?_
          refine HandSPX.lands_againZ fl3 fun h4 fl4 up4 => ?_
          have J4 : Inv X pins σ' H' { s' with heap := h4 } := J.landed nb fl4.1 ((up.trans up3).trans up4) os ag
          obtain ⟨oe4, vs4, he4, hz4, hd4⟩ := fl4.there
          have S4 := J4.suite he4 hd4 na nL nF
          refine store_ok (X := X.suite a ((a, oe4) :: (X.pn ++ pins))) (v := .ref a) S4 hN hi hloc rfl (fun s5 S5 => ?_) (.inr hln)
          refine wpAny_mono ((hsu a oe4 cls d (X.pn ++ pins) hz4 ⟨_, hd4⟩).run [] s5 _ H' _ S5 (hyes rfl a na)) (fun f s6 hsp => ?_) (fun _ _ z => False.elim z)
          have end_ : ∀ {σ6 : L2.St} {H6 : Hp} {Q : Shared → Prop}, Inv (X.suite a ((a, oe4) :: (X.pn ++ pins))) [] σ6 H6 s6 → (∀ s7, Inv X pins (σ6.set i none) H6 s7 → Q s7) →
              wpAny (model X.prog X.w) X.A (do bindName X.env n .none; unbindBehindTheSuite X.env n pos') (fun _ s7 => Q s7) X.xe s6 := fun {σ6 H6 Q} S6 hq => gone_ok (S6.unsuite ok) hN hi hln hq
          cases f with
          | next =>
            obtain ⟨σ6, H6, S6, q6⟩ := hsp
            exact end_ S6 fun s7 J7 => ⟨_, _, J7, q6⟩
          | brk =>
            obtain ⟨σ6, H6, S6, q6⟩ := hsp
            exact end_ S6 fun s7 J7 => ⟨_, _, J7, q6⟩
          | cont =>
            obtain ⟨σ6, H6, S6, q6⟩ := hsp
            exact end_ S6 fun s7 J7 => ⟨_, _, J7, q6⟩
          | ret u =>
            obtain ⟨v6, σ6, H6, S6, r6, q6⟩ := hsp
            exact end_ S6 fun s7 J7 => ⟨_, _, _, J7, r6, q6⟩
        | false =>
          show wpAny _ X.A (handleBy (.ref a) X.env hds2) _ _ _
          exact ih (hno rfl)
    exact go hh w
  · cases f with
    | next =>
      obtain ⟨σ', H', J', q⟩ := hsp
      exact wpAny_execs_nil ⟨σ', H', J'.ofTry ok, q⟩
    | brk =>
      obtain ⟨σ', H', J', q⟩ := hsp
      exact ⟨σ', H', J'.ofTry ok, q⟩
    | cont =>
      obtain ⟨σ', H', J', q⟩ := hsp
      exact ⟨σ', H', J'.ofTry ok, q⟩
    | ret u =>
      obtain ⟨v, σ', H', J', r, q⟩ := hsp
      exact ⟨v, σ', H', J'.ofTry ok, r, q⟩
end

/-! ### a method that may raise, at the caller's slots -/
def tMethT (C : Addr) (m : Str) (sp : Sp) (E : L2.St → XK) (ta : TE) (t : TA) : TE := fun σ H Q => ta σ H fun x H1 => ∃ a dx fs, x = .ref a ∧ H1 a = some (.ins C dx fs) ∧ fs.lookup m = none ∧
  t σ H1 fun vs H2 => sp (x :: vs) H2 Q (E σ)
section
variable {X : Cx} {CX : CXT} {k : Nat} {f C : Addr} {fd : FuncData} {ps : List Str} {sp : Sp} {E : L2.St → XK} {x m : Str} {p pos apos : Pos} {e o : Expr} {es : List Expr} {ta : TE} {t : TA}
theorem pe_methT {pl : Sem Bool} (he : PE X o ta) (c : Cls X.K C) (hm : Meth X.K C m f) (F : FnOk X.prog X.w X.K X.mg X.base CX k f fd ps sp) (hr : Room k X.A) (hb : Binds X.K fd ps []) (hx : ∀ σ, PassesAt CX X σ (E σ)) (ha : PA X (e :: es) t)
    (hst : starEach (e :: es) X.env = (false, eval e X.env) :: starEach es X.env := by rfl) (hpl : (backTo pos (starEach es X.env)).any (·.1) = false := by rfl)
    (ht : eval (.Call (.Attribute o m apos) (e :: es) [] pos) X.env = (do
      let ov ← eval o X.env
      standAt apos.atName
      let (f, first) ← holding [ov] (getMethod ov m pl)
      callWith pos f first (backTo pos (starEach (e :: es) X.env)) (backToKw pos (keywordEach [] X.env))) := by rfl) :
    PE X (.Call (.Attribute o m apos) (e :: es) [] pos) (tMethT C m sp E ta t) := by
  refine ⟨fun pins s σ H Q I h => ?_⟩
  refine PySem.W.methodCall_KW (pl := pl) (thn (he.run pins s σ H _ I h) fun u s1 ⟨x, H1, I1, rx, a, dx, fs, ex, ea, l, q⟩ => ?_) ht
  subst ex
  obtain rfl : u = Value.ref a := rx
  refine getmeth_ok I1 ea c hm l ?_
  refine PySem.W.callWith_K (first := [.ref a]) (h₀ := X.base) I.ok.mod.kin hm.kp (thn (ha.run pos pins s1 σ H1 _ I1 q) fun us s2 ⟨vs, H2, I2, r, q2⟩ => ⟨I2.kIn, ?_⟩) hst hpl
  exact run_fnS (us := .ref a :: us) (vs := .ref a :: vs) F hr hb (hx σ) I2 (.cons rfl r) q2
end

/-! ### len(o), o an instance of a class with its own __len__ -/
def rLenO (C : Addr) (sp : Sp) : List V → Hp → VK → Prop := fun xs H Q => ∃ a dx fs, xs = [.ref a] ∧ H a = some (.ins C dx fs) ∧ sp [.ref a] H (fun v H' => ∃ n : Int, v = .int n ∧ 0 ≤ n ∧ n < 2 ^ 63 ∧ Q (.int n) H') E0
section
variable {X : Cx} {CX : CXT} {k : Nat} {f C : Addr} {fd : FuncData} {ps : List Str} {sp : Sp}
theorem call_lenO (hs : PySem.W.findIn X.K (.ref C) "__len__" = some (some (.ref f))) (hf : PySem.W.isFn X.K (.ref f) = true) (F : FnOk X.prog X.w X.K X.mg X.base CX k f fd ps sp) (hr : Room (k + 1) X.A) (hb : Binds X.K fd ps [])
    (hx : Passes CX X E0) : CallR X (.builtin "len") (rLenO C sp) := by
  intro pins s σ H xs us Q I r h
  obtain ⟨a, dx, fs, rfl, ha, q⟩ := h
  obtain ⟨u, rfl, ru⟩ := vals1 r
  obtain rfl : u = Value.ref a := ru
  obtain ⟨mA, J, _⟩ := ins_get I.hok ha
  obtain ⟨od, J, _⟩ := J.look
  obtain ⟨m, hF⟩ := I.fr
  refine PySem.W.len_K hF I.ok.mod.kin J hs hf ?_
  have hl := F.len _ _ _ _ q
  have r2 : Vals [V.ref a] [Value.ref a] := .cons rfl .nil
  have b := hb s [Value.ref a] I.kIn (by rw [List.append_nil]; exact hl)
  rw [List.append_nil] at b
  refine wpAny_call (codeAny_mono (F.run X.A.in1 X.stack s H ⟨[.ref a], []⟩ [.ref a] [.ref a] _ E0 hr.in1 I.env0.in1 b r2 q) fun r s' hq => ?_)
  cases r with
  | error e => exact hx pins σ H s e s' I hq
  | ok fl =>
    cases fl with
    | ret u =>
      obtain ⟨v, H', I', rv, n, ev, h0, h1, q'⟩ := I.after hq
      subst ev
      obtain ⟨t, rfl⟩ := rv
      exact ⟨⟨h0, h1⟩, .int n, H', I'.tok _, ⟨_, rfl⟩, q'⟩
    | next => exact False.elim hq
    | brk => exact False.elim hq
    | cont => exact False.elim hq
end

/-! ### an own error made with no argument -/
section
variable {X : Cx} {C : Addr} {bmB : List Value} {B newId initId : String}
theorem pmk_own0 {x : Str} {p pos : Pos} (F : ExcBaseFacts B newId initId bmB) (q : PySem.W.excIn X.K C bmB newId = true) (gC : X.mg x = some (.ref C)) (kC : PySem.W.keepIn X.K (.ref C) = true) (r : Raises X (.ref C)) (hg : Gl X x)
    (hdb : (x == ("__debug__" : Str)) = false := by decide) : PMk X (.Call (.Name x p) [] [] pos) (fun _ H Q => Q (.ref C) none H) := by
  intro pins s σ H Q I h
  refine wpAny_Call_Name_kw (ld_glob I hg gC ?_ hdb)
  refine PySem.W.callWith_K0 I.kIn kC ?_
  show wpAny _ _ (call (.ref C) []) _ _ _
  obtain ⟨bm, N, nm, qn, bs, hdct, sn, sub, ab, col, dd, k0, k1, k2, k3, k5, mN, hC, hN, hni, T⟩ := exc_obj I.kIn q
  refine wpAny_call_exc_subT F T hC hN hni (fun h' e hm => ?_) (by show 0 ≤ sizeLine; exact Nat.zero_le _)
  exact mk_of I hm r h (I.hok.gone hm.new)
end
end KT

/-! The text by places; what the top has written; short words. -/
namespace KT
open PySem PySem.Spec PyProof.Rows L2

def top (i : Nat) : Stmt := PySem.Challenge.pw_quaybest_k64_whole_tallies.main.body.getD i (.Pass ⟨0, 0, 0, 0⟩)
abbrev sBcI : Stmt := inClass (top 6) 0
abbrev sIsCode : Stmt := top 7
abbrev sCheckCounts : Stmt := top 8
abbrev sOrdered : Stmt := top 9
abbrev sPutTog : Stmt := top 10
abbrev sCheckBill : Stmt := top 20
abbrev sRolled : Stmt := top 21
abbrev sRollUp : Stmt := top 22
abbrev sTI : Stmt := inClass (top 23) 0
abbrev sTLen : Stmt := inClass (top 23) 1
abbrev sTAdd : Stmt := inClass (top 23) 2
abbrev sTRem : Stmt := inClass (top 23) 3
abbrev sTTot : Stmt := inClass (top 23) 4
abbrev sTCmp : Stmt := inClass (top 23) 5
abbrev sPool : Stmt := top 25
abbrev sTake : Stmt := top 26
abbrev sCode : Stmt := top 27
abbrev sNumber : Stmt := top 28
abbrev sCounts : Stmt := top 29
abbrev sSum : Stmt := top 30
abbrev sAlike : Stmt := top 31
abbrev sIsInt : Stmt := top 32
abbrev sSame : Stmt := top 33
abbrev sTold : Stmt := top 34
abbrev sDue : Stmt := top 35
abbrev sLaw : Stmt := top 36

/-- a name of the module that holds v -/
def GV (mg : Str → Option Value) (x : Str) (v : V) : Prop := ∃ u, mg x = some u ∧ RelV v u
/-- what every walk asks of the module's names -/
structure Mg (mg : Str → Option Value) : Prop where
  len : mg "len" = none
  all : mg "all" = none
  sorted : mg "sorted" = none
  dict : mg "dict" = none
  list : mg "list" = none
  tuple : mg "tuple" = none
  range : mg "range" = none
  int : mg "int" = none
  str : mg "str" = none
  bool : mg "bool" = none
  isi : mg "isinstance" = none
  enum : mg "enumerate" = none
  letters : GV mg "CODE_LETTERS" (.str letters)
  mostCode : GV mg "MOST_CODE" (.int 11)
  mostCount : GV mg "MOST_COUNT" (.int 1000000)
  mostTotal : GV mg "MOST_TOTAL" (.int 1000000000)
  mostBills : GV mg "MOST_BILLS" (.int 12)
  mostDepth : GV mg "MOST_DEPTH" (.int 3)
  mostSheets : GV mg "MOST_SHEETS" (.int 100)
  mostName : GV mg "MOST_NAME" (.int 12)
section
variable {X : Cx}
theorem pe_gl {x : Str} {v : V} {pos : Pos} (h : GV X.mg x v) (hg : Gl X x := by rfl) (hd : (x == ("__debug__" : Str)) = false := by decide) : PE X (.Name x pos) (tC v) := by
  obtain ⟨u, hm, r⟩ := h
  exact pe_glob hg hm r hd
end
/-- a def of the module that keeps a promise -/
def Cl (P : Program) (w : World) (K : PySem.W.Frag) (mg : Str → Option Value) (base : Heap) (CX : CXT) (k : Nat) (x : Str) (ps : List Str) (sp : Sp) : Prop :=
  ∃ f fd, mg x = some (.ref f) ∧ PySem.W.keepIn K (.ref f) = true ∧ FnOk P w K mg base CX k f fd ps sp ∧ Binds K fd ps []
def tCl (sp : Sp) (E : XK) (t : TA) : TE := fun σ H Q => t σ H fun vs H1 => sp vs H1 Q E
section
variable {X : Cx} {CX : CXT} {k : Nat} {sp : Sp} {E : XK} {x : Str} {ps : List Str} {p pos : Pos} {e : Expr} {es : List Expr} {t : TA}
theorem pe_cl (c : Cl X.prog X.w X.K X.mg X.base CX k x ps sp) (hr : Room k X.A) (hx : Passes CX X E) (ha : PA X (e :: es) t) (hg : Gl X x := by rfl) (hdb : (x == ("__debug__" : Str)) = false := by decide)
    (he : starEach (e :: es) X.env = (false, eval e X.env) :: starEach es X.env := by rfl) (hpl : (backTo pos (starEach es X.env)).any (·.1) = false := by rfl) :
    PE X (.Call (.Name x p) (e :: es) [] pos) (tCl sp E t) := by
  obtain ⟨f, fd, hm, hk, F, hb⟩ := c
  refine ⟨fun pins s σ H Q I h => ?_⟩
  refine (pe_call F hr hg hm hk hb .nil hx ha hdb he hpl).run pins s σ H Q I ?_
  show t σ H fun vs H1 => sp (vs ++ []) H1 Q E
  have e1 : (fun vs H1 => sp (vs ++ []) H1 Q E) = fun vs H1 => sp vs H1 Q E := by
    funext vs H1
    rw [List.append_nil]
  rw [e1]
  exact h
end
theorem Cl.mono {P : Program} {w : World} {K : PySem.W.Frag} {mg : Str → Option Value} {base : Heap} {CX : CXT} {j k : Nat} {x : Str} {ps : List Str} {sp : Sp} (c : Cl P w K mg base CX j x ps sp) (h : j ≤ k) : Cl P w K mg base CX k x ps sp := by
  obtain ⟨f, fd, a, b, F, d⟩ := c
  exact ⟨f, fd, a, b, F.mono h, d⟩

theorem fn_false0 {P : Program} {w : World} {K : PySem.W.Frag} {mg : Str → Option Value} {base : Heap} {CX : CXT} {k : Nat} {f : Addr} {fd : FuncData} {ps : List Str} {sp : Sp} (h : ∀ vs H Q E, ¬ sp vs H Q E) : FnOk P w K mg base CX k f fd ps sp :=
  ⟨fun vs H Q E q => absurd q (h _ _ _ _), fun A outer s H args us vs Q E _ _ _ _ q => absurd q (h _ _ _ _)⟩
/-! ### ways that meet behind a statement -/
def tCutK (t u : TS) : TS := fun D σ H => ∃ Mid : L2.St → Hp → Prop, t { D with nx := Mid } σ H ∧ ∀ σ' H', Mid σ' H' → u D σ' H'
theorem pss_cutK {X : Cx} {st : Stmt} {rest : List Stmt} {t u : TS} (h1 : PS X st t) (h2 : PSs X rest u) : PSs X (st :: rest) (tCutK t u) := by
  refine ⟨fun pins s σ H D I h => ?_⟩
  obtain ⟨Mid, h, hm⟩ := h
  refine wpAny_execs_cons (thn (h1.run pins s σ H { D with nx := Mid } I h) fun f s1 q => ?_)
  cases f with
  | next =>
    obtain ⟨σ', H', I', q⟩ := q
    exact h2.run pins s1 σ' H' D I' (hm _ _ q)
  | ret v => exact q
  | brk => exact q
  | cont => exact q

/-! ### heaps -/
/-- all but a is as it was -/
def But (a : Addr) (H H' : Hp) : Prop := ∀ b o, H b = some o → b ≠ a → H' b = some o
theorem Same.but {a : Addr} {H H' : Hp} (h : Same H H') : But a H H' := fun b o e _ => h b o e
theorem Same.upd {H : Hp} {p : Addr} {o : HO} (h : H p = none) : Same H (upd H p o) := fun b u e => by rw [upd_ne (ne_of_none e h)]; exact e
theorem Same.upd' {H H1 : Hp} {p : Addr} {o : HO} (s : Same H H1) (h : H1 p = none) : Same H (L2.upd H1 p o) := s.trans (Same.upd h)
theorem But.upd {a : Addr} {H : Hp} {o : HO} : But a H (L2.upd H a o) := fun b u e n => by rw [upd_ne n]; exact e
theorem But.trans {a : Addr} {H H1 H2 : Hp} (x : But a H H1) (y : But a H1 H2) : But a H H2 := fun b o e n => y b o (x b o e n) n
/-- an object that is new behind: it was nothing ahead -/
theorem Same.new {H H1 : Hp} {p : Addr} (s : Same H H1) (h : H1 p = none) : H p = none := s.free h
/-- a dict of codes and ints stands at d -/
abbrev DAt (H : Hp) (d : Addr) (f : AL) : Prop := H d = some (.dK (toK f))
theorem Same.rd {H H' : Hp} {d : Addr} {u : HO} (s : Same H H') (h : Rd H d u) : Rd H' d u := by
  rcases h with h | ⟨o, h⟩
  · exact .inl (s _ _ h)
  · exact .inr ⟨o, s _ _ h⟩
theorem dget_of {H : Hp} {d : Addr} {f : AL} {k : Str} {v : Int} (h : Rd H d (.dK (toK f))) (hl : look f k = some v) : DGet H d (.str k) (some (.int v)) :=
  .inl ⟨toK f, Sum.inr k, h, rfl, by rw [valV_toK, hl]; rfl⟩
theorem dget_no {H : Hp} {d : Addr} {f : AL} {k : Str} (h : Rd H d (.dK (toK f))) : DGet H d (.str k) ((look f k).map V.int) :=
  .inl ⟨toK f, Sum.inr k, h, rfl, by rw [valV_toK]⟩
theorem n63 {n : Nat} (h : n ≤ 1000) : n < sizeLine := small1000 h
theorem n63' {n : Nat} (h : n ≤ 1000) : n ≤ sizeLine := Nat.le_of_lt (small1000 h)
end KT

namespace KT
open PySem PySem.Spec PyProof.Rows L2

/-- the draws' pool: cells, place, rest, seed -/
structure PoolAt (H : Hp) (p l : Addr) : Prop where
  ne : p ≠ l
  ex : ∃ (cells : List Int) (pos rest seed : Int), H p = some (.lst [.ref l, .int pos, .int rest, .int seed]) ∧ H l = some (.lst (cells.map V.int)) ∧ cells.length ≤ 63 ∧ (∀ c ∈ cells, 0 ≤ c) ∧ 0 ≤ pos ∧ 0 ≤ rest ∧ 0 ≤ seed ∧ seed < 2147483647
def spPool (K : PySem.W.Frag) : Sp := fun vs H Q _ => ∃ (a : Addr) (ns : List Int), vs = [.ref a] ∧ SqL K H a (ns.map V.int) ∧ ns.length ≤ 63 ∧
  ∀ (H' : Hp) (p l : Addr), Same H H' → H p = none → H l = none → PoolAt H' p l → Q (.ref p) H'
def nat1 (c : Int) : Int := if 0 ≤ c then 2 * c else -2 * c - 1
theorem nat1_nn (c : Int) : 0 ≤ nat1 c := by unfold nat1; split <;> omega
section
variable {P : Program} {w : World} {K : PySem.W.Frag} {mg : Str → Option Value} {base : Heap}
theorem map_int_get {ns : List Int} {i : Nat} {x : V} (h : (ns.map V.int)[i]? = some x) : ∃ z, ns[i]? = some z ∧ x = V.int z := by
  rw [List.getElem?_map] at h
  cases e : ns[i]? with
  | none => rw [e] at h; cases h
  | some z => rw [e] at h; exact ⟨z, rfl, (Option.some.inj h).symm⟩
theorem scPool : FnScope ["_law_script", "_law_cell"] ["_law_script"] (defScope sPool) := ⟨rfl, rfl, rfl, by decide +kernel, rfl, by decide +kernel, by decide +kernel⟩
theorem ok_pool {f : Addr} {fd : FuncData} (F : Fun K "_law_pool" "_law_pool" sPool f fd) : FnOk P w K mg base CX0 1 f fd ["_law_script"] (spPool K) := by
  refine F.ok scPool (fun vs H Q E h => ?_) (fun cdv A outer s H vs Q E hr h => ?_)
  · obtain ⟨a, ns, rfl, _⟩ := h
    rfl
  · obtain ⟨a, ns, rfl, hS, hn, k⟩ := h
    refine ⟨_, pss_one (ps_ret (pe_lst (pa_cons (pe_lc (own := [("_law_cell", 1)]) (g := gName 1) (tt := tYes) rfl scPool.nd (pi_list (pv 0)) (blkOk_by (own := [("_law_cell", 1)]) (N := ["_law_script", "_law_cell"]) (sc := defScope sPool) (by decide +kernel))
        (fun _ _ _ _ _ => pg_name (i := 1) scPool.nd rfl (Or.inl rfl)) (fun _ _ _ _ _ => pts_nil)
        (fun _ _ _ _ _ => pe_ifExp (pt_cmpR op_ge (pv 1) pe_int (nomark _)) (pe_op op_mul pe_int (pv 1)) (pe_op op_sub (pe_op op_mul (pe_un un_neg pe_int) (pv 1)) pe_int)))
        (pa_cons pe_int (pa_cons pe_int (pa_cons pe_int pa_nil)))))), ?_⟩
    refine ⟨_, rfl, a, rfl, ⟨_, hS⟩, fun D hD => ?_⟩
    refine lc_list (K := K) (a := a) (xs := ns.map V.int) (fun i H' => ∃ acc : List Int, H' D = some (.lst (acc.map V.int)) ∧ acc.length ≤ i ∧ (∀ c ∈ acc, 0 ≤ c) ∧ Same H H' ∧ ∀ b, H b = none → b ≠ D → H' b = none)
      ⟨[], upd_same, Nat.le_refl _, (fun c h => by cases h), Same.upd hD, fun b hb ne => by rw [upd_ne ne]; exact hb⟩ (fun i H' _ ⟨_, _, _, _, s1, _⟩ => s1.seq hS) ?_ ?_
    · rintro i x H' hi ⟨acc, hacc, hl, hnn, s1, hfr⟩
      obtain ⟨z, hz, rfl⟩ := map_int_get hi
      have hil : i < ns.length := (List.getElem?_eq_some_iff.mp hz).1
      have fin : ∀ y : Int, 0 ≤ y → ∃ acc' : List Int, (upd H' D (.lst (acc.map V.int ++ [V.int y]))) D = some (.lst (acc'.map V.int)) ∧ acc'.length ≤ i + 1 ∧ (∀ c ∈ acc', 0 ≤ c) ∧ Same H (upd H' D (.lst (acc.map V.int ++ [V.int y]))) ∧ ∀ b, H b = none → b ≠ D → (upd H' D (.lst (acc.map V.int ++ [V.int y]))) b = none := fun y hy =>
        ⟨acc ++ [y], by rw [upd_same, List.map_append]; rfl, by rw [List.length_append]; show acc.length + 1 ≤ _; omega, fun c hc => by
          rcases List.mem_append.mp hc with h | h
          · exact hnn c h
          · rw [List.mem_singleton.mp h]; exact hy, fun b o e => by rw [upd_ne (ne_of_none e hD)]; exact s1 b o e, fun b hb ne => by rw [upd_ne ne]; exact hfr b hb ne⟩
      refine ⟨rfl, ?_⟩
      refine ⟨_, rfl, _, _, rfl, rfl, _, rfl, ?_⟩
      by_cases c : 0 ≤ z
      · rw [decide_eq_true c]
        refine ⟨_, rfl, _, _, rfl, rfl, .inl ⟨by decide, by decide⟩, acc.map V.int, hacc, n63 (by rw [List.length_map]; omega), fin _ (by omega)⟩
      · rw [decide_eq_false c]
        refine ⟨_, rfl, _, rfl, _, _, rfl, rfl, .inl ⟨by decide, by decide⟩, _, _, rfl, rfl, acc.map V.int, hacc, n63 (by rw [List.length_map]; omega), fin _ (by omega)⟩
    · rintro H' ⟨acc, hacc, hl, hnn, s1, hfr⟩
      refine ⟨n63' (by show 4 ≤ 1000; decide), fun p hp => ?_⟩
      have npD : D ≠ p := ne_of_none hacc hp
      rw [List.length_map] at hl
      refine k _ p D (fun b o e => by rw [upd_ne (ne_of_none (s1 b o e) hp)]; exact s1 b o e) (s1.free hp) hD ⟨npD.symm, acc, 0, 0, 17, upd_same, by rw [upd_ne npD]; exact hacc, by omega, hnn, by decide, by decide, by decide, by decide⟩
end
end KT

namespace KT
open PySem PySem.Spec PyProof.Rows L2

def pl4 (l : Addr) (pos rest seed : Int) : List V := [.ref l, .int pos, .int rest, .int seed]
structure PoolS (H : Hp) (p l : Addr) (cells : List Int) (pos rest seed : Int) : Prop where
  ne : p ≠ l
  hp : H p = some (.lst (pl4 l pos rest seed))
  hl : H l = some (.lst (cells.map V.int))
  len : cells.length ≤ 63
  nn : ∀ c ∈ cells, 0 ≤ c
  p0 : 0 ≤ pos
  r0 : 0 ≤ rest
  s0 : 0 ≤ seed
  s1 : seed < 2147483647
theorem PoolAt.s {H : Hp} {p l : Addr} (h : PoolAt H p l) : ∃ cells pos rest seed, PoolS H p l cells pos rest seed := by
  obtain ⟨ne, cells, pos, rest, seed, a, b, c, d, e, f, g, i⟩ := h
  exact ⟨cells, pos, rest, seed, ne, a, b, c, d, e, f, g, i⟩
theorem PoolS.at_ {H : Hp} {p l : Addr} {cells : List Int} {pos rest seed : Int} (h : PoolS H p l cells pos rest seed) : PoolAt H p l :=
  ⟨h.ne, cells, pos, rest, seed, h.hp, h.hl, h.len, h.nn, h.p0, h.r0, h.s0, h.s1⟩
theorem PoolS.upd {H : Hp} {p l : Addr} {cells : List Int} {pos rest seed pos' rest' seed' : Int} (h : PoolS H p l cells pos rest seed) (a : 0 ≤ pos') (b : 0 ≤ rest') (c : 0 ≤ seed') (d : seed' < 2147483647) :
    PoolS (L2.upd H p (.lst (pl4 l pos' rest' seed'))) p l cells pos' rest' seed' :=
  ⟨h.ne, upd_same, by rw [upd_ne (Ne.symm h.ne)]; exact h.hl, h.len, h.nn, a, b, c, d⟩
theorem PoolAt.same {H H' : Hp} {p l : Addr} (h : PoolAt H p l) (s : Same H H') : PoolAt H' p l := by
  obtain ⟨ne, cells, pos, rest, seed, a, b, c⟩ := h
  exact ⟨ne, cells, pos, rest, seed, s _ _ a, s _ _ b, c⟩
theorem PoolAt.but {H H' : Hp} {p l d : Addr} (h : PoolAt H p l) (s : But d H H') (n1 : p ≠ d) (n2 : l ≠ d) : PoolAt H' p l := by
  obtain ⟨ne, cells, pos, rest, seed, a, b, c⟩ := h
  exact ⟨ne, cells, pos, rest, seed, s _ _ a n1, s _ _ b n2, c⟩
def spTakeR : Sp := fun vs H Q _ => ∃ (p l : Addr) (m : Int) (cells : List Int) (pos rest seed : Int), vs = [.ref p, .int m] ∧ 1 ≤ m ∧ m ≤ 1000 ∧ PoolS H p l cells pos rest seed ∧ 0 < rest ∧
  ∀ (d : Int) (H' : Hp), 0 ≤ d → d < m → But p H H' → PoolAt H' p l → Q (.int d) H'
def spTake : Sp := fun vs H Q _ => ∃ (p l : Addr) (m : Int), vs = [.ref p, .int m] ∧ 1 ≤ m ∧ m ≤ 1000 ∧ PoolAt H p l ∧
  ∀ (d : Int) (H' : Hp), 0 ≤ d → d < m → But p H H' → PoolAt H' p l → Q (.int d) H'
theorem mod_lo {a m : Int} (h : 1 ≤ m) : 0 ≤ a % m := Int.emod_nonneg _ (by omega)
theorem mod_hi {a m : Int} (h : 1 ≤ m) : a % m < m := Int.emod_lt_of_pos _ (by omega)
theorem div_nn {a m : Int} (h : 0 ≤ a) (hm : 1 ≤ m) : 0 ≤ a / m := Int.ediv_nonneg h (by omega)
section
variable {P : Program} {w : World} {K : PySem.W.Frag} {mg : Str → Option Value} {base : Heap}
abbrev nTake : List Str := ["_law_pool_here", "_law_many", "_law_digit", "_law_cell", "_law_mixed"]
theorem scTake : FnScope nTake ["_law_pool_here", "_law_many"] (defScope sTake) := ⟨rfl, rfl, rfl, by decide +kernel, rfl, by decide +kernel, by decide +kernel⟩
theorem ok_takeR {f : Addr} {fd : FuncData} (F : Fun K "_law_take" "_law_take" sTake f fd) (M : Mg mg) : FnOk P w K mg base CX0 1 f fd ["_law_pool_here", "_law_many"] spTakeR := by
  refine F.ok scTake (fun vs H Q E h => ?_) (fun cdv A outer s H vs Q E hr h => ?_)
  · obtain ⟨p, l, m, _, _, _, _, rfl, _⟩ := h
    rfl
  · obtain ⟨p, l, m, cells, pos, rest, seed, rfl, hm1, hm2, S, hrest, k⟩ := h
    refine ⟨_, pss_cons (ps_if (pt_cmpR op_gt (pe_ix ix_list (pv 0) pe_int (fun _ _ => rfl)) pe_int (nomark _))
      (pss_cons (ps_set (i := 2) scTake.nd rfl (Or.inl rfl) (pe_op op_mod (pe_callTy call_int1 (by rfl) M.int (by decide +kernel) (pa_cons (pe_ix ix_list (pv 0) pe_int (fun _ _ => rfl)) pa_nil)) (pv 1)))
      (pss_cons (ps_asg (pe_op op_fdiv (pe_ix ix_list (pv 0) pe_int (fun _ _ => rfl)) (pv 1)) (pg_sub (pv 0) pe_int set_list))
      (pss_one (ps_ret (pv 2))))) pss_nil) pss_never, ?_⟩
    have hp := S.hp
    refine ⟨_, rfl, p, _, _, _, rfl, rfl, SqL.of hp, (show atI (pl4 l pos rest seed) 2 = some (V.int rest) from rfl), _, _, rfl, rfl, _, rfl, ?_⟩
    rw [decide_eq_true hrest]
    refine ⟨_, rfl, p, _, _, _, rfl, rfl, SqL.of hp, (show atI (pl4 l pos rest seed) 2 = some (V.int rest) from rfl), .inl ⟨_, rfl, _, rfl, _, _, rfl, rfl, (by show 0 < m; omega), ?_⟩⟩
    refine ⟨_, rfl, p, _, _, _, rfl, rfl, SqL.of hp, (show atI (pl4 l pos rest seed) 2 = some (V.int rest) from rfl), _, rfl, _, _, rfl, rfl, ⟨by omega, by omega⟩, ?_⟩
    refine ⟨_, rfl, p, _, _, 2, rfl, rfl, hp, rfl, ?_⟩
    refine ⟨_, rfl, ?_⟩
    exact k _ _ (mod_lo hm1) (mod_hi hm1) But.upd (S.upd (pos' := pos) (rest' := rest / m) (seed' := seed) S.p0 (div_nn S.r0 hm1) S.s0 S.s1).at_
theorem ok_take {f : Addr} {fd : FuncData} (F : Fun K "_law_take" "_law_take" sTake f fd) (M : Mg mg) (G : Cl P w K mg base CX0 1 "_law_take" ["_law_pool_here", "_law_many"] spTakeR) : FnOk P w K mg base CX0 2 f fd ["_law_pool_here", "_law_many"] spTake := by
  refine F.ok scTake (fun vs H Q E h => ?_) (fun cdv A outer s H vs Q E hr h => ?_)
  · obtain ⟨p, l, m, rfl, _⟩ := h
    rfl
  · obtain ⟨p, l, m, rfl, hm1, hm2, S, k⟩ := h
    obtain ⟨cells, pos, rest, seed, S⟩ := S.s
    refine ⟨_, pss_cons (ps_if (pt_cmpR op_gt (pe_ix ix_list (pv 0) pe_int (fun _ _ => rfl)) pe_int (nomark _))
      (pss_cons (ps_set (i := 2) scTake.nd rfl (Or.inl rfl) (pe_op op_mod (pe_callTy call_int1 (by rfl) M.int (by decide +kernel) (pa_cons (pe_ix ix_list (pv 0) pe_int (fun _ _ => rfl)) pa_nil)) (pv 1)))
      (pss_cons (ps_asg (pe_op op_fdiv (pe_ix ix_list (pv 0) pe_int (fun _ _ => rfl)) (pv 1)) (pg_sub (pv 0) pe_int set_list))
      (pss_one (ps_ret (pv 2))))) pss_nil)
      (pss_cons (ps_set (i := 3) scTake.nd rfl (Or.inl rfl) pe_int)
      (pss_cutK (ps_if (pt_cmpR op_lt (pe_ix ix_list (pv 0) pe_int (fun _ _ => rfl)) (pe_callB call_len_seq (by rfl) M.len PySem.boot_len (pa_cons (pe_ix ix_list (pv 0) pe_int (fun _ _ => rfl)) pa_nil)) (nomark _))
        (pss_one (ps_set (i := 3) scTake.nd rfl (Or.inl rfl) (pe_ix ix_list (pe_ix ix_list (pv 0) pe_int (fun _ _ => rfl)) (pe_ix ix_list (pv 0) pe_int (fun _ _ => rfl)) (fun _ _ => rfl)))) pss_nil)
      (pss_cons (ps_asg (pe_op op_add (pe_ix ix_list (pv 0) pe_int (fun _ _ => rfl)) pe_int) (pg_sub (pv 0) pe_int set_list))
      (pss_cons (ps_if (pt_cmpR op_ge (pv 3) (pe_op op_pow pe_int pe_int) (nomark _))
        (pss_cons (ps_asg (pe_op op_fdiv (pv 3) pe_int) (pg_sub (pv 0) pe_int set_list))
        (pss_one (ps_ret (pe_cl G (hr.mono (by decide)) pass0 (pa_cons (pv 0) (pa_cons (pv 1) pa_nil)))))) pss_nil)
      (pss_cons (ps_asg (pe_op op_mod (pe_callTy call_int1 (by rfl) M.int (by decide +kernel) (pa_cons (pe_op op_add (pe_op op_add (pe_op op_mul (pe_ix ix_list (pv 0) pe_int (fun _ _ => rfl)) pe_int) (pe_op op_mul (pv 3) pe_int)) (pe_op op_mul (pe_ix ix_list (pv 0) pe_int (fun _ _ => rfl)) pe_int)) pa_nil)) pe_int) (pg_sub (pv 0) pe_int set_list))
      (pss_cons (ps_set (i := 4) scTake.nd rfl (Or.inl rfl) (pe_op op_mod (pe_callTy call_int1 (by rfl) M.int (by decide +kernel) (pa_cons (pe_op op_add (pe_op op_add (pe_op op_mul (pe_ix ix_list (pv 0) pe_int (fun _ _ => rfl)) (pe_ix ix_list (pv 0) pe_int (fun _ _ => rfl))) (pe_op op_mul (pe_ix ix_list (pv 0) pe_int (fun _ _ => rfl)) pe_int)) pe_int) pa_nil)) pe_int))
      (pss_one (ps_ret (pe_op op_mod (pe_callTy call_int1 (by rfl) M.int (by decide +kernel) (pa_cons (pe_op op_fdiv (pv 4) pe_int) pa_nil)) (pv 1)))))))))), ?_⟩
    have hp := S.hp
    have at0 : ∀ pos rest seed, atI (pl4 l pos rest seed) 0 = some (V.ref l) := fun _ _ _ => rfl
    have at1 : ∀ pos rest seed, atI (pl4 l pos rest seed) 1 = some (V.int pos) := fun _ _ _ => rfl
    have at2 : ∀ pos rest seed, atI (pl4 l pos rest seed) 2 = some (V.int rest) := fun _ _ _ => rfl
    have at3 : ∀ pos rest seed, atI (pl4 l pos rest seed) 3 = some (V.int seed) := fun _ _ _ => rfl
    refine ⟨_, rfl, p, _, _, _, rfl, rfl, SqL.of hp, at2 _ _ _, _, _, rfl, rfl, _, rfl, ?_⟩
    by_cases hrest : 0 < rest
    · rw [decide_eq_true hrest]
      refine ⟨_, rfl, p, _, _, _, rfl, rfl, SqL.of hp, at2 _ _ _, .inl ⟨_, rfl, _, rfl, _, _, rfl, rfl, (by show 0 < m; omega), ?_⟩⟩
      refine ⟨_, rfl, p, _, _, _, rfl, rfl, SqL.of hp, at2 _ _ _, _, rfl, _, _, rfl, rfl, ⟨by omega, by omega⟩, ?_⟩
      refine ⟨_, rfl, p, _, _, 2, rfl, rfl, hp, rfl, ?_⟩
      refine ⟨_, rfl, ?_⟩
      exact k _ _ (mod_lo hm1) (mod_hi hm1) But.upd (S.upd (pos' := pos) (rest' := rest / m) (seed' := seed) S.p0 (div_nn S.r0 hm1) S.s0 S.s1).at_
    · rw [decide_eq_false hrest]
      refine ⟨fun σ' H' => H' = H ∧ ∃ c : Int, 0 ≤ c ∧ σ' = [some (.ref p), some (.int m), none, some (.int c), none], ?_, ?_⟩
      · refine ⟨_, rfl, p, _, _, _, rfl, rfl, SqL.of hp, at1 _ _ _, ?_⟩
        refine ⟨_, rfl, p, _, _, _, rfl, rfl, SqL.of hp, at0 _ _ _, l, _, rfl, .inl (SqL.of S.hl), _, _, rfl, rfl, _, rfl, ?_⟩
        by_cases hb : pos < ((cells.map V.int).length : Int)
        · rw [decide_eq_true hb]
          obtain ⟨j, rfl⟩ : ∃ j : Nat, pos = (j : Int) := ⟨pos.toNat, by have := S.p0; omega⟩
          have hj : j < cells.length := by rw [List.length_map] at hb; omega
          have hg : (cells.map V.int)[j]? = some (V.int cells[j]) := by rw [List.getElem?_map, List.getElem?_eq_getElem hj]; rfl
          refine ⟨_, rfl, p, _, _, _, rfl, rfl, SqL.of hp, at0 _ _ _, ?_⟩
          refine ⟨_, rfl, p, _, _, _, rfl, rfl, SqL.of hp, at1 _ _ _, l, _, _, _, rfl, rfl, SqL.of S.hl, atI_nat hg, ?_⟩
          exact ⟨rfl, cells[j], S.nn _ (List.getElem_mem hj), rfl⟩
        · rw [decide_eq_false hb]
          exact ⟨rfl, 0, Int.le_refl _, rfl⟩
      rintro σ' H' ⟨rfl, c, hc, rfl⟩
      -- pool[1] = pool[1] + 1
      refine ⟨_, rfl, p, _, _, _, rfl, rfl, SqL.of hp, at1 _ _ _, _, _, rfl, rfl, ?_⟩
      refine ⟨_, rfl, p, _, _, 1, rfl, rfl, hp, rfl, ?_⟩
      have S1 : PoolS (upd H' p (.lst (pl4 l (pos + 1) rest seed))) p l cells (pos + 1) rest seed := S.upd (by have := S.p0; omega) S.r0 S.s0 S.s1
      have hp1 := S1.hp
      -- if cell >= 10 ** 18
      refine ⟨_, rfl, _, _, rfl, rfl, ⟨by decide, by decide, by decide⟩, _, _, rfl, rfl, _, rfl, ?_⟩
      by_cases hbig : (10 : Int) ^ (18 : Int).toNat ≤ c
      · rw [decide_eq_true hbig]
        have hc2 : 0 < c / 2 := by
          have : (10 : Int) ^ (18 : Int).toNat = 1000000000000000000 := by decide +kernel
          omega
        refine ⟨_, rfl, _, _, rfl, rfl, ⟨by decide, by decide⟩, ?_⟩
        refine ⟨_, rfl, p, _, _, 2, rfl, rfl, hp1, rfl, ?_⟩
        have S2 : PoolS (upd (upd H' p (.lst (pl4 l (pos + 1) rest seed))) p (.lst (pl4 l (pos + 1) (c / 2) seed))) p l cells (pos + 1) (c / 2) seed := S1.upd (by have := S.p0; omega) (by omega) S.s0 S.s1
        refine ⟨_, rfl, _, rfl, ?_⟩
        exact ⟨p, l, m, cells, pos + 1, c / 2, seed, rfl, hm1, hm2, S2, hc2, fun d H2 h1 h2 b2 q2 => k d H2 h1 h2 ((But.upd.trans But.upd).trans b2) q2⟩
      · rw [decide_eq_false hbig]
        -- pool[3] = ..
        refine ⟨_, rfl, p, _, _, _, rfl, rfl, SqL.of hp1, at3 _ _ _, _, _, rfl, rfl, .inr ⟨by decide, by decide⟩, ?_⟩
        refine ⟨_, rfl, _, _, rfl, rfl, .inr ⟨by decide, by decide⟩, _, _, rfl, rfl, ?_⟩
        refine ⟨_, rfl, p, _, _, _, rfl, rfl, SqL.of hp1, at1 _ _ _, _, _, rfl, rfl, .inr ⟨by decide, by decide⟩, _, _, rfl, rfl, .inl ⟨_, rfl, _, _, rfl, rfl, (by show (0 : Int) < 2147483647; decide), ?_⟩⟩
        refine ⟨_, rfl, p, _, _, 3, rfl, rfl, hp1, rfl, ?_⟩
        have sd0 : 0 ≤ ((seed * 48271 + c * 69621 + (pos + 1) * 613) % 2147483647) := mod_lo (by decide)
        have sd1 : ((seed * 48271 + c * 69621 + (pos + 1) * 613) % 2147483647) < 2147483647 := mod_hi (by decide)
        have S2 : PoolS (upd (upd H' p (.lst (pl4 l (pos + 1) rest seed))) p (.lst (pl4 l (pos + 1) rest ((seed * 48271 + c * 69621 + (pos + 1) * 613) % 2147483647)))) p l cells (pos + 1) rest ((seed * 48271 + c * 69621 + (pos + 1) * 613) % 2147483647) := S1.upd (by have := S.p0; omega) S.r0 sd0 sd1
        have hp2 := S2.hp
        -- mixed = ..
        refine ⟨_, rfl, p, _, _, _, rfl, rfl, SqL.of hp2, at3 _ _ _, ?_⟩
        refine ⟨_, rfl, p, _, _, _, rfl, rfl, SqL.of hp2, at3 _ _ _, _, _, rfl, rfl, .inr ⟨Int.lt_of_lt_of_le (by decide) sd0, Int.lt_trans sd1 (by decide)⟩, ?_⟩
        refine ⟨_, rfl, p, _, _, _, rfl, rfl, SqL.of hp2, at3 _ _ _, _, _, rfl, rfl, .inr ⟨by decide, by decide⟩, _, _, rfl, rfl, _, _, rfl, rfl, .inl ⟨_, rfl, _, _, rfl, rfl, (by show (0 : Int) < 1000000007; decide), ?_⟩⟩
        -- return int(mixed // 3) % many
        refine ⟨_, rfl, _, _, rfl, rfl, ⟨by decide, by decide⟩, .inl ⟨_, rfl, _, rfl, _, _, rfl, rfl, (by show 0 < m; omega), ?_⟩⟩
        exact k _ _ (mod_lo hm1) (mod_hi hm1) (But.upd.trans But.upd) S2.at_
end
end KT

namespace KT
open PySem PySem.Spec PyProof.Rows L2

def one (c : Nat) : Str := ⟨#[c]⟩
theorem joinL_nil : ∀ parts : List (List Nat), TL.joinL [] parts = parts.flatten
  | [] => rfl
  | [p] => by simp [TL.joinL]
  | p :: q :: r => by
    show p ++ ([] ++ TL.joinL [] (q :: r)) = _
    rw [joinL_nil (q :: r)]
    simp
theorem flat_one : ∀ cs : List Nat, ((cs.map one).map TL.tl).flatten = cs
  | [] => rfl
  | c :: r => by
    show [c] ++ ((r.map one).map TL.tl).flatten = _
    rw [flat_one r]
    rfl
theorem join_one (cs : List Nat) (e : Str) (he : TL.tl e = []) : (Txt.join e (cs.map one)).cps.toList = cs := by
  have h : TL.tl (Txt.join e (cs.map one)) = TL.joinL (TL.tl e) ((cs.map one).map TL.tl) := (congrArg TL.tl (TL.join_eq e (cs.map one))).trans (TL.tl_join e (cs.map one))
  rw [he, joinL_nil, flat_one] at h
  exact h
theorem join_code {cs : List Nat} {e : Str} (he : TL.tl e = []) (h1 : 1 ≤ cs.length) (h2 : cs.length ≤ 11) (h : ∀ c ∈ cs, c ∈ letters.cps.toList) : IsCode (Txt.join e (cs.map one)) := by
  have q := join_one cs e he
  have hl : (Txt.join e (cs.map one)).length = cs.length := by
    have := congrArg List.length q
    rw [Array.length_toList] at this
    exact this
  exact ⟨by rw [hl]; exact h1, by rw [hl]; exact h2, fun c hc => h c (by rw [q] at hc; exact hc)⟩
theorem sum_one : ∀ cs : List Nat, ((cs.map one).map (·.length)).sum = cs.length
  | [] => rfl
  | c :: r => by
    rw [List.map_cons, List.map_cons, List.sum_cons, sum_one r, List.length_cons]
    show 1 + r.length = _
    omega

def spNumber : Sp := fun vs H Q _ => ∃ (p l : Addr), vs = [.ref p] ∧ PoolAt H p l ∧ ∀ (n : Int) (H' : Hp), 1 ≤ n → n ≤ 1000000 → But p H H' → PoolAt H' p l → Q (.int n) H'
def spCode : Sp := fun vs H Q _ => ∃ (p l : Addr), vs = [.ref p] ∧ PoolAt H p l ∧ ∀ (z : Str) (H' : Hp), IsCode z → But p H H' → PoolAt H' p l → Q (.str z) H'
section
variable {P : Program} {w : World} {K : PySem.W.Frag} {mg : Str → Option Value} {base : Heap}
abbrev TakeOk (P : Program) (w : World) (K : PySem.W.Frag) (mg : Str → Option Value) (base : Heap) : Prop := Cl P w K mg base CX0 2 "_law_take" ["_law_pool_here", "_law_many"] spTake
theorem scNumber : FnScope ["_law_pool_here"] ["_law_pool_here"] (defScope sNumber) := ⟨rfl, rfl, rfl, by decide +kernel, rfl, by decide +kernel, by decide +kernel⟩
theorem ok_number {f : Addr} {fd : FuncData} (F : Fun K "_law_number" "_law_number" sNumber f fd) (G : TakeOk P w K mg base) : FnOk P w K mg base CX0 3 f fd ["_law_pool_here"] spNumber := by
  refine F.ok scNumber (fun vs H Q E h => ?_) (fun cdv A outer s H vs Q E hr h => ?_)
  · obtain ⟨p, l, rfl, _⟩ := h
    rfl
  · obtain ⟨p, l, rfl, S, k⟩ := h
    refine ⟨_, pss_cons (ps_if (pt_cmpR op_eq (pe_cl G hr pass0 (pa_cons (pv 0) (pa_cons pe_int pa_nil))) pe_int (nomark _)) (pss_one (ps_ret (pe_op op_sub pe_int (pe_cl G hr pass0 (pa_cons (pv 0) (pa_cons pe_int pa_nil)))))) pss_nil)
      (pss_one (ps_ret (pe_op op_add pe_int (pe_cl G hr pass0 (pa_cons (pv 0) (pa_cons pe_int pa_nil)))))), ?_⟩
    refine ⟨_, rfl, p, l, 9, rfl, by decide, by decide, S, fun d H1 d0 d1 b1 S1 => ⟨rfl, _, rfl, ?_⟩⟩
    by_cases c : V.int d = V.int 1
    · rw [decide_eq_true c]
      refine ⟨_, rfl, p, l, 3, rfl, by decide, by decide, S1, fun d2 H2 e0 e1 b2 S2 => ⟨_, _, rfl, rfl, k _ _ (by omega) (by omega) (b1.trans b2) S2⟩⟩
    · rw [decide_eq_false c]
      refine ⟨_, rfl, p, l, 5, rfl, by decide, by decide, S1, fun d2 H2 e0 e1 b2 S2 => ⟨_, _, rfl, rfl, k _ _ (by omega) (by omega) (b1.trans b2) S2⟩⟩
abbrev nCode : List Str := ["_law_pool_here", "_law_kind", "_law_letters", "_law_k"]
theorem scCode : FnScope nCode ["_law_pool_here"] (defScope sCode) := ⟨rfl, rfl, rfl, by decide +kernel, rfl, by decide +kernel, by decide +kernel⟩
/-- the comprehension of signs drawn: its end -/
theorem code_end {Q : VK} {p l D : Addr} {H H' : Hp} {e : Str} (he : TL.tl e = []) {acc : List Nat} {n : Nat} (hacc : H' D = some (.lst ((acc.map one).map V.str))) (hl : acc.length = n) (h1 : 1 ≤ n) (h2 : n ≤ 11) (hc : ∀ c ∈ acc, c ∈ letters.cps.toList)
    (b : But p H H') (S : PoolAt H' p l) (k : ∀ (z : Str) (H' : Hp), IsCode z → But p H H' → PoolAt H' p l → Q (.str z) H') :
    ∃ a q, ∃ ys : List Str, V.str e = .str a ∧ [V.ref D] = [.ref q] ∧ (SqL K H' q (ys.map V.str) ∨ SqT K H' q (ys.map V.str)) ∧ (ys.map (·.length)).sum + ys.length * a.length ≤ 16777216 ∧ Q (.str (Txt.join a ys)) H' := by
  refine ⟨e, D, acc.map one, rfl, rfl, .inl (SqL.of hacc), ?_, k _ _ (join_code he (by omega) (by omega) hc) b S⟩
  rw [sum_one, List.length_map]
  have : e.length = 0 := by
    have := congrArg List.length he
    unfold TL.tl at this
    rw [Array.length_toList] at this
    exact this
  rw [this]
  omega
theorem ok_code {f : Addr} {fd : FuncData} (F : Fun K "_law_code" "_law_code" sCode f fd) (M : Mg mg) (G : TakeOk P w K mg base) : FnOk P w K mg base CX0 3 f fd ["_law_pool_here"] spCode := by
  refine F.ok scCode (fun vs H Q E h => ?_) (fun cdv A outer s H vs Q E hr h => ?_)
  · obtain ⟨p, l, rfl, _⟩ := h
    rfl
  · obtain ⟨p, l, rfl, S, k⟩ := h
    refine ⟨_, pss_cons (ps_set (i := 1) scCode.nd rfl (Or.inl rfl) (pe_cl G hr pass0 (pa_cons (pv 0) (pa_cons pe_int pa_nil))))
      (pss_cons (ps_if (pt_cmpR op_eq (pv 1) pe_int (nomark _))
        (pss_cons (ps_set (i := 2) scCode.nd rfl (Or.inr rfl) pe_str)
        (pss_one (ps_ret (pe_join pe_str (pe_lc (own := [("_law_k", 3)]) (g := gName 3) (tt := tYes) rfl scCode.nd (pi_range1 (by rfl) M.range (pa_cons (pe_op op_add pe_int (pe_cl G hr pass0 (pa_cons (pv 0) (pa_cons pe_int pa_nil)))) pa_nil))
          (blkOk_by (own := [("_law_k", 3)]) (N := nCode) (sc := defScope sCode) (by decide +kernel)) (fun _ _ _ _ _ => pg_name (i := 3) scCode.nd rfl (Or.inl rfl)) (fun _ _ _ _ _ => pts_nil)
          (fun _ _ _ _ _ => pe_ix ix_str (pv 2) (pe_cl G hr pass0 (pa_cons (pv 0) (pa_cons pe_int pa_nil))) (fun _ _ => rfl))))))) pss_nil)
      (pss_one (ps_ret (pe_join pe_str (pe_lc (own := [("_law_k", 3)]) (g := gName 3) (tt := tYes) rfl scCode.nd (pi_range1 (by rfl) M.range (pa_cons (pe_op op_add pe_int (pe_cl G hr pass0 (pa_cons (pv 0) (pa_cons pe_int pa_nil)))) pa_nil))
          (blkOk_by (own := [("_law_k", 3)]) (N := nCode) (sc := defScope sCode) (by decide +kernel)) (fun _ _ _ _ _ => pg_name (i := 3) scCode.nd rfl (Or.inl rfl)) (fun _ _ _ _ _ => pts_nil)
          (fun _ _ _ _ _ => pe_ix ix_str pe_str (pe_cl G hr pass0 (pa_cons (pv 0) (pa_cons pe_int pa_nil))) (fun _ _ => rfl))))))), ?_⟩
    refine ⟨_, rfl, p, l, 5, rfl, by decide, by decide, S, fun d H1 d0 d1 b1 S1 => ?_⟩
    refine ⟨_, rfl, rfl, _, rfl, ?_⟩
    -- one sign drawn from the text t
    have turn : ∀ (t : Str) (m : Nat), t.length = m → 1 ≤ m → m ≤ 1000 → (∀ c ∈ t.cps.toList, c ∈ letters.cps.toList) → ∀ (D : Addr) (Hs : Hp) (hD : Hs D = none) (i : Nat) (H' : Hp) (acc : List Nat), i < 20 → H' D = some (.lst ((acc.map one).map V.str)) → acc.length = i → (∀ c ∈ acc, c ∈ letters.cps.toList) →
        But p Hs H' → PoolAt H' p l → p ≠ D → l ≠ D → spTake [.ref p, .int (m : Int)] H' (fun v H4 => ∃ z i c, V.str t = .str z ∧ v = .int i ∧ z.length ≤ sizeLine ∧ atI z.cps.toList i = some c ∧
          ∃ ac, H4 D = some (.lst ac) ∧ ac.length < sizeLine ∧ ∃ acc' : List Nat, (L2.upd H4 D (.lst (ac ++ [.str ⟨#[c]⟩]))) D = some (.lst ((acc'.map one).map V.str)) ∧ acc'.length = acc.length + 1 ∧ (∀ c ∈ acc', c ∈ letters.cps.toList) ∧ But p Hs (L2.upd H4 D (.lst (ac ++ [.str ⟨#[c]⟩]))) ∧
            PoolAt (L2.upd H4 D (.lst (ac ++ [.str ⟨#[c]⟩]))) p l) E0 := by
      intro t m ht hm1 hm2 hlet D Hs hD i H' acc hi hacc hl hc b2 S2 npD nlD
      refine ⟨p, l, m, rfl, by omega, by omega, S2, fun d2 H4 e0 e1 b3 S3 => ?_⟩
      obtain ⟨j, rfl⟩ : ∃ j : Nat, d2 = (j : Int) := ⟨d2.toNat, by omega⟩
      have hjl : j < t.cps.toList.length := by
        rw [Array.length_toList]
        have : t.cps.size = m := ht
        omega
      have h4 : H4 D = some (.lst ((acc.map one).map V.str)) := b3 D _ hacc (Ne.symm npD)
      refine ⟨t, (j : Int), t.cps.toList[j], rfl, rfl, n63' (by omega), atI_nat (List.getElem?_eq_getElem hjl), _, h4, n63 (by rw [List.length_map, List.length_map]; omega), acc ++ [t.cps.toList[j]], ?_, by rw [List.length_append]; rfl, fun c hc' => ?_, fun b o e n => ?_, S3.but But.upd npD nlD⟩
      · rw [upd_same, List.map_append, List.map_append]
        rfl
      · rcases List.mem_append.mp hc' with h | h
        · exact hc c h
        · rw [List.mem_singleton.mp h]
          exact hlet _ (List.getElem_mem hjl)
      · rw [upd_ne (ne_of_none e hD)]
        exact b3 b o (b2 b o e n) n
    by_cases c : V.int d = V.int 0
    · rw [decide_eq_true c]
      refine ⟨⟨_, rfl⟩, _, rfl, p, l, 11, rfl, by decide, by decide, S1, fun d2 H2 e0 e1 b2 S2 => ⟨_, _, rfl, rfl, 1 + d2, rfl, by omega, by omega, fun D hD => ?_⟩⟩
      obtain ⟨_, _, _, _, _, hpp, hll, _⟩ := id S2
      have npD : p ≠ D := ne_of_none hpp hD
      have nlD : l ≠ D := ne_of_none hll hD
      refine lc_range (lo := 0) (n := (1 + d2).toNat) (fun i H' => ∃ acc : List Nat, H' D = some (.lst ((acc.map one).map V.str)) ∧ acc.length = i ∧ (∀ c ∈ acc, c ∈ letters.cps.toList) ∧ But p H2 H' ∧ PoolAt H' p l)
        ⟨[], upd_same, rfl, (fun c h => by cases h), fun b o e n => by rw [upd_ne (ne_of_none e hD)]; exact e, S2.but But.upd npD nlD⟩ ?_ ?_
      · rintro i H' hi ⟨acc, hacc, hl, hc, b3, S3⟩
        refine ⟨rfl, _, rfl, ?_⟩
        have q := turn letters 36 (by decide +kernel) (by decide) (by decide) (fun c h => h) D H2 hD i H' acc (by omega) hacc hl hc b3 S3 npD nlD
        rw [hl] at q
        exact ⟨_, rfl, q⟩
      · rintro H' ⟨acc, hacc, hl, hc, b3, S3⟩
        exact code_end rfl hacc hl (by omega) (by omega) hc ((b1.trans b2).trans b3) S3 k
    · rw [decide_eq_false c]
      refine ⟨⟨_, rfl⟩, _, rfl, p, l, 2, rfl, by decide, by decide, S1, fun d2 H2 e0 e1 b2 S2 => ⟨_, _, rfl, rfl, 1 + d2, rfl, by omega, by omega, fun D hD => ?_⟩⟩
      obtain ⟨_, _, _, _, _, hpp, hll, _⟩ := id S2
      have npD : p ≠ D := ne_of_none hpp hD
      have nlD : l ≠ D := ne_of_none hll hD
      refine lc_range (lo := 0) (n := (1 + d2).toNat) (fun i H' => ∃ acc : List Nat, H' D = some (.lst ((acc.map one).map V.str)) ∧ acc.length = i ∧ (∀ c ∈ acc, c ∈ letters.cps.toList) ∧ But p H2 H' ∧ PoolAt H' p l)
        ⟨[], upd_same, rfl, (fun c h => by cases h), fun b o e n => by rw [upd_ne (ne_of_none e hD)]; exact e, S2.but But.upd npD nlD⟩ ?_ ?_
      · rintro i H' hi ⟨acc, hacc, hl, hc, b3, S3⟩
        refine ⟨rfl, ?_⟩
        have q := turn (Str.ofString "AB1") 3 (by decide +kernel) (by decide) (by decide) (by decide +kernel) D H2 hD i H' acc (by omega) hacc hl hc b3 S3 npD nlD
        rw [hl] at q
        exact ⟨_, rfl, q⟩
      · rintro H' ⟨acc, hacc, hl, hc, b3, S3⟩
        exact code_end rfl hacc hl (by omega) (by omega) hc ((b1.trans b2).trans b3) S3 k
end
end KT

namespace KT
open PySem PySem.Spec PyProof.Rows L2

def spCounts : Sp := fun vs H Q _ => ∃ (p l : Addr) (m : Int), vs = [.ref p, .int m] ∧ 1 ≤ m ∧ m ≤ 50 ∧ PoolAt H p l ∧
  ∀ (d : Addr) (f : AL) (H' : Hp), CountsOk f → (f.length : Int) < m → But p H H' → H d = none → DAt H' d f → PoolAt H' p l → Q (.ref d) H'
section
variable {P : Program} {w : World} {K : PySem.W.Frag} {mg : Str → Option Value} {base : Heap}
abbrev NumberOk (P : Program) (w : World) (K : PySem.W.Frag) (mg : Str → Option Value) (base : Heap) : Prop := Cl P w K mg base CX0 3 "_law_number" ["_law_pool_here"] spNumber
abbrev CodeOk (P : Program) (w : World) (K : PySem.W.Frag) (mg : Str → Option Value) (base : Heap) : Prop := Cl P w K mg base CX0 3 "_law_code" ["_law_pool_here"] spCode
abbrev nCounts : List Str := ["_law_pool_here", "_law_most", "_law_found", "_law_k"]
theorem scCounts : FnScope nCounts ["_law_pool_here", "_law_most"] (defScope sCounts) := ⟨rfl, rfl, rfl, by decide +kernel, rfl, by decide +kernel, by decide +kernel⟩
theorem ok_counts {f : Addr} {fd : FuncData} (F : Fun K "_law_counts" "_law_counts" sCounts f fd) (M : Mg mg) (G : TakeOk P w K mg base) (GN : NumberOk P w K mg base) (GC : CodeOk P w K mg base) : FnOk P w K mg base CX0 4 f fd ["_law_pool_here", "_law_most"] spCounts := by
  refine F.ok scCounts (fun vs H Q E h => ?_) (fun cdv A outer s H vs Q E hr h => ?_)
  · obtain ⟨p, l, m, rfl, _⟩ := h
    rfl
  · obtain ⟨p, l, m, rfl, hm1, hm2, S, k⟩ := h
    have hu := hu_of hr
    refine ⟨_, pss_cons (ps_set (i := 2) scCounts.nd rfl (Or.inl rfl) pe_dnewK)
      (pss_cons (ps_for PassesOwn.never rfl (pi_range1 (by rfl) M.range (pa_cons (pe_cl G (hr.mono (by decide)) pass0 (pa_cons (pv 0) (pa_cons (pv 1) pa_nil))) pa_nil)) (pg_name (i := 3) scCounts.nd rfl (Or.inl rfl))
        (pss_one (ps_dput hu (pv 2) (pe_cl GC hr pass0 (pa_cons (pv 0) pa_nil)) (pe_cl GN hr pass0 (pa_cons (pv 0) pa_nil)) rfl)))
      (pss_one (ps_ret (pv 2)))), ?_⟩
    intro D hD
    obtain ⟨_, _, _, _, _, hpp, hll, _⟩ := id S
    have npD : p ≠ D := ne_of_none hpp hD
    have nlD : l ≠ D := ne_of_none hll hD
    have S0 : PoolAt (upd H D (.dK [])) p l := S.but But.upd npD nlD
    refine ⟨_, rfl, _, rfl, p, l, m, rfl, hm1, by omega, S0, fun n H1 d0 d1 b1 S1 => ⟨n, rfl, by omega, by omega, ?_⟩⟩
    refine for_range (lo := 0) (n := n.toNat) (fun i σ H' => ∃ (f : AL) (v : Option V), σ = [some (.ref p), some (.int m), some (.ref D), v] ∧ CountsOk f ∧ f.length ≤ i ∧ DAt H' D f ∧ But p H H' ∧ PoolAt H' p l)
      ⟨[], none, rfl, CountsOk.nil, Nat.le_refl _, b1 D _ upd_same (Ne.symm npD), fun b o e ne => b1 b o (by rw [upd_ne (ne_of_none e hD)]; exact e) ne, S1⟩ ?_ ?_
    · rintro i σ H' hi ⟨f, v, rfl, cf, hl, hf, b2, S2⟩
      refine ⟨_, rfl, p, l, rfl, S2, fun x H2 x1 x2 b3 S3 => ?_⟩
      refine ⟨_, rfl, _, rfl, p, l, rfl, S3, fun z H3 hz b4 S4 => ?_⟩
      have h3 : DAt H3 D f := b4 D _ (b3 D _ hf (Ne.symm npD)) (Ne.symm npD)
      refine ⟨D, _, rfl, DPut.k (k := Sum.inr z) h3 (n63 (by rw [toK_length]; omega)), ?_⟩
      refine ⟨put f z x, _, rfl, cf.put hz x1 x2, Nat.le_trans (length_put _ _ _) (by omega), by unfold DAt; rw [upd_same, toK_put], fun b o e ne => ?_, S4.but But.upd npD nlD⟩
      rw [upd_ne (ne_of_none e hD)]
      exact b4 b o (b3 b o (b2 b o e ne) ne) ne
    · rintro σ H' ⟨f, v, rfl, cf, hl, hf, b2, S2⟩
      refine ⟨_, rfl, ?_⟩
      exact k D f H' cf (by omega) b2 hD hf S2
end
end KT

namespace KT
open PySem PySem.Spec PyProof.Rows L2

abbrev aS : Str := Str.ofString "a"
def spIsCode : Sp := fun vs H Q _ => ∃ z : Str, vs = [.str z] ∧ z.length ≤ 1000 ∧ ∀ (b : Bool) (H' : Hp), (b = true ↔ IsCode z) → Same H H' → Q (.bl b) H'
/-- the class BadCounts and its __init__ -/
structure BcT (K : PySem.W.Frag) (mg : Str → Option Value) (C fI : Addr) : Prop where
  gC : mg "BadCounts" = some (.ref C)
  oex : OexC K C
  no : PySem.W.findIn K (.ref C) "code" = some none
  iC : PySem.W.findIn K (.ref C) "__init__" = some (some (.ref fI))
  tI : PySem.W.typeIn K (.ref fI) = some (.type "function")
def spBcI (C : Addr) : Sp := fun vs H Q _ => ∃ (a : Addr) (y : V), vs = [.ref a, y] ∧ H a = some (exo a C none) ∧ ∀ dx, H dx = none → dx ≠ a → Q .non (upd (upd H dx (exd dx [(("code" : Str), y)])) a (exo a C (some dx)))
def legal (p : Str × Int) : Prop := IsCode p.1 ∧ 1 ≤ p.2 ∧ p.2 ≤ 1000000
def spCheckCounts (C : Addr) : Sp := fun vs H Q E => ∃ (d : Addr) (f : AL), vs = [.ref d] ∧ Rd H d (.dK (toK f)) ∧ (keys f).Nodup ∧ f.length ≤ 60 ∧ (∀ p ∈ f, legal p ∨ p.1 = aS) ∧
  (aS ∉ keys f → ∀ H', Same H H' → Q .non H') ∧ (aS ∈ keys f → ∀ H' dd, Same H H' → H dd = none → H' dd = some (.xd [(("code" : Str), V.str aS)]) → E (.ref C) (some dd) H')
section
variable {P : Program} {w : World} {K : PySem.W.Frag} {mg : Str → Option Value} {base : Heap}
theorem scIsCode : FnScope ["text", "letter"] ["text"] (defScope sIsCode) := ⟨rfl, rfl, rfl, by decide +kernel, rfl, by decide +kernel, by decide +kernel⟩
theorem ok_isCode {f : Addr} {fd : FuncData} (F : Fun K "is_code" "is_code" sIsCode f fd) (M : Mg mg) : FnOk P w K mg base CX0 1 f fd ["text"] spIsCode := by
  refine F.ok scIsCode (fun vs H Q E h => ?_) (fun cdv A outer s H vs Q E hr h => ?_)
  · obtain ⟨z, rfl, _⟩ := h
    rfl
  · obtain ⟨z, rfl, hz, k⟩ := h
    refine ⟨_, pss_one (ps_ret (pe_and (pe_chain op_le op_le pe_int (pe_callB call_len_str (by rfl) M.len PySem.boot_len (pa_cons (pv 0) pa_nil)) (pe_gl M.mostCode))
      (pe_one (pe_callB (cr_all rfl) (by rfl) M.all (by decide +kernel) (pa_cons (pe_lc (own := [("letter", 1)]) (g := gName 1) (tt := tYes) rfl scIsCode.nd (pi_str (pv 0)) (blkOk_by (own := [("letter", 1)]) (N := ["text", "letter"]) (sc := defScope sIsCode) (by decide +kernel))
        (fun _ _ _ _ _ => pg_name (i := 1) scIsCode.nd rfl (Or.inl rfl)) (fun _ _ _ _ _ => pts_nil) (fun _ _ _ _ _ => pe_cmpR op_in_sign (pv 1) (pe_gl M.letters) (by rfl))) pa_nil))))), ?_⟩
    refine ⟨_, rfl, z, rfl, n63' hz, _, _, rfl, rfl, _, rfl, ?_⟩
    by_cases h1 : (1 : Int) ≤ (z.length : Int)
    · rw [decide_eq_true h1]
      refine ⟨_, _, rfl, rfl, _, rfl, ?_⟩
      by_cases h2 : (z.length : Int) ≤ 11
      · rw [decide_eq_true h2]
        refine ⟨_, rfl, z, rfl, fun D hD => ?_⟩
        refine lc_it walk_str (fun i H' => ∃ bs : List Bool, H' D = some (.lst (bs.map V.bl)) ∧ bs.length = i ∧ Same H H' ∧ (bs.all id = true ↔ ∀ c ∈ z.cps.toList.take i, c ∈ letters.cps.toList))
          ⟨[], upd_same, rfl, Same.upd hD, by simp⟩ (fun _ _ _ _ => trivial) ?_ ?_
        · rintro i x H' H'' hi ⟨bs, hbs, hl, s1, hall⟩ ⟨rfl, c, hc, rfl⟩
          have hc' : z.cps.toList[i]? = some c := by rw [Array.getElem?_toList]; exact hc
          refine ⟨rfl, _, rfl, c, letters, rfl, rfl, _, hbs, n63 (by rw [List.length_map]; have : z.cps.size = z.length := rfl; omega), bs ++ [decide (c ∈ letters.cps.toList)], by rw [upd_same, List.map_append]; rfl, by rw [List.length_append]; show bs.length + 1 = _; omega,
            fun b o e => by rw [upd_ne (ne_of_none e hD)]; exact s1 b o e, ?_⟩
          rw [take_more hc', List.all_append, Bool.and_eq_true, hall]
          simp only [List.all_cons, List.all_nil, Bool.and_true, id, decide_eq_true_eq, List.mem_append, List.mem_singleton]
          constructor
          · rintro ⟨u, v⟩ y (hy | rfl)
            · exact u y hy
            · exact v
          · intro u
            exact ⟨fun y hy => u y (.inl hy), u c (.inr rfl)⟩
        · rintro H' ⟨bs, hbs, hl, s1, hall⟩
          refine ⟨D, bs, rfl, SqL.of hbs, k _ _ ?_ s1⟩
          rw [hall, ← Array.length_toList, List.take_length]
          exact ⟨fun u => ⟨by omega, by omega, u⟩, fun u => u.all⟩
      · rw [decide_eq_false h2]
        exact k false H ⟨fun u => absurd u Bool.false_ne_true, fun u => absurd u.hi (by omega)⟩ (Same.refl H)
    · rw [decide_eq_false h1]
      exact ⟨_, rfl, k false H ⟨fun u => absurd u Bool.false_ne_true, fun u => absurd u.lo (by omega)⟩ (Same.refl H)⟩
theorem scBcI : FnScope ["self", "code"] ["self", "code"] (defScope sBcI) := ⟨rfl, rfl, rfl, by decide +kernel, rfl, by decide +kernel, by decide +kernel⟩
theorem ok_bcI {f C fI : Addr} {fd : FuncData} (F : Fun K "__init__" "BadCounts.__init__" sBcI f fd) (T : BcT K mg C fI) : FnOk P w K mg base CX0 1 f fd ["self", "code"] (spBcI C) := by
  refine F.ok scBcI (fun vs H Q E h => ?_) (fun cdv A outer s H vs Q E hr h => ?_)
  · obtain ⟨a, y, rfl, _⟩ := h
    rfl
  · obtain ⟨a, y, rfl, ha, k⟩ := h
    refine ⟨_, pss_one (ps_ost (pv 0) (pv 1)), ?_⟩
    exact ⟨_, rfl, _, rfl, a, C, rfl, T.oex, T.no, .inl ⟨ha, k⟩⟩
theorem scCC : FnScope ["counts", "code"] ["counts"] (defScope sCheckCounts) := ⟨rfl, rfl, rfl, by decide +kernel, rfl, by decide +kernel, by decide +kernel⟩
theorem ok_checkCounts {f C fI : Addr} {fd fdI : FuncData} (F : Fun K "check_counts" "check_counts" sCheckCounts f fd) (M : Mg mg) (T : BcT K mg C fI) (G : Cl P w K mg base CX0 1 "is_code" ["text"] spIsCode)
    (GI : FnOk P w K mg base CX0 1 fI fdI ["self", "code"] (spBcI C)) (bI : Binds K fdI ["self", "code"] []) : FnOk P w K mg base (L2.CX P w) 3 f fd ["counts"] (spCheckCounts C) := by
  refine F.okX scCC (fun vs H Q E h => ?_) (fun cdv A outer s H vs Q E hr h => ?_)
  · obtain ⟨d, f, rfl, _⟩ := h
    rfl
  · obtain ⟨d, f, rfl, hd, nd, hlen, hleg, kQ, kE⟩ := h
    have hu := hu_of hr
    refine ⟨_, pss_one (ps_for (passes_of rfl) rfl (pi_list (pe_callB (call_sortedD rfl) (by rfl) M.sorted (by decide +kernel) (pa_cons (pv 0) pa_nil))) (pg_name (i := 1) scCC.nd rfl (Or.inl rfl))
      (pss_one (ps_if (PW.pt (pw_or (pt_not (pt_val (pe_cl G (hr.mono (by decide)) pass0 (pa_cons (pv 1) pa_nil)))) (pw_or1 (pt_not (pt_chain op_le op_le pe_int (pe_dget hu (pv 0) (pv 1) (fun _ _ => rfl)) (pe_gl M.mostCount))))))
        (pss_one (ps_raise rfl (takes_of rfl rfl rfl rfl) (pmk_oex T.oex T.iC T.tI GI hr bI .nil pass0 (by rfl) T.gC (pa_cons (pv 1) pa_nil)))) pss_nil))), ?_⟩
    refine ⟨_, rfl, d, toK f, keys f, rfl, hd, toK_keys f, by unfold keys; rw [List.length_map]; omega, fun ys p hperm hsort hp => ?_⟩
    obtain ⟨hup, hmem, hyl⟩ := perm_keys hperm nd hsort
    refine ⟨p, rfl, ⟨_, SqL.of upd_same⟩, for_list (K := K) (a := p) (xs := ys.map V.str) (fun i σ H' => ∃ v : Option V, σ = [some (.ref d), v] ∧ Same (upd H p (.lst (ys.map V.str))) H' ∧ ∀ y ∈ ys.take i, IsCode y)
      ⟨none, rfl, Same.refl _, by simp⟩ (fun i σ H' _ ⟨_, _, s1, _⟩ => s1.seq (SqL.of upd_same)) ?_ ?_⟩
    · rintro i x σ H' hi ⟨v, rfl, s1, hall⟩
      obtain ⟨z, hz, rfl⟩ : ∃ z, ys[i]? = some z ∧ x = V.str z := by
        rw [List.getElem?_map] at hi
        cases e : ys[i]? with
        | none => rw [e] at hi; cases hi
        | some z => rw [e] at hi; exact ⟨z, rfl, (Option.some.inj hi).symm⟩
      have hzk : z ∈ keys f := (hmem z).mp (List.mem_of_getElem? hz)
      obtain ⟨q, hq, rfl⟩ := List.mem_map.mp hzk
      have hql : q.1.length ≤ 1000 := by
        rcases hleg q hq with h | h
        · have := h.1.hi; omega
        · rw [h]; decide +kernel
      have s0 : Same H H' := (Same.upd hp).trans s1
      refine ⟨_, rfl, q.1, rfl, hql, fun b H1 hb s2 => ⟨b, rfl, ?_⟩⟩
      have s3 : Same H H1 := s0.trans s2
      cases b with
      | false =>
        have hqa : q.1 = aS := by
          rcases hleg q hq with h | h
          · exact absurd (hb.mpr h.1) Bool.false_ne_true
          · exact h
        refine ⟨_, rfl, (by show 1 ≤ 1000; decide), fun a ha => ⟨a, _, rfl, upd_same, fun dx hdx hne => ⟨rfl, dx, [(("code" : Str), V.str q.1)], upd_same, by rw [upd_ne hne, upd_same], by rw [upd_ne hne] at hdx; exact hdx, ?_⟩⟩⟩
        have hdx' : H1 dx = none := by rw [upd_ne hne] at hdx; exact hdx
        refine kE (hqa ▸ hzk) _ dx (fun b o e => ?_) (s3.free hdx') (by rw [upd_same, hqa])
        have e1 := s3 b o e
        have n1 : b ≠ dx := ne_of_none e1 hdx'
        have n2 : b ≠ a := ne_of_none e1 ha
        rw [upd_ne n1, del_ne n2, upd_ne n2, upd_ne n1, upd_ne n2]
        exact e1
      | true =>
        have hcode : IsCode q.1 := hb.mp rfl
        have hleg1 : legal q := by
          rcases hleg q hq with h | h
          · exact h
          · exact absurd (show IsCode aS from by rw [← h]; exact hcode) notCode
        refine ⟨_, rfl, _, rfl, d, .int q.2, rfl, dget_of (Same.rd s3 hd) (look_of_mem nd hq), _, _, rfl, rfl, _, rfl, ?_⟩
        rw [decide_eq_true hleg1.2.1]
        refine ⟨_, _, rfl, rfl, _, rfl, ?_⟩
        rw [decide_eq_true hleg1.2.2]
        refine ⟨_, rfl, s1.trans s2, fun y hy => ?_⟩
        rw [take_more hz] at hy
        rcases List.mem_append.mp hy with hy | hy
        · exact hall y hy
        · rw [List.mem_singleton.mp hy]; exact hcode
    · rintro σ H' ⟨v, rfl, s1, hall⟩
      rw [List.length_map, List.take_length] at hall
      exact kQ (fun m => notCode (hall aS ((hmem aS).mpr m))) H' ((Same.upd hp).trans s1)
end
end KT

namespace KT
open PySem PySem.Spec PyProof.Rows L2

/-- a dict comprehension over a walk: Pv by the turn and the heap (the new dict at D within) -/
theorem dc_it {J : It} {n : Nat} {G : Hp → Prop} {Y : Nat → Hp → V → Hp → Prop} (w : Walk J n G Y) {g : TG} {tt : TT} {tk tv : TE} {vs : List Nat} {σ : L2.St} {H1 : Hp} {D : Addr} {Qd : Hp → Prop} (Pv : Nat → Hp → Prop) (h0 : Pv 0 (upd H1 D (.dK []))) (hG : ∀ i H, i ≤ n → Pv i H → G H)
    (hs : ∀ i x H H', i < n → Pv i H → Y i H x H' → g x (wipe σ vs) H' fun σ2 H2 => wipe σ2 vs = wipe σ vs ∧ tt σ2 H2 fun b H3 =>
      if b = true then tk σ2 H3 fun y H4 => tv σ2 H4 fun z H5 => ∃ kvs k, y = kV k ∧ H5 D = some (.dK kvs) ∧ kvs.length < sizeLine ∧ Pv (i + 1) (upd H5 D (.dK (putK kvs k z))) else Pv (i + 1) H3) (hd : ∀ H, Pv n H → Qd H) :
    ∃ W : Nat → Nat → Hp → Prop, (∃ m, W 0 m (upd H1 D (.dK []))) ∧ ∀ i m H, W i m H →
      (J.stop i H ∧ Qd H) ∨ (J.go i H ∧ ∃ Nx : Hp → Prop, (∀ H', Nx H' → ∃ m', m' < m ∧ W (i + 1) m' H') ∧ ∀ x H', J.yld i H x H' → g x (wipe σ vs) H' fun σ2 H2 => wipe σ2 vs = wipe σ vs ∧ tt σ2 H2 fun b H3 =>
        if b = true then tk σ2 H3 fun y H4 => tv σ2 H4 fun z H5 => ∃ kvs k, y = kV k ∧ H5 D = some (.dK kvs) ∧ kvs.length < sizeLine ∧ Nx (upd H5 D (.dK (putK kvs k z))) else Nx H3) := by
  refine ⟨fun i m H => m = n - i ∧ i ≤ n ∧ Pv i H, ⟨n, by simp, Nat.zero_le _, h0⟩, ?_⟩
  rintro i m H ⟨rfl, hi, p⟩
  have q := hG i H hi p
  by_cases hlt : i < n
  · refine .inr ⟨w.goes i H hlt q, Pv (i + 1), fun H' p' => ⟨n - (i + 1), by omega, rfl, hlt, p'⟩, fun x H' y => hs i x H H' hlt p (w.yields i H x H' hlt q y)⟩
  · have e : i = n := by omega
    subst e
    exact .inl ⟨w.stops H q, hd H p⟩

theorem strs_get {ys : List Str} {i : Nat} {x : V} (h : (ys.map V.str)[i]? = some x) : ∃ z, ys[i]? = some z ∧ x = V.str z := by
  rw [List.getElem?_map] at h
  cases e : ys[i]? with
  | none => rw [e] at h; cases h
  | some z => rw [e] at h; exact ⟨z, rfl, (Option.some.inj h).symm⟩
def spOrdered : Sp := fun vs H Q _ => ∃ (d : Addr) (f : AL), vs = [.ref d] ∧ Rd H d (.dK (toK f)) ∧ (keys f).Nodup ∧ f.length < 64 ∧
  ∀ (H' : Hp) (p : Addr) (L : AL), Same H H' → H p = none → DAt H' p L → Canon L → (∀ k, gt L k = gt f k) → L.length ≤ f.length → Q (.ref p) H'
def spPutTog : Sp := fun vs H Q _ => ∃ (a b : Addr) (f g : AL), vs = [.ref a, .ref b] ∧ Rd H a (.dK (toK f)) ∧ DAt H b g ∧ (keys f).Nodup ∧ (keys g).Nodup ∧ f.length + g.length < 64 ∧
  ∀ (H' : Hp) (p : Addr) (L : AL), Same H H' → H p = none → DAt H' p L → Canon L → (∀ k, gt L k = gt f k + gt g k) → L.length ≤ f.length + g.length → Q (.ref p) H'
section
variable {P : Program} {w : World} {K : PySem.W.Frag} {mg : Str → Option Value} {base : Heap}
theorem scOrdered : FnScope ["counts", "code"] ["counts"] (defScope sOrdered) := ⟨rfl, rfl, rfl, by decide +kernel, rfl, by decide +kernel, by decide +kernel⟩
theorem ok_ordered {f : Addr} {fd : FuncData} (F : Fun K "ordered" "ordered" sOrdered f fd) (M : Mg mg) : FnOk P w K mg base CX0 1 f fd ["counts"] spOrdered := by
  refine F.ok scOrdered (fun vs H Q E h => ?_) (fun cdv A outer s H vs Q E hr h => ?_)
  · obtain ⟨d, f, rfl, _⟩ := h
    rfl
  · obtain ⟨d, f, rfl, hd, nd, hlen, k⟩ := h
    have hu := hu_of hr
    refine ⟨_, pss_one (ps_ret (pe_dc (own := [("code", 1)]) rfl scOrdered.nd (pi_list (pe_callB (call_sortedD rfl) (by rfl) M.sorted (by decide +kernel) (pa_cons (pv 0) pa_nil))) (blkOk_by (own := [("code", 1)]) (N := ["counts", "code"]) (sc := defScope sOrdered) (by decide +kernel))
        (fun _ _ _ _ _ => pg_name (i := 1) scOrdered.nd rfl (Or.inl rfl)) (fun _ _ _ _ _ => pts_one (pt_cmpR op_ne (pe_dget hu (pv 0) (pv 1) (fun _ _ => rfl)) pe_int (nomark _)))
        (fun _ _ _ _ _ => pv 1) (fun _ _ _ _ _ => pe_dget hu (pv 0) (pv 1) (fun _ _ => rfl)))), ?_⟩
    refine ⟨_, rfl, d, toK f, keys f, rfl, hd, toK_keys f, by unfold keys; rw [List.length_map]; omega, fun ys p hperm hsort hp => ?_⟩
    obtain ⟨hup, hmem, hyl⟩ := perm_keys hperm nd hsort
    refine ⟨p, rfl, ⟨_, SqL.of upd_same⟩, fun D hD => ?_⟩
    have npD : p ≠ D := ne_of_none (upd_same (H := H) (a := p)) hD
    have hD0 : H D = none := by rw [upd_ne (Ne.symm npD)] at hD; exact hD
    refine dc_it (walk_list (K := K) (a := p) (xs := ys.map V.str)) (fun i H' => Same (upd H p (.lst (ys.map V.str))) H' ∧ DAt H' D (norm (ys.take i) f))
      ⟨Same.upd hD, upd_same⟩ (fun i H' _ h => h.1.seq (SqL.of upd_same)) ?_ ?_
    · rintro i x H' H'' hi ⟨s1, hDf⟩ ⟨rfl, hx⟩
      obtain ⟨z, hz, rfl⟩ := strs_get hx
      have hzk : z ∈ keys f := (hmem z).mp (List.mem_of_getElem? hz)
      obtain ⟨q, hq, rfl⟩ := List.mem_map.mp hzk
      have hdg : DGet H'' d (.str q.1) (some (.int q.2)) := dget_of (Same.rd ((Same.upd hp).trans s1) hd) (look_of_mem nd hq)
      refine ⟨rfl, ?_⟩
      refine ⟨_, rfl, _, rfl, d, _, rfl, hdg, rfl, _, rfl, ?_⟩
      by_cases hz0 : V.int q.2 = V.int 0
      · have hz0' : gt f q.1 = 0 := by rw [gt_of_mem nd hq]; exact V.int.inj hz0
        rw [decide_eq_true hz0]
        refine ⟨s1, ?_⟩
        rw [take_more hz, norm_snoc, if_pos hz0']
        exact hDf
      · have hz0' : ¬ gt f q.1 = 0 := fun e => hz0 (by rw [gt_of_mem nd hq] at e; rw [e])
        rw [decide_eq_false hz0]
        refine ⟨_, rfl, _, rfl, _, rfl, d, _, rfl, hdg, toK (norm (ys.take i) f), Sum.inr q.1, rfl, hDf, n63 ?_, fun b o e => ?_, ?_⟩
        · rw [toK_length]
          have := length_norm (ys.take i) f
          rw [List.length_take] at this
          omega
        · rw [upd_ne (ne_of_none e hD)]
          exact s1 b o e
        · have hnew : q.1 ∉ keys (norm (ys.take i) f) := fun m => by
            rw [keys_norm] at m
            have m2 := (List.mem_filter.mp m).1
            have hnd : (ys.take i ++ [q.1]).Nodup := by
              rw [← take_more hz]
              exact (pw_nodup hup).sublist (List.take_sublist _ _)
            exact (List.nodup_append.mp hnd).2.2 q.1 m2 q.1 List.mem_cons_self rfl
          unfold DAt
          rw [upd_same, take_more hz, norm_snoc, if_neg hz0', ← put_new _ hnew, toK_put, gt_of_mem nd hq]
    · rintro H' ⟨s1, hDf⟩
      rw [List.length_map, List.take_length] at hDf
      exact k H' D _ ((Same.upd hp).trans s1) hD0 hDf (canon_norm hup) (fun c => gt_norm hup (fun j hj => (hmem j).mpr hj) c) (by rw [← hyl]; exact length_norm _ _)
abbrev nPut : List Str := ["first", "second", "found", "code"]
theorem scPut : FnScope nPut ["first", "second"] (defScope sPutTog) := ⟨rfl, rfl, rfl, by decide +kernel, rfl, by decide +kernel, by decide +kernel⟩
theorem ok_putTog {f : Addr} {fd : FuncData} (F : Fun K "put_together" "put_together" sPutTog f fd) (M : Mg mg) (G : Cl P w K mg base CX0 1 "ordered" ["counts"] spOrdered) : FnOk P w K mg base CX0 2 f fd ["first", "second"] spPutTog := by
  refine F.ok scPut (fun vs H Q E h => ?_) (fun cdv A outer s H vs Q E hr h => ?_)
  · obtain ⟨a, b, f, g, rfl, _⟩ := h
    rfl
  · obtain ⟨a, b, f, g, rfl, ha, hb, ndf, ndg, hlen, k⟩ := h
    have hu := hu_of hr
    refine ⟨_, pss_cons (ps_set (i := 2) scPut.nd rfl (Or.inl rfl) (pe_callTy call_dictD (by rfl) M.dict (by decide +kernel) (pa_cons (pv 0) pa_nil)))
      (pss_cons (ps_lock (ps_for PassesOwn.never rfl (pi_keys (pv 1)) (pg_name (i := 3) scPut.nd rfl (Or.inl rfl))
        (pss_one (ps_dput hu (pv 2) (pv 3) (pe_op op_add (pe_dget2 hu (pv 2) (pv 3) pe_int ⟨rfl, rfl, rfl, rfl⟩) (pe_dget hu (pv 1) (pv 3) (fun _ _ => rfl))) rfl))))
      (pss_one (ps_ret (pe_cl G hr pass0 (pa_cons (pv 2) pa_nil))))), ?_⟩
    refine ⟨_, rfl, a, toK f, rfl, ha, fun D hD => ?_⟩
    have nbD : b ≠ D := ne_of_none hb hD
    have hb1 : (upd H D (.dK (toK f))) b = some (.dK (toK g)) := by rw [upd_ne nbD]; exact hb
    refine ⟨b, _, hb1, True.intro, fun od => ?_⟩
    refine ⟨_, rfl, b, od, rfl, .inl ⟨toK g, upd_same, ?_⟩⟩
    refine for_it walk_keys (fun i σ H' => ∃ v : Option V, σ = [some (.ref a), some (.ref b), some (.ref D), v] ∧ But D (upd (upd H D (.dK (toK f))) b (.frz od (.dK (toK g)))) H' ∧ DAt H' D (addAll f (g.take i)))
      ⟨none, rfl, fun _ _ e _ => e, by show (upd (upd H D (.dK (toK f))) b _) D = _; rw [upd_ne (Ne.symm nbD), upd_same]; rfl⟩ (fun i σ H' _ ⟨_, _, b1, _⟩ => b1 b _ upd_same nbD) ?_ ?_
    · rintro i x σ H' H'' hi ⟨v, rfl, b1, hDf⟩ ⟨rfl, kk, vv, hkv, rfl⟩
      obtain ⟨q, hq, e⟩ := toK_get hkv
      obtain ⟨rfl, rfl⟩ := Prod.mk.inj e
      have hqm : q ∈ g := List.mem_of_getElem? hq
      have hbf : H'' b = some (.frz od (.dK (toK g))) := b1 b _ upd_same nbD
      refine ⟨_, rfl, D, rfl, .inl ⟨_, .inl hDf⟩, _, rfl, _, dget_no (.inl hDf), ?_⟩
      refine ⟨_, rfl, _, rfl, b, .int q.2, rfl, dget_of (.inr ⟨od, hbf⟩) (look_of_mem ndg hqm), ?_⟩
      have eget : ((look (addAll f (g.take i)) q.1).map V.int).getD (V.int 0) = V.int (gt (addAll f (g.take i)) q.1) := by
        unfold gt
        cases look (addAll f (g.take i)) q.1 <;> rfl
      have hl2 := length_addAll (g.take i) f
      have hl3 : (g.take i).length ≤ g.length := by rw [List.length_take]; omega
      refine ⟨_, _, eget, rfl, _, rfl, _, rfl, D, _, rfl, DPut.k (k := Sum.inr q.1) hDf (n63 (by rw [toK_length]; omega)), ?_⟩
      refine ⟨_, rfl, fun c o e n => ?_, ?_⟩
      · rw [upd_ne n]
        exact b1 c o e n
      · unfold DAt
        rw [upd_same, ← toK_put, addAll_more hq]
        rfl
    · rintro σ H' ⟨v, rfl, b1, hDf⟩
      rw [toK_length, List.take_length] at hDf
      have hbf : H' b = some (.frz od (.dK (toK g))) := b1 b _ upd_same nbD
      refine ⟨hbf, ?_⟩
      have s2 : Same H (upd H' b (.dK (toK g))) := fun c o e => by
        have ncD : c ≠ D := ne_of_none e hD
        by_cases ncb : c = b
        · subst ncb
          rw [upd_same]
          exact hb.symm.trans e
        · rw [upd_ne ncb]
          refine b1 c o ?_ ncD
          rw [upd_ne ncb, upd_ne ncD]
          exact e
      have hDf2 : DAt (upd H' b (.dK (toK g))) D (addAll f g) := by
        unfold DAt
        rw [upd_ne (Ne.symm nbD)]
        exact hDf
      have hl2 := length_addAll g f
      refine ⟨_, rfl, D, addAll f g, rfl, .inl hDf2, nodup_addAll ndf, by omega, fun H3 p L s3 hp hL cL gL lL => ?_⟩
      exact k H3 p L (s2.trans s3) (s2.free hp) hL cL (fun c => by rw [gL, gt_addAll ndg]) (by omega)
end
end KT

namespace KT
open PySem PySem.Spec PyProof.Rows L2

abbrev Kid := Addr × (Str → Int) × Nat
/-- a bill of at most n storeys at b: tot its sum code by code, sz no fewer than its codes -/
def BillP : Nat → Hp → Addr → (Str → Int) → Nat → Prop
  | 0, _, _, _, _ => False
  | n + 1, H, b, tot, sz => ∃ (t : Int) (l e : Addr) (f : AL) (cs : List Kid), H b = some (.tup [.int t, .ref l, .ref e]) ∧ 0 ≤ t ∧ t ≤ 1000000000 ∧ DAt H l f ∧ CountsOk f ∧ H e = some (.lst (cs.map fun c => V.ref c.1)) ∧ cs.length ≤ 12 ∧
      (∀ c ∈ cs, BillP n H c.1 c.2.1 c.2.2) ∧ (∀ k, tot k = gt f k + (cs.map fun c => c.2.1 k).sum) ∧ sz = f.length + (cs.map fun c => c.2.2).sum
theorem BillP.same {H H' : Hp} (s : Same H H') : ∀ {n : Nat} {b : Addr} {tot : Str → Int} {sz : Nat}, BillP n H b tot sz → BillP n H' b tot sz
  | 0, _, _, _, h => h
  | n + 1, _, _, _, ⟨t, l, e, f, cs, h1, h2, h3, h4, h5, h6, h7, h8, h9, h10⟩ => ⟨t, l, e, f, cs, s _ _ h1, h2, h3, s _ _ h4, h5, s _ _ h6, h7, fun c hc => BillP.same s (h8 c hc), h9, h10⟩
theorem sum_more {α : Type} (g : α → Int) {cs : List α} {i : Nat} {c : α} (h : cs[i]? = some c) : ((cs.take (i + 1)).map g).sum = ((cs.take i).map g).sum + g c := by
  rw [take_more h, List.map_append, List.sum_append]
  simp
theorem sumN_more {α : Type} (g : α → Nat) {cs : List α} {i : Nat} {c : α} (h : cs[i]? = some c) : ((cs.take (i + 1)).map g).sum = ((cs.take i).map g).sum + g c := by
  rw [take_more h, List.map_append, List.sum_append]
  simp
theorem sumN_mem {α : Type} (g : α → Nat) : ∀ {cs : List α} {c : α}, c ∈ cs → g c ≤ (cs.map g).sum
  | a :: r, c, h => by
    rw [List.map_cons, List.sum_cons]
    rcases List.mem_cons.mp h with e | h
    · rw [e]; omega
    · have := sumN_mem g h; omega
theorem sumN_take {α : Type} (g : α → Nat) (cs : List α) (i : Nat) : ((cs.take i).map g).sum ≤ (cs.map g).sum := by
  have h : cs.map g = (cs.take i).map g ++ (cs.drop i).map g := by rw [← List.map_append, List.take_append_drop]
  rw [h, List.sum_append]
  omega
theorem kids_get {cs : List Kid} {i : Nat} {x : V} (h : (cs.map fun c => V.ref c.1)[i]? = some x) : ∃ c, cs[i]? = some c ∧ x = V.ref c.1 := by
  rw [List.getElem?_map] at h
  cases e : cs[i]? with
  | none => rw [e] at h; cases h
  | some z => rw [e] at h; exact ⟨z, rfl, (Option.some.inj h).symm⟩
def spCheckBill (K : PySem.W.Frag) (n : Nat) : Sp := fun vs H Q _ => ∃ (b pa : Addr) (tot : Str → Int) (sz : Nat) (path : List V), vs = [.ref b, .ref pa] ∧ BillP n H b tot sz ∧ sz ≤ 60 ∧ SqT K H pa path ∧ path.length + n ≤ 3 ∧ ∀ H', Same H H' → Q .non H'
def spRolled (n : Nat) : Sp := fun vs H Q _ => ∃ (b : Addr) (tot : Str → Int) (sz : Nat), vs = [.ref b] ∧ BillP n H b tot sz ∧ sz ≤ 60 ∧
  ∀ (H' : Hp) (p : Addr) (L : AL), Same H H' → H p = none → DAt H' p L → Canon L → (∀ k, gt L k = tot k) → L.length ≤ sz → Q (.ref p) H'
section
variable {P : Program} {w : World} {K : PySem.W.Frag} {mg : Str → Option Value} {base : Heap}
theorem seqT_same {H H' : Hp} {a : Addr} {xs : List V} (e : Same H H') (h : SqT K H a xs) : SqT K H' a xs := by
  rcases h with (h | ⟨o, h⟩) | h
  · exact .inl (.inl (e _ _ h))
  · exact .inl (.inr ⟨o, e _ _ h⟩)
  · exact .inr h
abbrev nCB : List Str := ["bill", "path", "total", "lines", "bills", "number", "inner"]
theorem scCB : FnScope nCB ["bill", "path"] (defScope sCheckBill) := ⟨rfl, rfl, rfl, by decide +kernel, rfl, by decide +kernel, by decide +kernel⟩
abbrev CCOk (P : Program) (w : World) (K : PySem.W.Frag) (mg : Str → Option Value) (base : Heap) (C : Addr) : Prop := Cl P w K mg base (L2.CX P w) 3 "check_counts" ["counts"] (spCheckCounts C)
abbrev CbFun (K : PySem.W.Frag) (tp f : Addr) (fd : FuncData) : Prop := FunD K "check_bill" "check_bill" (defArgs sCheckBill) (defBody sCheckBill) (defScope sCheckBill) [.ref tp] [] f fd
theorem cb_binds2 {tp f : Addr} {fd : FuncData} (F : CbFun K tp f fd) : Binds K fd ["bill", "path"] [] := by
  obtain ⟨ds, r, b⟩ := FunD.binds1 F (ps := ["bill", "path"]) 2 1 (by simp) rfl (fun T kV doc pm an cdv ct us its hu hi => match us, its, hu, hi with | [_, _], [_], _, _ => ⟨_, rfl, rfl⟩)
  cases r
  exact b
theorem cb_binds1 {tp f : Addr} {fd : FuncData} (F : CbFun K tp f fd) : ∃ ds, Vals [V.ref tp] ds ∧ Binds K fd ["bill", "path"] ds :=
  FunD.binds1 F (ps := ["bill", "path"]) 1 0 (by simp) rfl (fun T kV doc pm an cdv ct us its hu hi => match us, its, hu, hi with | [_], [_], _, _ => ⟨_, rfl, rfl⟩)
theorem fn_false {CX : CXT} {k : Nat} {f : Addr} {fd : FuncData} {ps : List Str} {sp : Sp} (h : ∀ vs H Q E, ¬ sp vs H Q E) : FnOk P w K mg base CX k f fd ps sp :=
  ⟨fun vs H Q E q => absurd q (h _ _ _ _), fun A outer s H args us vs Q E _ _ _ _ q => absurd q (h _ _ _ _)⟩
theorem ok_checkBill {f C tp : Addr} {fd : FuncData} (F : CbFun K tp f fd) (kp : PySem.W.keepIn K (.ref f) = true) (gF : mg "check_bill" = some (.ref f)) (M : Mg mg) (GC : CCOk P w K mg base C) :
    ∀ n, FnOk P w K mg base CX0 (n + 3) f fd ["bill", "path"] (spCheckBill K n)
  | 0 => fn_false fun vs H Q E ⟨_, _, _, _, _, _, h, _⟩ => h
  | n + 1 => by
    have G : Cl P w K mg base CX0 (n + 3) "check_bill" ["bill", "path"] (spCheckBill K n) := ⟨f, fd, gF, kp, ok_checkBill F kp gF M GC n, cb_binds2 F⟩
    refine F.ok scCB (fun vs H Q E h => ?_) (fun cdv A outer s H vs Q E hr h => ?_)
    · obtain ⟨b, pa, tot, sz, path, rfl, _⟩ := h
      rfl
    · obtain ⟨b, pa, tot, sz, path, rfl, hB, hsz, hpa, hpn, k⟩ := h
      obtain ⟨t, l, e, fl, cs, h1, h2, h3, h4, h5, h6, h7, h8, h9, h10⟩ := hB
      refine ⟨_, PSs.nox (pss_cons (ps_asg (pv 0) (pg_tup rfl (pgs_cons (pg_name (i := 2) scCB.nd rfl (Or.inl rfl)) (pgs_cons (pg_name (i := 3) scCB.nd rfl (Or.inl rfl)) (pgs_cons (pg_name (i := 4) scCB.nd rfl (Or.inl rfl)) pgs_nil)))))
        (pss_cons (ps_if (pt_not (pt_chain op_le op_le pe_int (pv 2) (pe_gl M.mostTotal))) (pss_one ps_never) pss_nil)
        (pss_cons (ps_expr (pe_cl GC (hr.mono (by omega)) passL (pa_cons (pv 3) pa_nil)))
        (pss_cons (ps_if (pt_cmpR op_gt (pe_callB call_len_seq (by rfl) M.len PySem.boot_len (pa_cons (pv 4) pa_nil)) (pe_gl M.mostBills) (nomark _)) (pss_one ps_never) pss_nil)
        (pss_cons (ps_if (PW.pt (pw_and (pt_truth (pv 4) (by intro _; rfl)) (pw_and1 (pt_cmpR op_ge (pe_op op_add (pe_callB call_len_seq (by rfl) M.len PySem.boot_len (pa_cons (pv 1) pa_nil)) pe_int) (pe_gl M.mostDepth) (nomark _))))) (pss_one ps_never) pss_nil)
        (pss_one (ps_for PassesOwn.never rfl (pi_enum (by rfl) M.enum (pa_cons (pv 4) pa_nil)) (pg_tup rfl (pgs_cons (pg_name (i := 5) scCB.nd rfl (Or.inl rfl)) (pgs_cons (pg_name (i := 6) scCB.nd rfl (Or.inl rfl)) pgs_nil)))
          (pss_one (ps_expr (pe_cl G hr pass0 (pa_cons (pv 6) (pa_cons (pe_tup (StX.pa_star (pv 1) (pa_cons (pv 5) pa_nil))) pa_nil)))))))))))), ?_⟩
      refine ⟨_, rfl, b, _, rfl, SqT.of h1, rfl, _, _, rfl, _, _, rfl, _, _, rfl, rfl, ?_⟩
      -- 0 <= total <= MOST_TOTAL
      refine ⟨_, rfl, _, _, rfl, rfl, _, rfl, ?_⟩
      rw [decide_eq_true h2]
      refine ⟨_, _, rfl, rfl, _, rfl, ?_⟩
      rw [decide_eq_true h3]
      -- check_counts(lines)
      have hno : aS ∉ keys fl := fun m => by
        obtain ⟨q, hq, e⟩ := List.mem_map.mp m
        exact notCode (show IsCode aS from by rw [← e]; exact (h5.ok q hq).1)
      refine ⟨_, rfl, l, fl, rfl, .inl h4, h5.nd, by omega, fun q hq => .inl (h5.ok q hq), fun _ H1 s1 => ?_, fun m => absurd m hno⟩
      have h6' := s1 _ _ h6
      have hce : ((cs.map fun c => V.ref c.1).length : Int) ≤ 12 := by rw [List.length_map]; omega
      refine ⟨_, rfl, e, _, rfl, .inl (SqL.of h6'), _, _, rfl, rfl, _, rfl, ?_⟩
      rw [decide_eq_false (show ¬ (12 : Int) < ((cs.map fun c => V.ref c.1).length : Int) by omega)]
      -- bills and len(path) + 1 >= MOST_DEPTH
      have hloop : tFor (iEnum K (tCons (tVar 4) tNil)) (gTup K 2 (gCons (gName 5) (gCons (gName 6) gNil))) (tDrop (tCl (spCheckBill K n) E0 (tCons (tVar 6) (tCons (tTup (StX.tStar K (tVar 1) (tCons (tVar 5) tNil))) tNil))))
          { nx := fun _ H' => Q .non H', rt := Q } [some (.ref b), some (.ref pa), some (.int t), some (.ref l), some (.ref e), none, none] H1 := by
        refine ⟨_, rfl, e, _, rfl, SqL.of h6', ?_⟩
        refine for_it walk_enum (fun i σ H' => ∃ v5 v6 : Option V, σ = [some (.ref b), some (.ref pa), some (.int t), some (.ref l), some (.ref e), v5, v6] ∧ Same H1 H') ⟨none, none, rfl, Same.refl _⟩ (fun i σ H' _ ⟨_, _, _, s2⟩ => SqL.of (s2 _ _ h6')) ?_ ?_
        · rintro i x σ H' H'' hi ⟨v5, v6, rfl, s2⟩ ⟨T, x', y', rfl, hT, rfl, ex, hy⟩
          obtain rfl := Option.some.inj ex
          obtain ⟨c, hc, rfl⟩ := kids_get hy
          have s3 : Same H1 (upd H' T (.tup [.int (i : Nat), .ref c.1])) := Same.upd' s2 hT
          have s4 := s1.trans s3
          have hcm : c ∈ cs := List.mem_of_getElem? hc
          have hcz : c.2.2 ≤ 60 := by
            have : c.2.2 ≤ (cs.map fun c : Kid => c.2.2).sum := sumN_mem (fun c : Kid => c.2.2) hcm
            omega
          refine ⟨T, _, rfl, SqT.of upd_same, rfl, _, _, rfl, _, _, rfl, rfl, ?_⟩
          refine ⟨_, rfl, _, rfl, pa, path, rfl, .inl (seqT_same s4 hpa), _, rfl, n63' (by rw [List.length_append]; show path.length + 1 ≤ 1000; omega), fun q hq => ?_⟩
          refine ⟨c.1, q, c.2.1, c.2.2, path ++ [.int (i : Nat)], rfl, BillP.same (Same.upd' s4 hq) (h8 c hcm), hcz, SqT.of upd_same, ?_, fun H3 s5 => ⟨_, _, rfl, (s3.trans (Same.upd hq)).trans s5⟩⟩
          rw [List.length_append]
          show path.length + 1 + n ≤ 3
          omega
        · rintro σ H' ⟨v5, v6, rfl, s2⟩
          exact k H' (s1.trans s2)
      refine ⟨_, rfl, _, .inl ⟨_, SqL.of h6', rfl⟩, ?_⟩
      cases hcs : cs with
      | nil => exact hloop
      | cons c r =>
        have hn1 : 1 ≤ n := by
          cases n with
          | zero => exact absurd (h8 c (by rw [hcs]; exact List.mem_cons_self)) (fun h => h)
          | succ n => omega
        refine ⟨_, rfl, pa, path, rfl, .inr (seqT_same s1 hpa), _, _, rfl, rfl, _, _, rfl, rfl, _, rfl, ?_⟩
        rw [decide_eq_false (show ¬ (3 : Int) ≤ (path.length : Int) + 1 by omega)]
        exact hloop
theorem scRolled : FnScope ["bill", "found", "inner"] ["bill"] (defScope sRolled) := ⟨rfl, rfl, rfl, by decide +kernel, rfl, by decide +kernel, by decide +kernel⟩
abbrev PutOk (P : Program) (w : World) (K : PySem.W.Frag) (mg : Str → Option Value) (base : Heap) : Prop := Cl P w K mg base CX0 2 "put_together" ["first", "second"] spPutTog
theorem ok_rolled {f : Addr} {fd : FuncData} (F : Fun K "rolled" "rolled" sRolled f fd) (bF : Binds K fd ["bill"] []) (gF : mg "rolled" = some (.ref f)) (GP : PutOk P w K mg base) :
    ∀ n, FnOk P w K mg base CX0 (n + 2) f fd ["bill"] (spRolled n)
  | 0 => fn_false fun vs H Q E ⟨_, _, _, _, h, _⟩ => h
  | n + 1 => by
    have G : Cl P w K mg base CX0 (n + 2) "rolled" ["bill"] (spRolled n) := ⟨f, fd, gF, F.kp, ok_rolled F bF gF GP n, bF⟩
    refine F.ok scRolled (fun vs H Q E h => ?_) (fun cdv A outer s H vs Q E hr h => ?_)
    · obtain ⟨b, tot, sz, rfl, _⟩ := h
      rfl
    · obtain ⟨b, tot, sz, rfl, hB, hsz, k⟩ := h
      obtain ⟨t, l, e, fl, cs, h1, h2, h3, h4, h5, h6, h7, h8, h9, h10⟩ := hB
      refine ⟨_, pss_cons (ps_set (i := 1) scRolled.nd rfl (Or.inl rfl) (pe_cl GP (hr.mono (by omega)) pass0 (pa_cons pe_dnewK (pa_cons (pe_ix ix_tup (pv 0) pe_int (fun _ _ => rfl)) pa_nil))))
        (pss_cons (ps_for PassesOwn.never rfl (pi_list (pe_ix ix_tup (pv 0) pe_int (fun _ _ => rfl))) (pg_name (i := 2) scRolled.nd rfl (Or.inl rfl))
          (pss_one (ps_set (i := 1) scRolled.nd rfl (Or.inl rfl) (pe_cl GP (hr.mono (by omega)) pass0 (pa_cons (pv 1) (pa_cons (pe_cl G hr pass0 (pa_cons (pv 2) pa_nil)) pa_nil))))))
        (pss_one (ps_ret (pv 1)))), ?_⟩
      intro D0 hD0
      have s0 : Same H (upd H D0 (.dK [])) := Same.upd hD0
      refine ⟨_, rfl, b, _, _, _, rfl, rfl, SqT.of (s0 _ _ h1), (show atI [V.int t, V.ref l, V.ref e] 1 = some (V.ref l) from rfl), ?_⟩
      refine ⟨D0, l, [], fl, rfl, .inl upd_same, s0 _ _ h4, List.nodup_nil, h5.nd, by show 0 + fl.length < 64; omega, fun H1 p1 L1 s1 hp1 hL1 cL1 gL1 lL1 => ?_⟩
      have s01 := s0.trans s1
      refine ⟨_, rfl, b, _, _, _, rfl, rfl, SqT.of (s01 _ _ h1), (show atI [V.int t, V.ref l, V.ref e] 2 = some (V.ref e) from rfl), ?_⟩
      refine ⟨e, rfl, ⟨_, SqL.of (s01 _ _ h6)⟩, for_list (K := K) (a := e) (xs := cs.map fun c => V.ref c.1) (fun i σ H' => ∃ (p : Addr) (L : AL) (v : Option V), σ = [some (.ref b), some (.ref p), v] ∧ Same H H' ∧ H p = none ∧ DAt H' p L ∧ Canon L ∧
          (∀ k, gt L k = gt fl k + ((cs.take i).map fun c => c.2.1 k).sum) ∧ L.length ≤ fl.length + ((cs.take i).map fun c => c.2.2).sum)
        ⟨p1, L1, none, rfl, s01, s0.free hp1, hL1, cL1, fun k => by rw [gL1]; show 0 + gt fl k = gt fl k + 0; omega, by show L1.length ≤ fl.length + 0; have z : ([] : AL).length = 0 := rfl; omega⟩ (fun i σ H' _ ⟨_, _, _, _, s2, _⟩ => SqL.of (s2 _ _ h6)) ?_ ?_⟩
      · rintro i x σ H' hi ⟨p, L, v, rfl, s2, hp, hL, cL, gL, lL⟩
        obtain ⟨c, hc, rfl⟩ := kids_get hi
        have hcm : c ∈ cs := List.mem_of_getElem? hc
        have hcz : c.2.2 ≤ (cs.map fun c : Kid => c.2.2).sum := sumN_mem (fun c : Kid => c.2.2) hcm
        have hmore := sumN_more (fun c : Kid => c.2.2) hc
        have htake := sumN_take (fun c : Kid => c.2.2) cs (i + 1)
        refine ⟨_, rfl, _, rfl, c.1, c.2.1, c.2.2, rfl, BillP.same s2 (h8 c hcm), by omega, fun H3 p3 L3 s3 hp3 hL3 cL3 gL3 lL3 => ?_⟩
        refine ⟨p, p3, L, L3, rfl, .inl (s3 _ _ hL), hL3, cL.nd, cL3.nd, by omega, fun H4 p4 L4 s4 hp4 hL4 cL4 gL4 lL4 => ?_⟩
        refine ⟨p4, L4, _, rfl, (s2.trans s3).trans s4, (s2.trans s3).free hp4, hL4, cL4, fun k => ?_, by omega⟩
        rw [gL4, gL, gL3, sum_more (fun c : Kid => c.2.1 k) hc]
        omega
      · rintro σ H' ⟨p, L, v, rfl, s2, hp, hL, cL, gL, lL⟩
        rw [List.length_map, List.take_length] at gL lL
        refine ⟨_, rfl, k H' p L s2 hp hL cL (fun c => by rw [gL, h9]) (by omega)⟩
theorem scRollUp : FnScope ["bill"] ["bill"] (defScope sRollUp) := ⟨rfl, rfl, rfl, by decide +kernel, rfl, by decide +kernel, by decide +kernel⟩
/-- check_bill(bill): the path is the def's own default -/
structure CbOk (P : Program) (w : World) (K : PySem.W.Frag) (mg : Str → Option Value) (base : Heap) : Prop where
  ex : ∃ tp f fd ds, mg "check_bill" = some (.ref f) ∧ PySem.W.keepIn K (.ref f) = true ∧ FnOk P w K mg base CX0 5 f fd ["bill", "path"] (spCheckBill K 2) ∧ Vals [V.ref tp] ds ∧ Binds K fd ["bill", "path"] ds ∧ ∀ H : Hp, SqT K H tp []
def spCb1 : Sp := fun vs H Q _ => ∃ (b : Addr) (tot : Str → Int) (sz : Nat), vs = [.ref b] ∧ BillP 2 H b tot sz ∧ sz ≤ 60 ∧ ∀ H', Same H H' → Q .non H'
theorem pe_cb {X : Cx} {p pos : Pos} {e : Expr} {te : TE} (c : CbOk X.prog X.w X.K X.mg X.base) (hr : Room 5 X.A) (he : PE X e te) (hg : Gl X "check_bill" := by rfl)
    (hs : starEach (e :: []) X.env = (false, eval e X.env) :: starEach [] X.env := by rfl) (hpl : (backTo pos (starEach [] X.env)).any (·.1) = false := by rfl) :
    PE X (.Call (.Name "check_bill" p) [e] [] pos) (tCl spCb1 E0 (tCons te tNil)) := by
  obtain ⟨tp, f, fd, ds, hm, hk, F, hd, hb, ht⟩ := c.ex
  have key : ∀ (vs : List V) (H1 : Hp) (Q : VK) (E : XK), spCb1 vs H1 Q E → spCheckBill X.K 2 (vs ++ [V.ref tp]) H1 Q E := by
    rintro vs H1 Q E ⟨b, tot, sz, rfl, hB, hz, k⟩
    exact ⟨b, tp, tot, sz, [], rfl, hB, hz, ht H1, by decide, k⟩
  have F2 : FnOk X.prog X.w X.K X.mg X.base CX0 5 f fd ["bill", "path"] (fun us H Q E => ∃ vs, us = vs ++ [V.ref tp] ∧ spCb1 vs H Q E) := F.imp fun us H Q E ⟨vs, e, h⟩ => by rw [e]; exact key vs H Q E h
  refine ⟨fun pins s σ H Q I h => ?_⟩
  refine (pe_call F2 hr hg hm hk hb hd pass0 (pa_cons he pa_nil hs) (by decide) hs hpl).run pins s σ H Q I ?_
  have e2 : (fun (vs : List V) (H1 : Hp) => ∃ us, vs ++ [V.ref tp] = us ++ [V.ref tp] ∧ spCb1 us H1 Q E0) = fun vs H1 => spCb1 vs H1 Q E0 := by
    funext vs H1
    refine propext ⟨fun ⟨us, e, h⟩ => ?_, fun h => ⟨vs, rfl, h⟩⟩
    rw [List.append_cancel_right e]
    exact h
  show tCons te tNil σ H (fun (vs : List V) (H1 : Hp) => ∃ us, vs ++ [V.ref tp] = us ++ [V.ref tp] ∧ spCb1 us H1 Q E0)
  rw [e2]
  exact h
theorem ok_rollUp {f : Addr} {fd : FuncData} (F : Fun K "roll_up" "roll_up" sRollUp f fd) (GB : CbOk P w K mg base) (GR : Cl P w K mg base CX0 4 "rolled" ["bill"] (spRolled 2)) : FnOk P w K mg base CX0 6 f fd ["bill"] (spRolled 2) := by
  refine F.ok scRollUp (fun vs H Q E h => ?_) (fun cdv A outer s H vs Q E hr h => ?_)
  · obtain ⟨b, tot, sz, rfl, _⟩ := h
    rfl
  · obtain ⟨b, tot, sz, rfl, hB, hsz, k⟩ := h
    refine ⟨_, pss_cons (ps_expr (pe_cb GB hr (pv 0))) (pss_one (ps_ret (pe_cl GR (hr.mono (by decide)) pass0 (pa_cons (pv 0) pa_nil)))), ?_⟩
    refine ⟨_, rfl, b, tot, sz, rfl, hB, hsz, fun H1 s1 => ?_⟩
    refine ⟨_, rfl, b, tot, sz, rfl, BillP.same s1 hB, hsz, fun H2 p L s2 hp hL cL gL lL => k H2 p L (s1.trans s2) (s1.free hp) hL cL gL lL⟩
end
end KT

namespace KT
open PySem PySem.Spec PyProof.Rows L2

/-! ### sheets: a name, where its counts stand, the counts -/
abbrev Sh := Str × Addr × AL
def shK (rs : List Sh) : List (Key × V) := rs.map fun r => (Sum.inr r.1, V.ref r.2.1)
def names (rs : List Sh) : List Str := rs.map (·.1)
structure ShAt (H : Hp) (d : Addr) (rs : List Sh) : Prop where
  dc : H d = some (.dK (shK rs))
  at_ : ∀ r ∈ rs, DAt H r.2.1 r.2.2
  ne : ∀ r ∈ rs, r.2.1 ≠ d
  nd : (names rs).Nodup
def fldS (d : Addr) : List (Str × V) := [(("_sheets" : Str), .ref d)]
structure TalAt (C : Addr) (H : Hp) (x d : Addr) (rs : List Sh) : Prop where
  ob : ∃ dx, H x = some (.ins C dx (fldS d))
  sh : ShAt H d rs
/-- few sheets of few counts -/
structure Fit (rs : List Sh) : Prop where
  few : rs.length ≤ 5
  ok : ∀ r ∈ rs, CountsOk r.2.2 ∧ r.2.2.length ≤ 4
def shTot (rs : List Sh) (k : Str) : Int := (rs.map fun r => gt r.2.2 k).sum
theorem look_fld (d : Addr) : (fldS d).lookup ("_sheets" : Str) = some (.ref d) := by simp [fldS, List.lookup]
theorem no_fld {m : Str} (d : Addr) (h : ¬ m = "_sheets") : (fldS d).lookup m = none := by
  have e : (m == ("_sheets" : Str)) = false := by simpa using h
  simp [fldS, List.lookup, e]
theorem shK_length (rs : List Sh) : (shK rs).length = rs.length := by unfold shK; rw [List.length_map]
theorem shK_keys (rs : List Sh) : (shK rs).map (·.1) = (names rs).map Sum.inr := by
  unfold shK names
  rw [List.map_map, List.map_map]
  rfl
theorem shK_get {rs : List Sh} {i : Nat} {kv : Key × V} (h : (shK rs)[i]? = some kv) : ∃ r, rs[i]? = some r ∧ kv = (Sum.inr r.1, V.ref r.2.1) := by
  unfold shK at h
  rw [List.getElem?_map] at h
  cases e : rs[i]? with
  | none => rw [e] at h; cases h
  | some p => rw [e] at h; exact ⟨p, rfl, (Option.some.inj h).symm⟩
theorem shK_no : ∀ {rs : List Sh} {n : Str}, n ∉ names rs → valV (shK rs) (Sum.inr n : Key) = none
  | [], _, _ => rfl
  | r :: rs, n, h => by
    have h1 : n ≠ r.1 := fun e => h (by rw [e]; exact List.mem_cons_self)
    have h2 : n ∉ names rs := fun m => h (List.mem_cons_of_mem _ m)
    show valV (((Sum.inr r.1, V.ref r.2.1) : Key × V) :: shK rs) (Sum.inr n : Key) = none
    rw [valV_neg (p := ((Sum.inr r.1 : Key), V.ref r.2.1)) (fun z => h1 (Sum.inr.inj z).symm)]
    exact shK_no h2
theorem shK_at : ∀ {rs : List Sh} {r : Sh}, (names rs).Nodup → r ∈ rs → valV (shK rs) (Sum.inr r.1 : Key) = some (V.ref r.2.1)
  | [], _, _, h => by cases h
  | q :: rs, r, nd, h => by
    obtain ⟨n1, n2⟩ := List.nodup_cons.mp (show (q.1 :: names rs).Nodup from nd)
    show valV (((Sum.inr q.1, V.ref q.2.1) : Key × V) :: shK rs) (Sum.inr r.1 : Key) = _
    rcases List.mem_cons.mp h with e | h
    · rw [e, valV_pos (p := ((Sum.inr q.1 : Key), V.ref q.2.1)) rfl]
    · have hne : q.1 ≠ r.1 := fun e => n1 (by rw [e]; exact List.mem_map.mpr ⟨r, h, rfl⟩)
      rw [valV_neg (p := ((Sum.inr q.1 : Key), V.ref q.2.1)) (fun z => hne (Sum.inr.inj z))]
      exact shK_at n2 h
theorem names_some {rs : List Sh} {n : Str} (nd : (names rs).Nodup) (h : n ∈ names rs) : ∃ r ∈ rs, r.1 = n ∧ valV (shK rs) (Sum.inr n : Key) = some (V.ref r.2.1) := by
  obtain ⟨r, hr, e⟩ := List.mem_map.mp h
  exact ⟨r, hr, e, by rw [← e]; exact shK_at nd hr⟩
theorem shK_drop (rs : List Sh) (n : Str) : dropK (shK rs) (Sum.inr n : Key) = shK (rs.filter fun r => decide (r.1 ≠ n)) := by
  unfold dropK shK
  rw [List.filter_map]
  refine congrArg _ (List.filter_congr fun r _ => ?_)
  simp
theorem shK_put {rs : List Sh} {n : Str} {a : Addr} {f : AL} (h : n ∉ names rs) : putK (shK rs) (Sum.inr n) (.ref a) = shK (rs ++ [(n, a, f)]) := by
  rw [putK_new _ (shK_no h)]
  unfold shK
  rw [List.map_append]
  rfl
theorem ShAt.same {H H' : Hp} {d : Addr} {rs : List Sh} (h : ShAt H d rs) (s : Same H H') : ShAt H' d rs := ⟨s _ _ h.dc, fun r hr => s _ _ (h.at_ r hr), h.ne, h.nd⟩
/-- another object is written -/
theorem ShAt.but {H H' : Hp} {c d : Addr} {rs : List Sh} (h : ShAt H d rs) (s : But c H H') (n : d ≠ c) (ns : ∀ r ∈ rs, r.2.1 ≠ c) : ShAt H' d rs := ⟨s _ _ h.dc n, fun r hr => s _ _ (h.at_ r hr) (ns r hr), h.ne, h.nd⟩
theorem TalAt.same {C : Addr} {H H' : Hp} {x d : Addr} {rs : List Sh} (h : TalAt C H x d rs) (s : Same H H') : TalAt C H' x d rs := ⟨let ⟨dx, e⟩ := h.ob; ⟨dx, s _ _ e⟩, h.sh.same s⟩
theorem TalAt.ne {C : Addr} {H : Hp} {x d : Addr} {rs : List Sh} (h : TalAt C H x d rs) : x ≠ d := let ⟨_, e⟩ := h.ob; ne_of e h.sh.dc (by intro z; cases z)
theorem names_filter {rs : List Sh} {n : Str} (nd : (names rs).Nodup) : (names (rs.filter fun r => decide (r.1 ≠ n))).Nodup := nd.sublist (List.filter_sublist.map _)
theorem names_snoc {rs : List Sh} {n : Str} {a : Addr} {f : AL} (nd : (names rs).Nodup) (h : n ∉ names rs) : (names (rs ++ [(n, a, f)])).Nodup := by
  have e : names (rs ++ [(n, a, f)]) = names rs ++ [n] := by unfold names; rw [List.map_append]; rfl
  rw [e]
  exact nd_snoc nd h
/-- the dict at d is written: a sheet more -/
theorem ShAt.put {H H' : Hp} {d a : Addr} {rs : List Sh} {n : Str} {f : AL} (h : ShAt H d rs) (hn : n ∉ names rs) (b : But d H H') (hd : H' d = some (.dK (shK (rs ++ [(n, a, f)])))) (ha : DAt H' a f) (hne : a ≠ d) : ShAt H' d (rs ++ [(n, a, f)]) :=
  ⟨hd, fun r hr => by
    rcases List.mem_append.mp hr with hr | hr
    · exact b _ _ (h.at_ r hr) (h.ne r hr)
    · rw [List.mem_singleton.mp hr]; exact ha, fun r hr => by
    rcases List.mem_append.mp hr with hr | hr
    · exact h.ne r hr
    · rw [List.mem_singleton.mp hr]; exact hne, names_snoc h.nd hn⟩
theorem ShAt.drop {H H' : Hp} {d : Addr} {rs : List Sh} (n : Str) (h : ShAt H d rs) (b : But d H H') (hd : H' d = some (.dK (shK (rs.filter fun r => decide (r.1 ≠ n))))) : ShAt H' d (rs.filter fun r => decide (r.1 ≠ n)) :=
  ⟨hd, fun r hr => b _ _ (h.at_ r (List.mem_filter.mp hr).1) (h.ne r (List.mem_filter.mp hr).1), fun r hr => h.ne r (List.mem_filter.mp hr).1, names_filter h.nd⟩

/-! ### the class -/
structure TlT (K : PySem.W.Frag) (mg : Str → Option Value) (C : Addr) : Prop where
  cl : Cls K C
  no : NoAttr K C "_sheets"
/-- the classes of errors that add raises -/
structure BsT (K : PySem.W.Frag) (mg : Str → Option Value) (C : Addr) : Prop where
  gC : mg "BadSheet" = some (.ref C)
  ex : PySem.W.excIn K C [.type "ValueError", .type "Exception", .type "BaseException", .type "object"] "ValueError.__new__" = true
  kp : PySem.W.keepIn K (.ref C) = true
  sb : PySem.W.subIn K (.ref C) (.type "BaseException") = some true
  ty : PySem.W.typeIn K (.ref C) = some (.type "type")
def spTI (C : Addr) : Sp := fun vs H Q _ => ∃ (x dx : Addr), vs = [.ref x] ∧ H x = some (.ins C dx []) ∧ ∀ (d : Addr) (H' : Hp), H d = none → TalAt C H' x d [] → But x H H' → Q .non H'
def spTLen (C : Addr) : Sp := fun vs H Q _ => ∃ (x d : Addr) (rs : List Sh), vs = [.ref x] ∧ TalAt C H x d rs ∧ Q (.int rs.length) H
def goodName (n : Str) : Prop := 1 ≤ n.length ∧ n.length ≤ 12
def spTAdd (C CB CS : Addr) : Sp := fun vs H Q E => ∃ (x d c : Addr) (rs : List Sh) (n : Str) (f : AL), vs = [.ref x, .str n, .ref c] ∧ TalAt C H x d rs ∧ rs.length ≤ 50 ∧ DAt H c f ∧ (keys f).Nodup ∧ f.length ≤ 60 ∧ (∀ p ∈ f, legal p ∨ p.1 = aS) ∧ n.length ≤ 1000 ∧
  (¬ goodName n → E (.ref CS) none H) ∧ (goodName n → aS ∈ keys f → ∀ H' dd, Same H H' → H dd = none → H' dd = some (.xd [(("code" : Str), V.str aS)]) → E (.ref CB) (some dd) H') ∧
  (goodName n → aS ∉ keys f → n ∈ names rs → ∀ H', Same H H' → Q (.bl false) H') ∧
  (goodName n → aS ∉ keys f → n ∉ names rs → ∀ H' a, H a = none → But d H H' → TalAt C H' x d (rs ++ [(n, a, f)]) → Q (.bl true) H')
def spTRem (C : Addr) : Sp := fun vs H Q _ => ∃ (x d : Addr) (rs : List Sh) (n : Str), vs = [.ref x, .str n] ∧ TalAt C H x d rs ∧ (n ∉ names rs → Q (.bl false) H) ∧
  (n ∈ names rs → ∀ H', But d H H' → TalAt C H' x d (rs.filter fun r => decide (r.1 ≠ n)) → Q (.bl true) H')
def spTTot (C : Addr) : Sp := fun vs H Q _ => ∃ (x d : Addr) (rs : List Sh), vs = [.ref x] ∧ TalAt C H x d rs ∧ Fit rs ∧
  ∀ (H' : Hp) (p : Addr) (L : AL), Same H H' → H p = none → DAt H' p L → Canon L → (∀ k, gt L k = shTot rs k) → L.length ≤ 20 → Q (.ref p) H'
section
variable {P : Program} {w : World} {K : PySem.W.Frag} {mg : Str → Option Value} {base : Heap} {C : Addr}
theorem scTI : FnScope ["self"] ["self"] (defScope sTI) := ⟨rfl, rfl, rfl, by decide +kernel, rfl, by decide +kernel, by decide +kernel⟩
theorem ok_tI {f : Addr} {fd : FuncData} (F : Fun K "__init__" "Tally.__init__" sTI f fd) (T : TlT K mg C) : FnOk P w K mg base CX0 1 f fd ["self"] (spTI C) := by
  refine F.ok scTI (fun vs H Q E h => ?_) (fun cdv A outer s H vs Q E hr h => ?_)
  · obtain ⟨x, dx, rfl, _⟩ := h
    rfl
  · obtain ⟨x, dx, rfl, hx, k⟩ := h
    refine ⟨_, pss_one (ps_fld (pv 0) pe_dnewK rfl), ?_⟩
    intro d hd
    have nxd : x ≠ d := ne_of_none hx hd
    refine ⟨_, rfl, x, C, dx, [], rfl, (by rw [upd_ne nxd]; exact hx), T.cl, T.no, (by show 0 < 1000; decide), ?_⟩
    refine k d _ hd ⟨⟨dx, upd_same⟩, ⟨by rw [upd_ne (Ne.symm nxd), upd_same]; rfl, (fun r hr => by cases hr), (fun r hr => by cases hr), List.nodup_nil⟩⟩ fun b o e n => ?_
    rw [upd_ne n, upd_ne (ne_of_none e hd)]
    exact e
theorem scTLen : FnScope ["self"] ["self"] (defScope sTLen) := ⟨rfl, rfl, rfl, by decide +kernel, rfl, by decide +kernel, by decide +kernel⟩
theorem ok_tLen {f : Addr} {fd : FuncData} (F : Fun K "__len__" "Tally.__len__" sTLen f fd) (M : Mg mg) (T : TlT K mg C) : FnOk P w K mg base CX0 1 f fd ["self"] (spTLen C) := by
  refine F.ok scTLen (fun vs H Q E h => ?_) (fun cdv A outer s H vs Q E hr h => ?_)
  · obtain ⟨x, d, rs, rfl, _⟩ := h
    rfl
  · obtain ⟨x, d, rs, rfl, S, k⟩ := h
    obtain ⟨dx, hx⟩ := S.ob
    refine ⟨_, pss_one (ps_ret (pe_callB call_lenD (by rfl) M.len PySem.boot_len (pa_cons (pe_fld (pv 0) rfl) pa_nil))), ?_⟩
    refine ⟨_, rfl, x, C, dx, _, _, rfl, hx, T.cl, T.no, look_fld d, d, _, rfl, S.sh.dc, ?_⟩
    rw [shK_length]
    exact k
theorem scTAdd : FnScope ["self", "name", "counts"] ["self", "name", "counts"] (defScope sTAdd) := ⟨rfl, rfl, rfl, by decide +kernel, rfl, by decide +kernel, by decide +kernel⟩
theorem ok_tAdd {f CB CS : Addr} {fd : FuncData} (F : Fun K "add" "Tally.add" sTAdd f fd) (M : Mg mg) (T : TlT K mg C) (B : BsT K mg CS) (GC : CCOk P w K mg base CB) : FnOk P w K mg base (L2.CX P w) 4 f fd ["self", "name", "counts"] (spTAdd C CB CS) := by
  refine F.okX scTAdd (fun vs H Q E h => ?_) (fun cdv A outer s H vs Q E hr h => ?_)
  · obtain ⟨x, d, c, rs, n, f, rfl, _⟩ := h
    rfl
  · obtain ⟨x, d, c, rs, n, fc, rfl, S, hrs, hc, ndc, hcl, hleg, hnl, kS, kB, kF, kT⟩ := h
    have hu := hu_of hr
    obtain ⟨dx, hx⟩ := S.ob
    have nxd := S.ne
    refine ⟨_, pss_cons (ps_if (pt_not (pt_chain op_le op_le pe_int (pe_callB call_len_str (by rfl) M.len PySem.boot_len (pa_cons (pv 1) pa_nil)) (pe_gl M.mostName)))
        (pss_one (ps_raise rfl (takes_of rfl rfl rfl rfl) (pmk_own0 PySem.F.excBase_ValueError B.ex B.gC B.kp (raises_own B.sb B.ty) (by exact rfl)))) pss_nil)
      (pss_cons (ps_expr (pe_cl GC hr (passes_call (takes_of rfl rfl rfl rfl) (fun cls d _ H h => h)) (pa_cons (pv 2) pa_nil)))
      (pss_cons (ps_if (pt_cmp (pc_din hu (pv 1) (pe_fld (pv 0) rfl))) (pss_one (ps_ret pe_bl)) pss_nil)
      (pss_cons (ps_if (pt_cmpR op_ge (pe_callB call_lenD (by rfl) M.len PySem.boot_len (pa_cons (pe_fld (pv 0) rfl) pa_nil)) (pe_gl M.mostSheets) (nomark _)) (pss_one ps_never) pss_nil)
      (pss_cons (ps_dput hu (pe_fld (pv 0) rfl) (pv 1) (pe_callTy call_dictD (by rfl) M.dict (by decide +kernel) (pa_cons (pv 2) pa_nil)) rfl)
      (pss_one (ps_ret pe_bl)))))), ?_⟩
    refine ⟨_, rfl, n, rfl, n63' hnl, _, _, rfl, rfl, _, rfl, ?_⟩
    by_cases h1 : (1 : Int) ≤ (n.length : Int)
    · rw [decide_eq_true h1]
      refine ⟨_, _, rfl, rfl, _, rfl, ?_⟩
      by_cases h2 : (n.length : Int) ≤ 12
      · rw [decide_eq_true h2]
        have hg : goodName n := ⟨by omega, by omega⟩
        refine ⟨_, rfl, c, fc, rfl, .inl hc, ndc, hcl, hleg, fun hno H1 s1 => ?_, fun hm H1 dd s1 hdd hxd => kB hg hm H1 dd s1 hdd hxd⟩
        have S1 := S.same s1
        obtain ⟨dx1, hx1⟩ := S1.ob
        refine ⟨_, rfl, _, rfl, x, C, dx1, _, _, rfl, hx1, T.cl, T.no, look_fld d, d, _, rfl, DGet.k (k := Sum.inr n) S1.sh.dc, _, rfl, ?_⟩
        by_cases hin : n ∈ names rs
        · obtain ⟨r, hr', e1, e2⟩ := names_some S.sh.nd hin
          rw [e2]
          exact kF hg hno hin H1 s1
        · rw [shK_no hin]
          refine ⟨_, rfl, x, C, dx1, _, _, rfl, hx1, T.cl, T.no, look_fld d, d, _, rfl, S1.sh.dc, _, _, rfl, rfl, _, rfl, ?_⟩
          have hl : ((shK rs).length : Int) < 100 := by rw [shK_length]; omega
          rw [decide_eq_false (show ¬ (100 : Int) ≤ ((shK rs).length : Int) by omega)]
          refine ⟨_, rfl, c, toK fc, rfl, .inl (s1 _ _ hc), fun a ha => ?_⟩
          have ha0 : H a = none := s1.free ha
          have nda : d ≠ a := ne_of_none S1.sh.dc ha
          have nxa : x ≠ a := ne_of_none hx1 ha
          have hd2 : (upd H1 a (.dK (toK fc))) d = some (.dK (shK rs)) := by rw [upd_ne nda]; exact S1.sh.dc
          refine ⟨_, rfl, x, C, dx1, _, _, rfl, (by rw [upd_ne nxa]; exact hx1), T.cl, T.no, look_fld d, _, rfl, d, _, rfl, DPut.k (k := Sum.inr n) hd2 (n63 (by rw [shK_length]; omega)), ?_⟩
          refine kT hg hno hin _ a ha0 (fun b o e ne => ?_) ⟨⟨dx1, ?_⟩, ?_⟩
          · rw [upd_ne ne, upd_ne (ne_of_none (s1 b o e) ha)]
            exact s1 b o e
          · rw [upd_ne nxd, upd_ne nxa]
            exact hx1
          · refine ShAt.put (H := upd H1 a (.dK (toK fc))) (S1.sh.same (Same.upd ha)) hin But.upd ?_ ?_ (Ne.symm nda)
            · rw [upd_same, shK_put (f := fc) hin]
            · unfold DAt
              rw [upd_ne (Ne.symm nda), upd_same]
      · rw [decide_eq_false h2]
        exact kS fun h => h2 (by have := h.2; omega)
    · rw [decide_eq_false h1]
      exact ⟨_, rfl, kS fun h => h1 (by have := h.1; omega)⟩
theorem scTRem : FnScope ["self", "name"] ["self", "name"] (defScope sTRem) := ⟨rfl, rfl, rfl, by decide +kernel, rfl, by decide +kernel, by decide +kernel⟩
theorem ok_tRem {f : Addr} {fd : FuncData} (F : Fun K "remove" "Tally.remove" sTRem f fd) (T : TlT K mg C) : FnOk P w K mg base CX0 1 f fd ["self", "name"] (spTRem C) := by
  refine F.ok scTRem (fun vs H Q E h => ?_) (fun cdv A outer s H vs Q E hr h => ?_)
  · obtain ⟨x, d, rs, n, rfl, _⟩ := h
    rfl
  · obtain ⟨x, d, rs, n, rfl, S, kF, kT⟩ := h
    have hu := hu_of hr
    obtain ⟨dx, hx⟩ := S.ob
    have nxd := S.ne
    refine ⟨_, pss_cons (ps_if (pt_cmp (pc_dnotin hu (pv 1) (pe_fld (pv 0) rfl))) (pss_one (ps_ret pe_bl)) pss_nil)
      (pss_cons (ps_expr (pe_dpop1 (pe_fld (pv 0) rfl) (pv 1) ⟨rfl, rfl, rfl, rfl⟩)) (pss_one (ps_ret pe_bl))), ?_⟩
    refine ⟨_, rfl, _, rfl, x, C, dx, _, _, rfl, hx, T.cl, T.no, look_fld d, d, _, rfl, DGet.k (k := Sum.inr n) S.sh.dc, _, rfl, ?_⟩
    by_cases hin : n ∈ names rs
    · obtain ⟨r, hr', e1, e2⟩ := names_some S.sh.nd hin
      rw [e2]
      refine ⟨_, rfl, x, C, dx, _, _, rfl, hx, T.cl, T.no, look_fld d, d, rfl, .inl ⟨_, .inl S.sh.dc⟩, _, rfl, shK rs, Sum.inr n, _, S.sh.dc, rfl, e2, ?_⟩
      rw [shK_drop]
      exact kT hin _ But.upd ⟨⟨dx, by rw [upd_ne nxd]; exact hx⟩, S.sh.drop n But.upd upd_same⟩
    · rw [shK_no hin]
      exact kF hin
end
end KT

namespace KT
open PySem PySem.Spec PyProof.Rows L2

def neg (L : AL) : AL := L.map fun p => (p.1, -p.2)
theorem keys_neg (L : AL) : keys (neg L) = keys L := by
  unfold neg keys
  rw [List.map_map]
  rfl
theorem look_neg (k : Str) : ∀ L : AL, look (neg L) k = (look L k).map fun v => -v
  | [] => rfl
  | p :: L => by
    show look ((p.1, -p.2) :: neg L) k = _
    by_cases e : p.1 = k
    · rw [look_cons_pos e, look_cons_pos (p := (p.1, -p.2)) e]; rfl
    · rw [look_cons_neg e, look_cons_neg (p := (p.1, -p.2)) e]; exact look_neg k L
theorem gt_neg (L : AL) (k : Str) : gt (neg L) k = - gt L k := by
  unfold gt
  rw [look_neg]
  cases look L k <;> rfl
theorem neg_length (L : AL) : (neg L).length = L.length := by unfold neg; rw [List.length_map]
theorem neg_snoc (L : AL) (p : Str × Int) : neg (L ++ [p]) = neg L ++ [(p.1, -p.2)] := by unfold neg; rw [List.map_append]; rfl
def spTCmp (C : Addr) : Sp := fun vs H Q _ => ∃ (x d b : Addr) (rs : List Sh) (tot : Str → Int) (sz : Nat), vs = [.ref x, .ref b] ∧ TalAt C H x d rs ∧ Fit rs ∧ BillP 2 H b tot sz ∧ sz ≤ 30 ∧
  ∀ (H' : Hp) (p : Addr) (L : AL), Same H H' → H p = none → DAt H' p L → Canon L → (∀ k, gt L k = shTot rs k - tot k) → L.length ≤ 20 + sz → Q (.ref p) H'
section
variable {P : Program} {w : World} {K : PySem.W.Frag} {mg : Str → Option Value} {base : Heap} {C : Addr}
theorem scTTot : FnScope ["self", "found", "name"] ["self"] (defScope sTTot) := ⟨rfl, rfl, rfl, by decide +kernel, rfl, by decide +kernel, by decide +kernel⟩
theorem ok_tTot {f : Addr} {fd : FuncData} (F : Fun K "total" "Tally.total" sTTot f fd) (T : TlT K mg C) (GP : PutOk P w K mg base) : FnOk P w K mg base CX0 3 f fd ["self"] (spTTot C) := by
  refine F.ok scTTot (fun vs H Q E h => ?_) (fun cdv A outer s H vs Q E hr h => ?_)
  · obtain ⟨x, d, rs, rfl, _⟩ := h
    rfl
  · obtain ⟨x, d, rs, rfl, S, hfit, k⟩ := h
    have hu := hu_of hr
    obtain ⟨dx, hx⟩ := S.ob
    have nxd := S.ne
    refine ⟨_, pss_cons (ps_set (i := 1) scTTot.nd rfl (Or.inl rfl) pe_dnewK)
      (pss_cons (ps_lock (ps_for PassesOwn.never rfl (pi_keys (pe_fld (pv 0) rfl)) (pg_name (i := 2) scTTot.nd rfl (Or.inl rfl))
        (pss_one (ps_set (i := 1) scTTot.nd rfl (Or.inl rfl) (pe_cl GP hr pass0 (pa_cons (pv 1) (pa_cons (pe_dget hu (pe_fld (pv 0) rfl) (pv 2) (fun _ _ => rfl)) pa_nil)))))))
      (pss_one (ps_ret (pv 1)))), ?_⟩
    intro D0 hD0
    have s0 : Same H (upd H D0 (.dK [])) := Same.upd hD0
    have hd0 := s0 _ _ S.sh.dc
    have nD0 : d ≠ D0 := ne_of_none S.sh.dc hD0
    refine ⟨d, _, hd0, True.intro, fun od => ?_⟩
    have hx0 : (upd (upd H D0 (.dK [])) d (.frz od (.dK (shK rs)))) x = some (.ins C dx (fldS d)) := by rw [upd_ne nxd]; exact s0 _ _ hx
    refine ⟨_, rfl, x, C, dx, _, _, rfl, hx0, T.cl, T.no, look_fld d, d, od, rfl, .inl ⟨shK rs, upd_same, ?_⟩⟩
    refine for_it walk_keys (fun i σ H' => ∃ (p : Addr) (L : AL) (v : Option V), σ = [some (.ref x), some (.ref p), v] ∧ Same (upd (upd H D0 (.dK [])) d (.frz od (.dK (shK rs)))) H' ∧ H p = none ∧ p ≠ d ∧ DAt H' p L ∧ Canon L ∧ (∀ k, gt L k = shTot (rs.take i) k) ∧ L.length ≤ 4 * i)
      ⟨D0, [], none, rfl, Same.refl _, hD0, Ne.symm nD0, by unfold DAt; rw [upd_ne (Ne.symm nD0), upd_same]; rfl, ⟨List.Pairwise.nil, fun p h => by cases h⟩, fun k => rfl, Nat.le_refl _⟩ (fun i σ H' _ ⟨_, _, _, _, s1, _⟩ => s1 _ _ upd_same) ?_ ?_
    · rintro i y σ H' H'' hi ⟨p, L, v, rfl, s1, hp, npd, hL, cL, gL, lL⟩ ⟨rfl, kk, vv, hkv, rfl⟩
      obtain ⟨r, hr1, e⟩ := shK_get hkv
      obtain ⟨rfl, rfl⟩ := Prod.mk.inj e
      have hrm : r ∈ rs := List.mem_of_getElem? hr1
      have hil : i < rs.length := (List.getElem?_eq_some_iff.mp hr1).1
      have hrat : DAt H'' r.2.1 r.2.2 := s1 _ _ (by rw [upd_ne (S.sh.ne r hrm)]; exact s0 _ _ (S.sh.at_ r hrm))
      have hrf := hfit.ok r hrm
      have hfew := hfit.few
      refine ⟨_, rfl, _, rfl, x, C, dx, _, _, rfl, s1 _ _ hx0, T.cl, T.no, look_fld d, _, rfl, d, .ref r.2.1, rfl, .inl ⟨shK rs, Sum.inr r.1, .inr ⟨od, s1 _ _ upd_same⟩, rfl, (shK_at S.sh.nd hrm).symm⟩, ?_⟩
      refine ⟨p, r.2.1, L, r.2.2, rfl, .inl hL, hrat, cL.nd, hrf.1.nd, by omega, fun H3 p3 L3 s3 hp3 hL3 cL3 gL3 lL3 => ?_⟩
      have s13 := s1.trans s3
      have hp3H : (upd (upd H D0 (.dK [])) d (.frz od (.dK (shK rs)))) p3 = none := s1.free hp3
      have np3d : p3 ≠ d := fun z => by rw [z, upd_same] at hp3H; cases hp3H
      refine ⟨p3, L3, _, rfl, s13, ?_, np3d, hL3, cL3, fun k => ?_, by omega⟩
      · rw [upd_ne np3d] at hp3H
        exact s0.free hp3H
      · rw [gL3, gL]
        unfold shTot
        rw [sum_more (fun r : Sh => gt r.2.2 k) hr1]
    · rintro σ H' ⟨p, L, v, rfl, s1, hp, npd, hL, cL, gL, lL⟩
      rw [shK_length, List.take_length] at gL
      rw [shK_length] at lL
      have hfew := hfit.few
      refine ⟨s1 _ _ upd_same, ?_⟩
      have s2 : Same H (upd H' d (.dK (shK rs))) := fun c o e => by
        by_cases ncd : c = d
        · rw [ncd, upd_same]
          rw [ncd, S.sh.dc] at e
          exact e
        · rw [upd_ne ncd]
          exact s1 c o (by rw [upd_ne ncd]; exact s0 c o e)
      refine ⟨_, rfl, k _ p L s2 hp (by unfold DAt; rw [upd_ne npd]; exact hL) cL gL (by omega)⟩
abbrev nCmp : List Str := ["self", "bill", "rows", "code"]
theorem scTCmp : FnScope nCmp ["self", "bill"] (defScope sTCmp) := ⟨rfl, rfl, rfl, by decide +kernel, rfl, by decide +kernel, by decide +kernel⟩
theorem ok_tCmp {f fT : Addr} {fd fdT : FuncData} (F : Fun K "compare" "Tally.compare" sTCmp f fd) (T : TlT K mg C) (GP : PutOk P w K mg base) (GB : CbOk P w K mg base) (GR : Cl P w K mg base CX0 4 "rolled" ["bill"] (spRolled 2))
    (mT : Meth K C "total" fT) (GT : FnOk P w K mg base CX0 3 fT fdT ["self"] (spTTot C)) (bT : Binds K fdT ["self"] []) : FnOk P w K mg base CX0 6 f fd ["self", "bill"] (spTCmp C) := by
  refine F.ok scTCmp (fun vs H Q E h => ?_) (fun cdv A outer s H vs Q E hr h => ?_)
  · obtain ⟨x, d, b, rs, tot, sz, rfl, _⟩ := h
    rfl
  · obtain ⟨x, d, b, rs, tot, sz, rfl, S, hfit, hB, hsz, k⟩ := h
    have hu := hu_of hr
    refine ⟨_, pss_cons (ps_expr (pe_cb GB hr (pv 1)))
      (pss_cons (ps_set (i := 2) scTCmp.nd rfl (Or.inr rfl) (pe_cl GR (hr.mono (by decide)) pass0 (pa_cons (pv 1) pa_nil)))
      (pss_one (ps_ret (pe_cl GP (hr.mono (by decide)) pass0 (pa_cons (pe_meth0 (pv 0) T.cl mT GT (hr.mono (by decide)) bT .nil pass0)
        (pa_cons (pe_lock (pe_dc (own := [("code", 3)]) rfl scTCmp.nd (pi_keys (pv 2)) (blkOk_by (own := [("code", 3)]) (N := nCmp) (sc := defScope sTCmp) (by decide +kernel))
          (fun _ _ _ _ _ => pg_name (i := 3) scTCmp.nd rfl (Or.inl rfl)) (fun _ _ _ _ _ => pts_nil) (fun _ _ _ _ _ => pv 3) (fun _ _ _ _ _ => pe_un un_neg (pe_dget hu (pv 2) (pv 3) (fun _ _ => rfl))))) pa_nil)))))), ?_⟩
    refine ⟨_, rfl, b, tot, sz, rfl, hB, by omega, fun H1 s1 => ?_⟩
    refine ⟨_, rfl, b, tot, sz, rfl, BillP.same s1 hB, by omega, fun H2 p L s2 hp hL cL gL lL => ?_⟩
    have s12 := s1.trans s2
    have S2 := S.same s12
    obtain ⟨dx, hx⟩ := S2.ob
    refine ⟨_, rfl, x, dx, _, rfl, hx, no_fld d (by decide +kernel), x, d, rs, rfl, S2, hfit, fun H3 pt Lt s3 hpt hLt cLt gLt lLt => ?_⟩
    -- {code: -rows[code] for code in rows}
    have hL3 := s3 _ _ hL
    refine ⟨p, _, hL3, True.intro, fun od => ?_⟩
    refine ⟨_, rfl, p, od, rfl, .inl ⟨toK L, upd_same, fun D hD => ?_⟩⟩
    have npD : p ≠ D := ne_of_none (upd_same (H := H3) (a := p)) hD
    refine dc_it walk_keys (fun i H' => Same (upd H3 p (.frz od (.dK (toK L)))) H' ∧ DAt H' D (neg (L.take i))) ⟨Same.upd hD, upd_same⟩ (fun i H' _ h => h.1 _ _ upd_same) ?_ ?_
    · rintro i y H' H'' hi ⟨s4, hDf⟩ ⟨rfl, kk, vv, hkv, rfl⟩
      obtain ⟨q, hq, e⟩ := toK_get hkv
      obtain ⟨rfl, rfl⟩ := Prod.mk.inj e
      have hqm : q ∈ L := List.mem_of_getElem? hq
      have hil : i < L.length := (List.getElem?_eq_some_iff.mp hq).1
      have hnew : q.1 ∉ keys (neg (L.take i)) := fun m => by
        rw [keys_neg] at m
        have hnd : (keys (L.take (i + 1))).Nodup := by
          have e1 : keys (L.take (i + 1)) = (keys L).take (i + 1) := by unfold keys; rw [List.map_take]
          rw [e1]
          exact cL.nd.sublist (List.take_sublist _ _)
        rw [take_more hq] at hnd
        unfold keys at hnd m
        rw [List.map_append] at hnd
        exact (List.nodup_append.mp hnd).2.2 q.1 m q.1 List.mem_cons_self rfl
      refine ⟨rfl, ?_⟩
      refine ⟨_, rfl, _, rfl, _, rfl, p, .int q.2, rfl, dget_of (.inr ⟨od, s4 _ _ upd_same⟩) (look_of_mem cL.nd hqm), _, rfl, toK (neg (L.take i)), Sum.inr q.1, rfl, hDf, n63 ?_, fun c o e => ?_, ?_⟩
      · rw [toK_length, neg_length, List.length_take]
        omega
      · rw [upd_ne (ne_of_none e hD)]
        exact s4 c o e
      · unfold DAt
        rw [upd_same, take_more hq, neg_snoc, ← put_new _ hnew, toK_put]
    · rintro H' ⟨s4, hDf⟩
      rw [toK_length, List.take_length] at hDf
      refine ⟨s4 _ _ upd_same, ?_⟩
      have s5 : Same H3 (upd H' p (.dK (toK L))) := fun c o e => by
        by_cases ncp : c = p
        · rw [ncp, upd_same]
          rw [ncp, hL3] at e
          exact e
        · rw [upd_ne ncp]
          exact s4 c o (by rw [upd_ne ncp]; exact e)
      have hDf2 : DAt (upd H' p (.dK (toK L))) D (neg L) := by unfold DAt; rw [upd_ne (Ne.symm npD)]; exact hDf
      refine ⟨pt, D, Lt, neg L, rfl, .inl (s5 _ _ hLt), hDf2, cLt.nd, by rw [keys_neg]; exact cL.nd, by rw [neg_length]; omega, fun H6 p6 L6 s6 hp6 hL6 cL6 gL6 lL6 => ?_⟩
      have sAll := ((s12.trans s3).trans s5)
      rw [neg_length] at lL6
      exact k H6 p6 L6 (sAll.trans s6) (sAll.free hp6) hL6 cL6 (fun c => by rw [gL6, gLt, gt_neg, gL]; omega) (by omega)
end
end KT

namespace KT
open PySem PySem.Spec PyProof.Rows L2

abbrev Rw := Addr × AL
def rowsTot (gs : List Rw) (k : Str) : Int := (gs.map fun g => gt g.2 k).sum
def rowsLen (gs : List Rw) : Nat := (gs.map fun g => g.2.length).sum
theorem tot_more (k : Str) {gs : List Rw} {i : Nat} {g : Rw} (h : gs[i]? = some g) : rowsTot (gs.take (i + 1)) k = rowsTot (gs.take i) k + gt g.2 k := by
  unfold rowsTot
  rw [take_more h, List.map_append, List.sum_append]
  simp
theorem len_more {gs : List Rw} {i : Nat} {g : Rw} (h : gs[i]? = some g) : rowsLen (gs.take (i + 1)) = rowsLen (gs.take i) + g.2.length := by
  unfold rowsLen
  rw [take_more h, List.map_append, List.sum_append]
  simp
theorem len_take (gs : List Rw) (i : Nat) : rowsLen (gs.take i) ≤ rowsLen gs := by
  unfold rowsLen
  have h : (gs.map fun g => g.2.length) = ((gs.take i).map fun g => g.2.length) ++ ((gs.drop i).map fun g => g.2.length) := by rw [← List.map_append, List.take_append_drop]
  rw [h, List.sum_append]
  omega
theorem refs_get {gs : List Rw} {i : Nat} {x : V} (h : (gs.map fun g => V.ref g.1)[i]? = some x) : ∃ g, gs[i]? = some g ∧ x = V.ref g.1 := by
  rw [List.getElem?_map] at h
  cases e : gs[i]? with
  | none => rw [e] at h; cases h
  | some z => rw [e] at h; exact ⟨z, rfl, (Option.some.inj h).symm⟩
def spSum (K : PySem.W.Frag) : Sp := fun vs H Q _ => ∃ (a : Addr) (gs : List Rw), vs = [.ref a] ∧ H a = some (.lst (gs.map fun g => V.ref g.1)) ∧ (∀ g ∈ gs, DAt H g.1 g.2 ∧ (keys g.2).Nodup) ∧ rowsLen gs < 64 ∧
  ∀ (H' : Hp) (p : Addr) (L : AL), Same H H' → H p = none → DAt H' p L → Canon L → (∀ k, gt L k = rowsTot gs k) → L.length ≤ rowsLen gs → Q (.ref p) H'
section
variable {P : Program} {w : World} {K : PySem.W.Frag} {mg : Str → Option Value} {base : Heap}
abbrev nSum : List Str := ["_law_rows", "_law_found", "_law_row", "_law_code_here"]
theorem scSum : FnScope nSum ["_law_rows"] (defScope sSum) := ⟨rfl, rfl, rfl, by decide +kernel, rfl, by decide +kernel, by decide +kernel⟩
theorem ok_sum {f : Addr} {fd : FuncData} (F : Fun K "_law_sum" "_law_sum" sSum f fd) (M : Mg mg) : FnOk P w K mg base CX0 1 f fd ["_law_rows"] (spSum K) := by
  refine F.ok scSum (fun vs H Q E h => ?_) (fun cdv A outer s H vs Q E hr h => ?_)
  · obtain ⟨a, gs, rfl, _⟩ := h
    rfl
  · obtain ⟨a, gs, rfl, ha, hgs, hlen, k⟩ := h
    have hu := hu_of hr
    refine ⟨_, pss_cons (ps_set (i := 1) scSum.nd rfl (Or.inr rfl) pe_dnewK)
      (pss_cons (ps_for PassesOwn.never rfl (pi_list (pv 0)) (pg_name (i := 2) scSum.nd rfl (Or.inl rfl))
        (pss_one (ps_lock (ps_for PassesOwn.never rfl (pi_keys (pv 2)) (pg_name (i := 3) scSum.nd rfl (Or.inl rfl))
          (pss_one (ps_dput hu (pv 1) (pv 3) (pe_op op_add (pe_dget2 hu (pv 1) (pv 3) pe_int ⟨rfl, rfl, rfl, rfl⟩) (pe_dget hu (pv 2) (pv 3) (fun _ _ => rfl))) rfl))))))
      (pss_one (ps_ret (pe_callTy (call_dictP rfl) (by rfl) M.dict (by decide +kernel) (pa_cons (pe_lc (own := [("_law_code_here", 3)]) (g := gName 3) rfl scSum.nd (pi_list (pe_callB (call_sortedD rfl) (by rfl) M.sorted (by decide +kernel) (pa_cons (pv 1) pa_nil)))
        (blkOk_by (own := [("_law_code_here", 3)]) (N := nSum) (sc := defScope sSum) (by decide +kernel)) (fun _ _ _ _ _ => pg_name (i := 3) scSum.nd rfl (Or.inl rfl)) (fun _ _ _ _ _ => pts_one (pt_cmpR op_ne (pe_dget hu (pv 1) (pv 3) (fun _ _ => rfl)) pe_int (nomark _)))
        (fun _ _ _ _ _ => pe_tup (pa_cons (pv 3) (pa_cons (pe_dget hu (pv 1) (pv 3) (fun _ _ => rfl)) pa_nil)))) pa_nil))))), ?_⟩
    intro D hD
    have s0 : Same H (upd H D (.dK [])) := Same.upd hD
    refine ⟨_, rfl, a, rfl, ⟨_, SqL.of (s0 _ _ ha)⟩, for_list (K := K) (a := a) (xs := gs.map fun g => V.ref g.1) (fun i σ H' => ∃ (f : AL) (v2 v3 : Option V), σ = [some (.ref a), some (.ref D), v2, v3] ∧ Same H H' ∧ DAt H' D f ∧ (keys f).Nodup ∧
        (∀ k, gt f k = rowsTot (gs.take i) k) ∧ f.length ≤ rowsLen (gs.take i))
      ⟨[], none, none, rfl, s0, upd_same, List.nodup_nil, fun k => rfl, Nat.le_refl _⟩ (fun i σ H' _ ⟨_, _, _, _, s1, _⟩ => SqL.of (s1 _ _ ha)) ?_ ?_⟩
    · rintro i x σ H' hi ⟨f, v2, v3, rfl, s1, hDf, ndf, gf, lf⟩
      obtain ⟨g, hg, rfl⟩ := refs_get hi
      have hgm : g ∈ gs := List.mem_of_getElem? hg
      obtain ⟨hgD, ndg⟩ := hgs g hgm
      have hg1 := s1 _ _ hgD
      have ngD : g.1 ≠ D := ne_of_none hgD hD
      have hlm := len_more hg
      have hlt := len_take gs (i + 1)
      refine ⟨g.1, _, hg1, True.intro, fun od => ?_⟩
      refine ⟨_, rfl, g.1, od, rfl, .inl ⟨toK g.2, upd_same, ?_⟩⟩
      refine for_it walk_keys (fun j σ H'' => ∃ v3 : Option V, σ = [some (.ref a), some (.ref D), some (.ref g.1), v3] ∧ But D (upd H' g.1 (.frz od (.dK (toK g.2)))) H'' ∧ DAt H'' D (addAll f (g.2.take j)))
        ⟨v3, rfl, fun _ _ e _ => e, by unfold DAt; rw [upd_ne (Ne.symm ngD)]; exact hDf⟩ (fun j σ H'' _ ⟨_, _, b1, _⟩ => b1 _ _ upd_same ngD) ?_ ?_
      · rintro j y σ H1 H2 hj ⟨v, rfl, b1, hDj⟩ ⟨rfl, kk, vv, hkv, rfl⟩
        obtain ⟨q, hq, e⟩ := toK_get hkv
        obtain ⟨rfl, rfl⟩ := Prod.mk.inj e
        have hqm : q ∈ g.2 := List.mem_of_getElem? hq
        have hgf : H2 g.1 = some (.frz od (.dK (toK g.2))) := b1 _ _ upd_same ngD
        refine ⟨_, rfl, D, rfl, .inl ⟨_, .inl hDj⟩, _, rfl, _, dget_no (.inl hDj), ?_⟩
        refine ⟨_, rfl, _, rfl, g.1, .int q.2, rfl, dget_of (.inr ⟨od, hgf⟩) (look_of_mem ndg hqm), ?_⟩
        have eget : ((look (addAll f (g.2.take j)) q.1).map V.int).getD (V.int 0) = V.int (gt (addAll f (g.2.take j)) q.1) := by
          unfold gt
          cases look (addAll f (g.2.take j)) q.1 <;> rfl
        have hl2 := length_addAll (g.2.take j) f
        have hl3 : (g.2.take j).length ≤ g.2.length := by rw [List.length_take]; omega
        refine ⟨_, _, eget, rfl, _, rfl, _, rfl, D, _, rfl, DPut.k (k := Sum.inr q.1) hDj (n63 (by rw [toK_length]; omega)), ?_⟩
        refine ⟨_, rfl, fun c o e n => ?_, ?_⟩
        · rw [upd_ne n]
          exact b1 c o e n
        · unfold DAt
          rw [upd_same, ← toK_put, addAll_more hq]
          rfl
      · rintro σ H1 ⟨v, rfl, b1, hDj⟩
        rw [toK_length, List.take_length] at hDj
        refine ⟨b1 _ _ upd_same ngD, ?_⟩
        have hl2 := length_addAll g.2 f
        refine ⟨addAll f g.2, _, _, rfl, fun c o e => ?_, by unfold DAt; rw [upd_ne (Ne.symm ngD)]; exact hDj, nodup_addAll ndf, fun k => by rw [gt_addAll ndg, gf, tot_more k hg], by omega⟩
        have ncD : c ≠ D := ne_of_none e hD
        by_cases ncg : c = g.1
        · rw [ncg, upd_same]
          rw [ncg] at e
          exact hgD.symm.trans e
        · rw [upd_ne ncg]
          exact b1 c o (by rw [upd_ne ncg]; exact s1 c o e) ncD
    · rintro σ H1 ⟨f, v2, v3, rfl, s1, hDf, ndf, gf, lf⟩
      rw [List.length_map, List.take_length] at gf lf
      refine ⟨_, rfl, D, toK f, keys f, rfl, .inl hDf, toK_keys f, by unfold keys; rw [List.length_map]; omega, fun ys p hperm hsort hp => ?_⟩
      obtain ⟨hup, hmem, hyl⟩ := perm_keys hperm ndf hsort
      have sp1 : Same H1 (upd H1 p (.lst (ys.map V.str))) := Same.upd hp
      refine ⟨p, rfl, ⟨_, SqL.of upd_same⟩, fun E1 hE1 => ?_⟩
      refine lc_it (walk_list (K := K) (a := p) (xs := ys.map V.str)) (fun i H' => ∃ ts : List Addr, H' E1 = some (.lst (ts.map V.ref)) ∧ Paired (fun (t : Addr) (kv : Key × V) => SqT K H' t [kV kv.1, kv.2]) ts (toK (norm (ys.take i) f)) ∧ Same (upd H1 p (.lst (ys.map V.str))) H')
        ⟨[], upd_same, .nil, Same.upd hE1⟩ (fun i H' _ ⟨_, _, _, s2⟩ => SqL.of (s2 _ _ upd_same)) ?_ ?_
      · rintro i x H' H'' hi ⟨ts, hts, hpr, s2⟩ ⟨rfl, hx⟩
        obtain ⟨z, hz, rfl⟩ := strs_get hx
        have hzk : z ∈ keys f := (hmem z).mp (List.mem_of_getElem? hz)
        obtain ⟨q, hq, rfl⟩ := List.mem_map.mp hzk
        have hdg : DGet H'' D (.str q.1) (some (.int q.2)) := dget_of (.inl (s2 _ _ (sp1 _ _ hDf))) (look_of_mem ndf hq)
        refine ⟨rfl, ?_⟩
        refine ⟨_, rfl, _, rfl, D, _, rfl, hdg, rfl, _, rfl, ?_⟩
        by_cases hz0 : V.int q.2 = V.int 0
        · have hz0' : gt f q.1 = 0 := by rw [gt_of_mem ndf hq]; exact V.int.inj hz0
          rw [decide_eq_true hz0]
          refine ⟨ts, hts, ?_, s2⟩
          rw [take_more hz, norm_snoc, if_pos hz0']
          exact hpr
        · have hz0' : ¬ gt f q.1 = 0 := fun e => hz0 (by rw [gt_of_mem ndf hq] at e; rw [e])
          rw [decide_eq_false hz0]
          refine ⟨_, rfl, _, rfl, _, rfl, D, _, rfl, hdg, (n63' (by show 2 ≤ 1000; decide)), fun t ht => ?_⟩
          have s3 : Same H'' (upd H'' t (.tup [.str q.1, .int q.2])) := Same.upd ht
          have hts3 := s3 _ _ hts
          have hlts : ts.length = (toK (norm (ys.take i) f)).length := Paired.length hpr
          have hln : ts.length ≤ i := by
            rw [hlts, toK_length]
            have := length_norm (ys.take i) f
            rw [List.length_take] at this
            omega
          have hil : i < ys.length := by rw [List.length_map] at hi; exact hi
          refine ⟨_, hts3, n63 (by rw [List.length_map]; omega), ts ++ [t], by rw [upd_same, List.map_append]; rfl, ?_, fun c o e => ?_⟩
          · rw [take_more hz, norm_snoc, if_neg hz0']
            have e1 : toK (norm (ys.take i) f ++ [(q.1, gt f q.1)]) = toK (norm (ys.take i) f) ++ [(Sum.inr q.1, V.int q.2)] := by
              unfold toK
              rw [List.map_append, gt_of_mem ndf hq]
              rfl
            rw [e1]
            have ntE : E1 ≠ t := ne_of_none hts ht
            have up : ∀ (b : Addr) (xs : List V), SqT K H'' b xs → SqT K (upd (upd H'' t (.tup [.str q.1, .int q.2])) E1 (.lst (ts.map V.ref ++ [.ref t]))) b xs := fun b xs h => by
              rcases h with (h | ⟨o, h⟩) | h
              · exact .inl (.inl (by rw [upd_ne (ne_of h hts (by intro z; cases z)), upd_ne (ne_of_none h ht)]; exact h))
              · exact .inl (.inr ⟨o, by rw [upd_ne (ne_of h hts (by intro z; cases z)), upd_ne (ne_of_none h ht)]; exact h⟩)
              · exact .inr h
            exact Paired.snoc (Paired.mapP hpr fun b kv h => up b _ h) (SqT.of (by rw [upd_ne (Ne.symm ntE), upd_same]; rfl))
          · rw [upd_ne (ne_of_none e hE1)]
            exact s3 c o (s2 c o e)
      · rintro H' ⟨ts, hts, hpr, s2⟩
        rw [List.length_map, List.take_length] at hpr
        have cn : Canon (norm ys f) := canon_norm hup
        refine ⟨E1, ts, _, rfl, SqL.of hts, hpr, fun r hr => ?_⟩
        rw [merge_nil cn.nd]
        have sA : Same H H' := (s1.trans sp1).trans s2
        exact k _ r _ (sA.trans (Same.upd hr)) (sA.free hr) upd_same cn (fun c => by rw [gt_norm hup (fun j hj => (hmem j).mpr hj), gf]) (Nat.le_trans (length_norm _ _) (by omega))
end
end KT

namespace KT
open PySem PySem.Spec PyProof.Rows L2

/-- the same data, at most n storeys -/
def Ak (H : Hp) : Nat → V → V → Prop
  | 0, _, _ => False
  | n + 1, x, y => (∃ b, x = .bl b ∧ y = .bl b) ∨ (∃ s, x = .str s ∧ y = .str s) ∨ (∃ i, x = .int i ∧ y = .int i) ∨
      (∃ p q xs ys, x = .ref p ∧ y = .ref q ∧ H p = some (.tup xs) ∧ H q = some (.tup ys) ∧ xs.length ≤ 500 ∧ xs.length = ys.length ∧ ∀ (i : Nat) a b, xs[i]? = some a → ys[i]? = some b → Ak H n a b) ∨
      (∃ p q xs ys, x = .ref p ∧ y = .ref q ∧ H p = some (.lst xs) ∧ H q = some (.lst ys) ∧ xs.length ≤ 500 ∧ xs.length = ys.length ∧ ∀ (i : Nat) a b, xs[i]? = some a → ys[i]? = some b → Ak H n a b)
theorem Ak.same {H H' : Hp} (s : Same H H') : ∀ {n : Nat} {x y : V}, Ak H n x y → Ak H' n x y
  | 0, _, _, h => h
  | n + 1, _, _, .inl h => .inl h
  | n + 1, _, _, .inr (.inl h) => .inr (.inl h)
  | n + 1, _, _, .inr (.inr (.inl h)) => .inr (.inr (.inl h))
  | n + 1, _, _, .inr (.inr (.inr (.inl ⟨p, q, xs, ys, a, b, c, d, e, f, g⟩))) => .inr (.inr (.inr (.inl ⟨p, q, xs, ys, a, b, s _ _ c, s _ _ d, e, f, fun i u v h1 h2 => Ak.same s (g i u v h1 h2)⟩)))
  | n + 1, _, _, .inr (.inr (.inr (.inr ⟨p, q, xs, ys, a, b, c, d, e, f, g⟩))) => .inr (.inr (.inr (.inr ⟨p, q, xs, ys, a, b, s _ _ c, s _ _ d, e, f, fun i u v h1 h2 => Ak.same s (g i u v h1 h2)⟩)))
def spIsInt : Sp := fun vs H Q _ => ∃ i : Int, vs = [.int i] ∧ Q (.bl true) H
def spSame (n : Nat) : Sp := fun vs H Q _ => ∃ x y, vs = [x, y] ∧ Ak H n x y ∧ ∀ H', Same H H' → Q (.bl true) H'
def spAlike : Sp := fun vs H Q _ => ∃ (p q : Addr) (L : AL), vs = [.ref p, .ref q] ∧ DAt H p L ∧ DAt H q L ∧ L.length ≤ 100 ∧ ∀ H', Same H H' → Q (.bl true) H'
section
variable {P : Program} {w : World} {K : PySem.W.Frag} {mg : Str → Option Value} {base : Heap}
theorem scIsInt : FnScope ["_law_actual"] ["_law_actual"] (defScope sIsInt) := ⟨rfl, rfl, rfl, by decide +kernel, rfl, by decide +kernel, by decide +kernel⟩
theorem ok_isInt {f : Addr} {fd : FuncData} (F : Fun K "_law_is_integer" "_law_is_integer" sIsInt f fd) (M : Mg mg) : FnOk P w K mg base CX0 1 f fd ["_law_actual"] spIsInt := by
  refine F.ok scIsInt (fun vs H Q E h => ?_) (fun cdv A outer s H vs Q E hr h => ?_)
  · obtain ⟨i, rfl, _⟩ := h
    rfl
  · obtain ⟨i, rfl, k⟩ := h
    refine ⟨_, pss_one (ps_ret (pe_and (pe_callB call_isi (by rfl) M.isi (by decide +kernel) (pa_cons (pv 0) (pa_cons (pe_bltn (v := .ty "int") (by rfl) M.int (by decide +kernel) rfl) pa_nil)))
      (pe_one (pe_not (pe_callB call_isi (by rfl) M.isi (by decide +kernel) (pa_cons (pv 0) (pa_cons (pe_bltn (v := .ty "bool") (by rfl) M.bool (by decide +kernel) rfl) pa_nil))))))), ?_⟩
    refine ⟨_, rfl, _, _, _, _, true, rfl, .ty _, .base (.int i), kit_ty (by decide +kernel), true, rfl, ?_⟩
    refine ⟨_, rfl, _, _, _, _, false, rfl, .ty _, .base (.int i), kit_ty (by decide +kernel), false, rfl, k⟩
abbrev nSame : List Str := ["_law_actual", "_law_due_here", "_law_k"]
theorem scSame : FnScope nSame ["_law_actual", "_law_due_here"] (defScope sSame) := ⟨rfl, rfl, rfl, by decide +kernel, rfl, by decide +kernel, by decide +kernel⟩
theorem ok_same {f : Addr} {fd : FuncData} (F : Fun K "_law_same" "_law_same" sSame f fd) (bF : Binds K fd ["_law_actual", "_law_due_here"] []) (gF : mg "_law_same" = some (.ref f)) (M : Mg mg) (GI : Cl P w K mg base CX0 1 "_law_is_integer" ["_law_actual"] spIsInt) :
    ∀ n, FnOk P w K mg base CX0 (n + 1) f fd ["_law_actual", "_law_due_here"] (spSame n)
  | 0 => fn_false0 fun vs H Q E ⟨_, _, _, h, _⟩ => h
  | n + 1 => by
    have G : Cl P w K mg base CX0 (n + 1) "_law_same" ["_law_actual", "_law_due_here"] (spSame n) := ⟨f, fd, gF, F.kp, ok_same F bF gF M GI n, bF⟩
    refine F.ok scSame (fun vs H Q E h => ?_) (fun cdv A outer s H vs Q E hr h => ?_)
    · obtain ⟨x, y, rfl, _⟩ := h
      rfl
    · obtain ⟨x, y, rfl, hA, k⟩ := h
      refine ⟨_, pss_cons (ps_if (pt_val (pe_callB call_isi (by rfl) M.isi (by decide +kernel) (pa_cons (pv 1) (pa_cons (pe_bltn (v := .ty "tuple") (by rfl) M.tuple (by decide +kernel) rfl) pa_nil))))
          (pss_cons (ps_if (PW.pt (pw_or (pt_not (pt_val (pe_callB call_isi (by rfl) M.isi (by decide +kernel) (pa_cons (pv 0) (pa_cons (pe_bltn (v := .ty "tuple") (by rfl) M.tuple (by decide +kernel) rfl) pa_nil)))))
              (pw_or1 (pt_cmpR op_ne (pe_callB call_len_seq (by rfl) M.len PySem.boot_len (pa_cons (pv 0) pa_nil)) (pe_callB call_len_seq (by rfl) M.len PySem.boot_len (pa_cons (pv 1) pa_nil)) (nomark _))))) (pss_one (ps_ret pe_bl)) pss_nil)
          (pss_one (ps_ret (pe_callB (cr_all rfl) (by rfl) M.all (by decide +kernel) (pa_cons (pe_lc (own := [("_law_k", 2)]) (g := gName 2) (tt := tYes) rfl scSame.nd (pi_range1 (by rfl) M.range (pa_cons (pe_callB call_len_seq (by rfl) M.len PySem.boot_len (pa_cons (pv 1) pa_nil)) pa_nil))
            (blkOk_by (own := [("_law_k", 2)]) (N := nSame) (sc := defScope sSame) (by decide +kernel)) (fun _ _ _ _ _ => pg_name (i := 2) scSame.nd rfl (Or.inl rfl)) (fun _ _ _ _ _ => pts_nil)
            (fun _ _ _ _ _ => pe_cl G hr pass0 (pa_cons (pe_ix (r := rIxT K) ix_tup (pv 0) (pv 2) (fun _ _ => rfl)) (pa_cons (pe_ix (r := rIxT K) ix_tup (pv 1) (pv 2) (fun _ _ => rfl)) pa_nil)))) pa_nil))))) pss_nil)
        (pss_cons (ps_if (pt_val (pe_callB call_isi (by rfl) M.isi (by decide +kernel) (pa_cons (pv 1) (pa_cons (pe_bltn (v := .ty "list") (by rfl) M.list (by decide +kernel) rfl) pa_nil))))
          (pss_cons (ps_if (PW.pt (pw_or (pt_not (pt_val (pe_callB call_isi (by rfl) M.isi (by decide +kernel) (pa_cons (pv 0) (pa_cons (pe_bltn (v := .ty "list") (by rfl) M.list (by decide +kernel) rfl) pa_nil)))))
              (pw_or1 (pt_cmpR op_ne (pe_callB call_len_seq (by rfl) M.len PySem.boot_len (pa_cons (pv 0) pa_nil)) (pe_callB call_len_seq (by rfl) M.len PySem.boot_len (pa_cons (pv 1) pa_nil)) (nomark _))))) (pss_one (ps_ret pe_bl)) pss_nil)
          (pss_one (ps_ret (pe_callB (cr_all rfl) (by rfl) M.all (by decide +kernel) (pa_cons (pe_lc (own := [("_law_k", 2)]) (g := gName 2) (tt := tYes) rfl scSame.nd (pi_range1 (by rfl) M.range (pa_cons (pe_callB call_len_seq (by rfl) M.len PySem.boot_len (pa_cons (pv 1) pa_nil)) pa_nil))
            (blkOk_by (own := [("_law_k", 2)]) (N := nSame) (sc := defScope sSame) (by decide +kernel)) (fun _ _ _ _ _ => pg_name (i := 2) scSame.nd rfl (Or.inl rfl)) (fun _ _ _ _ _ => pts_nil)
            (fun _ _ _ _ _ => pe_cl G hr pass0 (pa_cons (pe_ix (r := rIxL K) ix_list (pv 0) (pv 2) (fun _ _ => rfl)) (pa_cons (pe_ix (r := rIxL K) ix_list (pv 1) (pv 2) (fun _ _ => rfl)) pa_nil)))) pa_nil))))) pss_nil)
        (pss_cons (ps_if (pt_cmp (pc_isN (pv 1))) (pss_one (ps_ret (pe_cmp (pc_isN (pv 0))))) pss_nil)
        (pss_cons (ps_if (pt_val (pe_callB call_isi (by rfl) M.isi (by decide +kernel) (pa_cons (pv 1) (pa_cons (pe_bltn (v := .ty "bool") (by rfl) M.bool (by decide +kernel) rfl) pa_nil))))
          (pss_one (ps_ret (pe_and (pe_callB call_isi (by rfl) M.isi (by decide +kernel) (pa_cons (pv 0) (pa_cons (pe_bltn (v := .ty "bool") (by rfl) M.bool (by decide +kernel) rfl) pa_nil))) (pe_one (pe_cmpR op_eq (pv 0) (pv 1) (nomark _)))))) pss_nil)
        (pss_cons (ps_if (pt_val (pe_callB call_isi (by rfl) M.isi (by decide +kernel) (pa_cons (pv 1) (pa_cons (pe_bltn (v := .ty "str") (by rfl) M.str (by decide +kernel) rfl) pa_nil))))
          (pss_one (ps_ret (pe_and (pe_callB call_isi (by rfl) M.isi (by decide +kernel) (pa_cons (pv 0) (pa_cons (pe_bltn (v := .ty "str") (by rfl) M.str (by decide +kernel) rfl) pa_nil))) (pe_one (pe_cmpR op_eq (pv 0) (pv 1) (nomark _)))))) pss_nil)
        (pss_one (ps_ret (pe_and (pe_cl GI (hr.mono (by omega)) pass0 (pa_cons (pv 0) pa_nil)) (pe_one (pe_cmpR op_eq (pv 0) (pv 1) (nomark _)))))))))), ?_⟩
      rcases hA with ⟨b, rfl, rfl⟩ | ⟨z, rfl, rfl⟩ | ⟨i, rfl, rfl⟩ | ⟨p, q, xs, ys, rfl, rfl, hp, hq, hl, hle, hall⟩ | ⟨p, q, xs, ys, rfl, rfl, hp, hq, hl, hle, hall⟩
      · refine ⟨_, rfl, _, _, _, _, false, rfl, .ty _, .base (.bl b), kit_ty (by decide +kernel), false, rfl, ?_⟩
        refine ⟨_, rfl, _, _, _, _, false, rfl, .ty _, .base (.bl b), kit_ty (by decide +kernel), false, rfl, ?_⟩
        refine ⟨_, rfl, false, rfl, ?_⟩
        refine ⟨_, rfl, _, _, _, _, true, rfl, .ty _, .base (.bl b), kit_ty (by decide +kernel), true, rfl, ?_⟩
        refine ⟨_, rfl, _, _, _, _, true, rfl, .ty _, .base (.bl b), kit_ty (by decide +kernel), true, rfl, ?_⟩
        refine ⟨_, rfl, _, rfl, rfl, ?_⟩
        rw [decide_eq_true rfl]
        exact k H (Same.refl H)
      · refine ⟨_, rfl, _, _, _, _, false, rfl, .ty _, .base (.str z), kit_ty (by decide +kernel), false, rfl, ?_⟩
        refine ⟨_, rfl, _, _, _, _, false, rfl, .ty _, .base (.str z), kit_ty (by decide +kernel), false, rfl, ?_⟩
        refine ⟨_, rfl, false, rfl, ?_⟩
        refine ⟨_, rfl, _, _, _, _, false, rfl, .ty _, .base (.str z), kit_ty (by decide +kernel), false, rfl, ?_⟩
        refine ⟨_, rfl, _, _, _, _, true, rfl, .ty _, .base (.str z), kit_ty (by decide +kernel), true, rfl, ?_⟩
        refine ⟨_, rfl, _, _, _, _, true, rfl, .ty _, .base (.str z), kit_ty (by decide +kernel), true, rfl, ?_⟩
        refine ⟨_, rfl, _, rfl, rfl, ?_⟩
        rw [decide_eq_true rfl]
        exact k H (Same.refl H)
      · refine ⟨_, rfl, _, _, _, _, false, rfl, .ty _, .base (.int i), kit_ty (by decide +kernel), false, rfl, ?_⟩
        refine ⟨_, rfl, _, _, _, _, false, rfl, .ty _, .base (.int i), kit_ty (by decide +kernel), false, rfl, ?_⟩
        refine ⟨_, rfl, false, rfl, ?_⟩
        refine ⟨_, rfl, _, _, _, _, false, rfl, .ty _, .base (.int i), kit_ty (by decide +kernel), false, rfl, ?_⟩
        refine ⟨_, rfl, _, _, _, _, false, rfl, .ty _, .base (.int i), kit_ty (by decide +kernel), false, rfl, ?_⟩
        refine ⟨_, rfl, i, rfl, true, rfl, ?_⟩
        refine ⟨_, rfl, _, rfl, rfl, ?_⟩
        rw [decide_eq_true rfl]
        exact k H (Same.refl H)
      · refine ⟨_, rfl, _, _, _, _, true, rfl, .ty _, .base (.tup hq), kit_ty (by decide +kernel), true, rfl, ?_⟩
        refine ⟨_, rfl, _, _, _, _, true, rfl, .ty _, .base (.tup hp), kit_ty (by decide +kernel), true, rfl, ?_⟩
        refine ⟨_, rfl, p, xs, rfl, .inr (SqT.of hp), _, rfl, q, ys, rfl, .inr (SqT.of hq), rfl, _, rfl, ?_⟩
        rw [hle, decide_eq_true rfl]
        refine ⟨_, rfl, q, ys, rfl, .inr (SqT.of hq), _, rfl, by omega, by omega, fun D hD => ?_⟩
        refine lc_range (lo := 0) (n := ((ys.length : Int)).toNat) (fun i H' => H' D = some (.lst ((List.replicate i true).map V.bl)) ∧ Same H H') ⟨upd_same, Same.upd hD⟩ ?_ ?_
        · rintro i H' hi ⟨hDl, s1⟩
          have hiy : i < ys.length := by omega
          have hix : i < xs.length := by omega
          refine ⟨rfl, ?_⟩
          refine ⟨_, rfl, _, rfl, p, xs, _, xs[i], rfl, rfl, SqT.of (s1 _ _ hp), at_of (by omega) (List.getElem?_eq_getElem hix), ?_⟩
          refine ⟨_, rfl, _, rfl, q, ys, _, ys[i], rfl, rfl, SqT.of (s1 _ _ hq), at_of (by omega) (List.getElem?_eq_getElem hiy), ?_⟩
          refine ⟨_, _, rfl, Ak.same s1 (hall i _ _ (List.getElem?_eq_getElem hix) (List.getElem?_eq_getElem hiy)), fun H2 s2 => ?_⟩
          refine ⟨_, s2 _ _ hDl, n63 (by rw [List.length_map, List.length_replicate]; omega), ?_, fun c o e => ?_⟩
          · rw [upd_same, List.replicate_succ', List.map_append]
            rfl
          · rw [upd_ne (ne_of_none e hD)]
            exact s2 c o (s1 c o e)
        · rintro H' ⟨hDl, s1⟩
          refine ⟨D, _, rfl, SqL.of hDl, ?_⟩
          rw [show ((List.replicate ((ys.length : Int)).toNat true).all id) = true by simp]
          exact k H' s1
      · refine ⟨_, rfl, _, _, _, _, false, rfl, .ty _, .base (.lst hq), kit_ty (by decide +kernel), false, rfl, ?_⟩
        refine ⟨_, rfl, _, _, _, _, true, rfl, .ty _, .base (.lst hq), kit_ty (by decide +kernel), true, rfl, ?_⟩
        refine ⟨_, rfl, _, _, _, _, true, rfl, .ty _, .base (.lst hp), kit_ty (by decide +kernel), true, rfl, ?_⟩
        refine ⟨_, rfl, p, xs, rfl, .inl (SqL.of hp), _, rfl, q, ys, rfl, .inl (SqL.of hq), rfl, _, rfl, ?_⟩
        rw [hle, decide_eq_true rfl]
        refine ⟨_, rfl, q, ys, rfl, .inl (SqL.of hq), _, rfl, by omega, by omega, fun D hD => ?_⟩
        refine lc_range (lo := 0) (n := ((ys.length : Int)).toNat) (fun i H' => H' D = some (.lst ((List.replicate i true).map V.bl)) ∧ Same H H') ⟨upd_same, Same.upd hD⟩ ?_ ?_
        · rintro i H' hi ⟨hDl, s1⟩
          have hiy : i < ys.length := by omega
          have hix : i < xs.length := by omega
          refine ⟨rfl, ?_⟩
          refine ⟨_, rfl, _, rfl, p, xs, _, xs[i], rfl, rfl, SqL.of (s1 _ _ hp), at_of (by omega) (List.getElem?_eq_getElem hix), ?_⟩
          refine ⟨_, rfl, _, rfl, q, ys, _, ys[i], rfl, rfl, SqL.of (s1 _ _ hq), at_of (by omega) (List.getElem?_eq_getElem hiy), ?_⟩
          refine ⟨_, _, rfl, Ak.same s1 (hall i _ _ (List.getElem?_eq_getElem hix) (List.getElem?_eq_getElem hiy)), fun H2 s2 => ?_⟩
          refine ⟨_, s2 _ _ hDl, n63 (by rw [List.length_map, List.length_replicate]; omega), ?_, fun c o e => ?_⟩
          · rw [upd_same, List.replicate_succ', List.map_append]
            rfl
          · rw [upd_ne (ne_of_none e hD)]
            exact s2 c o (s1 c o e)
        · rintro H' ⟨hDl, s1⟩
          refine ⟨D, _, rfl, SqL.of hDl, ?_⟩
          rw [show ((List.replicate ((ys.length : Int)).toNat true).all id) = true by simp]
          exact k H' s1
theorem scAlike : FnScope ["_law_actual", "_law_due_here"] ["_law_actual", "_law_due_here"] (defScope sAlike) := ⟨rfl, rfl, rfl, by decide +kernel, rfl, by decide +kernel, by decide +kernel⟩
theorem ok_alike {f : Addr} {fd : FuncData} (F : Fun K "_law_alike" "_law_alike" sAlike f fd) (M : Mg mg) (G : Cl P w K mg base CX0 4 "_law_same" ["_law_actual", "_law_due_here"] (spSame 3)) : FnOk P w K mg base CX0 5 f fd ["_law_actual", "_law_due_here"] spAlike := by
  refine F.ok scAlike (fun vs H Q E h => ?_) (fun cdv A outer s H vs Q E hr h => ?_)
  · obtain ⟨p, q, L, rfl, _⟩ := h
    rfl
  · obtain ⟨p, q, L, rfl, hp, hq, hL, k⟩ := h
    refine ⟨_, pss_cons (ps_if (pt_not (pt_val (pe_callB call_isi (by rfl) M.isi (by decide +kernel) (pa_cons (pv 0) (pa_cons (pe_bltn (v := .ty "dict") (by rfl) M.dict (by decide +kernel) rfl) pa_nil))))) (pss_one (ps_ret pe_bl)) pss_nil)
      (pss_one (ps_ret (pe_cl G hr pass0 (pa_cons (LiI.pe_listItems rfl (pv 0) (by rfl) M.list (by decide +kernel)) (pa_cons (LiI.pe_listItems rfl (pv 1) (by rfl) M.list (by decide +kernel)) pa_nil))))), ?_⟩
    refine ⟨_, rfl, _, _, _, _, true, rfl, .ty _, .base (.dK hp), kit_ty (by decide +kernel), true, rfl, ?_⟩
    refine ⟨_, rfl, p, toK L, rfl, hp, fun H1 a ts s1 ha hts hnin hal hpr => ?_⟩
    refine ⟨_, rfl, q, toK L, rfl, s1 _ _ hq, fun H2 b us s2 hb hus hnin2 hbl hpr2 => ?_⟩
    have l1 : ts.length = L.length := by rw [Paired.length hpr, toK_length]
    have l2 : us.length = L.length := by rw [Paired.length hpr2, toK_length]
    refine ⟨_, _, rfl, .inr (.inr (.inr (.inr ⟨a, b, _, _, rfl, rfl, s2 _ _ hal, hbl, by rw [List.length_map]; omega, by rw [List.length_map, List.length_map]; omega, fun i x y hx hy => ?_⟩))), fun H3 s3 => k H3 ((Same.trans s1 s2).trans s3)⟩
    obtain ⟨t, ht, rfl⟩ : ∃ t, ts[i]? = some t ∧ x = V.ref t := by
      rw [List.getElem?_map] at hx
      cases e : ts[i]? with
      | none => rw [e] at hx; cases hx
      | some t => rw [e] at hx; exact ⟨t, rfl, (Option.some.inj hx).symm⟩
    obtain ⟨u, hu, rfl⟩ : ∃ u, us[i]? = some u ∧ y = V.ref u := by
      rw [List.getElem?_map] at hy
      cases e : us[i]? with
      | none => rw [e] at hy; cases hy
      | some t => rw [e] at hy; exact ⟨t, rfl, (Option.some.inj hy).symm⟩
    obtain ⟨kv, hkv, h1⟩ := LiI.paired_get hpr ht
    obtain ⟨kv2, hkv2, h2⟩ := LiI.paired_get hpr2 hu
    rw [hkv] at hkv2
    obtain rfl := Option.some.inj hkv2
    obtain ⟨qq, hqq, rfl⟩ := toK_get hkv
    refine .inr (.inr (.inr (.inl ⟨t, u, _, _, rfl, rfl, s2 _ _ h1, h2, by show 2 ≤ 500; decide, rfl, fun j x y hx hy => ?_⟩)))
    match j, hx, hy with
    | 0, hx, hy =>
      obtain rfl := Option.some.inj hx
      obtain rfl := Option.some.inj hy
      exact .inr (.inl ⟨qq.1, rfl, rfl⟩)
    | 1, hx, hy =>
      obtain rfl := Option.some.inj hx
      obtain rfl := Option.some.inj hy
      exact .inr (.inr (.inl ⟨qq.2, rfl, rfl⟩))
    | j + 2, hx, hy => simp at hx
end
end KT

namespace KT
open PySem PySem.Spec PyProof.Rows L2

def spDue : Sp := fun vs H Q _ => ∃ (d c : Addr) (rs : List Sh) (n : Str) (f : AL), vs = [.ref d, .str n, .ref c] ∧ ShAt H d rs ∧ rs.length ≤ 50 ∧ DAt H c f ∧ n.length ≤ 1000 ∧
  (¬ goodName n → ∀ H' t, Same H H' → H' t = some (.tup [.str "sheet", .bl true]) → Q (.ref t) H') ∧ (goodName n → aS ∈ keys f → ∀ H' t, Same H H' → H' t = some (.tup [.str "counts", .str aS]) → Q (.ref t) H') ∧
  (goodName n → aS ∉ keys f → n ∈ names rs → Q (.bl false) H) ∧ (goodName n → aS ∉ keys f → n ∉ names rs → ∀ H' a, H a = none → But d H H' → ShAt H' d (rs ++ [(n, a, f)]) → Q (.bl true) H')
def spTold (C : Addr) : Sp := fun vs H Q _ => ∃ (x d c : Addr) (rs : List Sh) (n : Str) (f : AL), vs = [.ref x, .str n, .ref c] ∧ TalAt C H x d rs ∧ rs.length ≤ 50 ∧ DAt H c f ∧ (keys f).Nodup ∧ f.length ≤ 60 ∧ (∀ p ∈ f, legal p ∨ p.1 = aS) ∧ n.length ≤ 1000 ∧
  (¬ goodName n → ∀ H' t, Same H H' → H' t = some (.tup [.str "sheet", .bl true]) → Q (.ref t) H') ∧ (goodName n → aS ∈ keys f → ∀ H' t, Same H H' → H' t = some (.tup [.str "counts", .str aS]) → Q (.ref t) H') ∧
  (goodName n → aS ∉ keys f → n ∈ names rs → ∀ H', Same H H' → Q (.bl false) H') ∧ (goodName n → aS ∉ keys f → n ∉ names rs → ∀ H' a, H a = none → But d H H' → TalAt C H' x d (rs ++ [(n, a, f)]) → Q (.bl true) H')
/-- the errors' classes in an except clause -/
structure TdT (K : PySem.W.Frag) (mg : Str → Option Value) (CS CB CQ : Addr) : Prop where
  gS : mg "BadSheet" = some (.ref CS)
  gB : mg "BadCounts" = some (.ref CB)
  gQ : GV mg "QuayError" (.ref CQ)
  xSS : PySem.W.exmOne K (.ref CS) (.ref CS) = some true
  xBS : PySem.W.exmOne K (.ref CB) (.ref CS) = some false
  xBB : PySem.W.exmOne K (.ref CB) (.ref CB) = some true
  ec : ExcC K CS
  xf : XfC K CB
  no : PySem.W.findIn K (.ref CB) "code" = some none
  kq : PySem.W.kitOne K (.ref CS) (.ref CQ) = some true
theorem call_isEg {X : Cx} {a D : Addr} {cls : Value} {d : Option Addr} {oe : Obj} {pn : List (Addr × Obj)} (C : ExcC X.K D) (hz : Zc cls d oe) (hf : ∃ vs, oe.data = .fields vs) :
    CallR (X.suite a ((a, oe) :: pn)) (.builtin "isinstance") (fun xs H Q => cls = .ref D ∧ d = none ∧ rIsE X.K D a xs H Q) := by
  intro pins s σ H xs us Q I r h
  obtain ⟨e1, e2, h⟩ := h
  subst e1 e2
  exact call_isE C hz hf pins s σ H xs us Q I r h
section
variable {P : Program} {w : World} {K : PySem.W.Frag} {mg : Str → Option Value} {base : Heap} {C : Addr}
theorem scDue : FnScope ["_law_sheets", "_law_name", "_law_counts_here"] ["_law_sheets", "_law_name", "_law_counts_here"] (defScope sDue) := ⟨rfl, rfl, rfl, by decide +kernel, rfl, by decide +kernel, by decide +kernel⟩
theorem ok_due {f : Addr} {fd : FuncData} (F : Fun K "_law_due" "_law_due" sDue f fd) (M : Mg mg) : FnOk P w K mg base CX0 1 f fd ["_law_sheets", "_law_name", "_law_counts_here"] spDue := by
  refine F.ok scDue (fun vs H Q E h => ?_) (fun cdv A outer s H vs Q E hr h => ?_)
  · obtain ⟨d, c, rs, n, f, rfl, _⟩ := h
    rfl
  · obtain ⟨d, c, rs, n, fc, rfl, S, hrs, hc, hnl, kS, kB, kF, kT⟩ := h
    have hu := hu_of hr
    refine ⟨_, pss_cons (ps_if (pt_not (pt_chain op_le op_le pe_int (pe_callB call_len_str (by rfl) M.len PySem.boot_len (pa_cons (pv 1) pa_nil)) pe_int)) (pss_one (ps_ret (pe_tup (pa_cons pe_str (pa_cons pe_bl pa_nil))))) pss_nil)
      (pss_cons (ps_if (pt_cmp (pc_din hu pe_str (pv 2))) (pss_one (ps_ret (pe_tup (pa_cons pe_str (pa_cons pe_str pa_nil))))) pss_nil)
      (pss_cons (ps_if (pt_cmp (pc_din hu (pv 1) (pv 0))) (pss_one (ps_ret pe_bl)) pss_nil)
      (pss_cons (ps_dput hu (pv 0) (pv 1) (pe_callTy call_dictD (by rfl) M.dict (by decide +kernel) (pa_cons (pv 2) pa_nil)) rfl)
      (pss_one (ps_ret pe_bl))))), ?_⟩
    refine ⟨_, rfl, n, rfl, n63' hnl, _, _, rfl, rfl, _, rfl, ?_⟩
    by_cases h1 : (1 : Int) ≤ (n.length : Int)
    · rw [decide_eq_true h1]
      refine ⟨_, _, rfl, rfl, _, rfl, ?_⟩
      by_cases h2 : (n.length : Int) ≤ 12
      · rw [decide_eq_true h2]
        have hg : goodName n := ⟨by omega, by omega⟩
        refine ⟨_, rfl, c, _, rfl, dget_no (.inl hc), _, rfl, ?_⟩
        rw [Option.isSome_map]
        by_cases ha : aS ∈ keys fc
        · rw [look_keys.mpr ha]
          refine ⟨n63' (by show 2 ≤ 1000; decide), fun t ht => kB hg ha _ t (Same.upd ht) upd_same⟩
        · rw [look_none ha]
          refine ⟨_, rfl, _, rfl, d, _, rfl, DGet.k (k := Sum.inr n) S.dc, _, rfl, ?_⟩
          by_cases hin : n ∈ names rs
          · obtain ⟨r, hr', e1, e2⟩ := names_some S.nd hin
            rw [e2]
            exact kF hg ha hin
          · rw [shK_no hin]
            refine ⟨_, rfl, c, toK fc, rfl, .inl hc, fun a hna => ?_⟩
            have nda : d ≠ a := ne_of_none S.dc hna
            have hd2 : (upd H a (.dK (toK fc))) d = some (.dK (shK rs)) := by rw [upd_ne nda]; exact S.dc
            refine ⟨_, rfl, _, rfl, d, _, rfl, DPut.k (k := Sum.inr n) hd2 (n63 (by rw [shK_length]; omega)), ?_⟩
            refine kT hg ha hin _ a hna (fun b o e ne => ?_) ?_
            · rw [upd_ne ne, upd_ne (ne_of_none e hna)]
              exact e
            · refine ShAt.put (H := upd H a (.dK (toK fc))) (S.same (Same.upd hna)) hin But.upd ?_ ?_ (Ne.symm nda)
              · rw [upd_same, shK_put (f := fc) hin]
              · unfold DAt
                rw [upd_ne (Ne.symm nda), upd_same]
      · rw [decide_eq_false h2]
        refine ⟨n63' (by show 2 ≤ 1000; decide), fun t ht => kS (fun h => h2 (by have := h.2; omega)) _ t (Same.upd ht) upd_same⟩
    · rw [decide_eq_false h1]
      refine ⟨_, rfl, n63' (by show 2 ≤ 1000; decide), fun t ht => kS (fun h => h1 (by have := h.1; omega)) _ t (Same.upd ht) upd_same⟩
abbrev nTold : List Str := ["_law_tally", "_law_name", "_law_counts_here", "e"]
theorem scTold : FnScope nTold ["_law_tally", "_law_name", "_law_counts_here"] (defScope sTold) := ⟨rfl, rfl, rfl, by decide +kernel, rfl, by decide +kernel, by decide +kernel⟩
def tsS (K : PySem.W.Frag) (CS CQ : Addr) : Addr → Value → Option Addr → TS := fun a cls d => tRet (tTup (tCons (tC (.str "sheet")) (tCons (tCB (fun xs H Q => cls = .ref CS ∧ d = none ∧ rIsE K CS a xs H Q) (tCons (tVar 3) (tCons (tC (.ref CQ)) tNil))) tNil)))
def tsB (CB : Addr) : Addr → Value → Option Addr → TS := fun a cls d => tRet (tTup (tCons (tC (.str "counts")) (tCons (tXf a cls d CB "code" (tVar 3)) tNil)))
theorem ok_told {f fA CB CS CQ : Addr} {fd fdA : FuncData} (F : Fun K "_law_told" "_law_told" sTold f fd) (M : Mg mg) (T : TlT K mg C) (D : TdT K mg CS CB CQ) (mA : Meth K C "add" fA) (GA : FnOk P w K mg base (L2.CX P w) 4 fA fdA ["self", "name", "counts"] (spTAdd C CB CS)) (bA : Binds K fdA ["self", "name", "counts"] []) :
    FnOk P w K mg base CX0 5 f fd ["_law_tally", "_law_name", "_law_counts_here"] (spTold C) := by
  refine F.ok scTold (fun vs H Q E h => ?_) (fun cdv A outer s H vs Q E hr h => ?_)
  · obtain ⟨x, d, c, rs, n, f, rfl, _⟩ := h
    rfl
  · obtain ⟨x, d, c, rs, n, fc, rfl, S, hrs, hc, ndc, hcl, hleg, hnl, kS, kB, kF, kT⟩ := h
    obtain ⟨dx, hx⟩ := S.ob
    refine ⟨_, pss_one (ps_try_mas (Wout := fun _ _ _ _ => False) (tb := fun W => tRet (tMethT C "add" (spTAdd C CB CS) (WE W) (tVar 0) (tCons (tVar 1) (tCons (tVar 2) tNil)))) (l := [(.ref CS, 3, tsS K CS CQ), (.ref CB, 3, tsB CB)]) rfl rfl scTold.nd takes0
      (fun W pn xe tk _ => pss_one (ps_ret (by exact (pe_methT (pv 0) T.cl mA GA hr bA (fun σ => passAt tk σ) (pa_cons (pv 1) (pa_cons (pv 2) pa_nil))))))
      (.cons rfl rfl ⟨rfl, by decide, Or.inl D.gS⟩ (fun a oe cls d pn hz hf => pss_one (ps_ret (pe_tup (pa_cons pe_str (pa_cons (by exact (pe_callB (call_isEg D.ec hz hf) (by rfl) M.isi (by decide +kernel) (pa_cons (pv 3) (pa_cons (pe_gl D.gQ) pa_nil)))) pa_nil)))))
      (.cons rfl rfl ⟨rfl, by decide, Or.inl D.gB⟩ (fun a oe cls d pn hz hf => pss_one (ps_ret (pe_tup (pa_cons pe_str (pa_cons (by exact (pe_xf D.xf D.no hz hf (pv 3))) pa_nil)))))
      .nil))), ?_⟩
    refine ⟨_, rfl, x, dx, _, rfl, hx, no_fld d (by decide +kernel), _, rfl, _, rfl, x, d, c, rs, n, fc, rfl, S, hrs, hc, ndc, hcl, hleg, hnl, ?_, ?_, ?_, ?_⟩
    · -- BadSheet
      intro hg
      refine ⟨true, D.xSS, fun _ a ha => ?_, fun q => Bool.noConfusion q⟩
      refine ⟨_, rfl, rfl, rfl, _, _, true, rfl, (fun u r => r), D.kq, n63' (by show 2 ≤ 1000; decide), fun t ht => ?_⟩
      exact kS hg _ t (Same.upd ht) upd_same
    · -- BadCounts
      intro hg hm H1 dd s1 hdd hxd
      refine ⟨false, D.xBS, fun q => Bool.noConfusion q, fun _ => ⟨true, D.xBB, fun _ a ha => ?_, fun q => Bool.noConfusion q⟩⟩
      refine ⟨_, rfl, rfl, rfl, dd, _, _, rfl, hxd, by simp [List.lookup]; rfl, n63' (by show 2 ≤ 1000; decide), fun t ht => ?_⟩
      exact kB hg hm _ t (Same.upd' s1 ht) upd_same
    · exact fun hg hno hin H1 s1 => kF hg hno hin H1 s1
    · exact fun hg hno hin H1 a ha b1 S1 => kT hg hno hin H1 a ha b1 S1
end
end KT

namespace KT
open PySem PySem.Spec PyProof.Rows L2

/-! ### for k in f(..): the dict is the iterator's own -/
def iKeysN (td : TE) : TI := fun σ H R => td σ H fun x H1 => ∃ d kvs, x = .ref d ∧ H1 d = some (.dK kvs) ∧ ∀ od, R (Itk d od kvs) (upd H1 d (.frz od (.dK kvs)))
theorem pi_keysN {X : Cx} {tg e : Expr} {td : TE} (he : PE X e td) : PI X tg e (iKeysN td) := by
  refine ⟨fun pins s σ H R I h => ?_⟩
  refine thn (he.run pins s σ H _ I h) fun u s1 ⟨x, H1, I1, rx, d, kvs, ex, hd, q⟩ => ?_
  subst ex
  obtain rfl : u = Value.ref d := rx
  obtain ⟨od, I2⟩ := I1.lock hd True.intro
  obtain ⟨hs, hgd, hx, es, ep, vs, hdt, hsz, kv, hm⟩ := I2.frzK upd_same
  refine iter_keys hs hgd hx hdt (pi_one (tk := s1.toks) I2 _ (turn_keys _ hdt) ⟨_, Heap.get?_push_size _ rfl, rfl, ?_⟩ (q od))
  rw [hsz] <;> rfl

/-! ### names -/
def nms : List Str := ["x", "y", "Sheet 7", "~", "abcdefghijkl", "", "abcdefghijklm"]
def nms5 : List Str := ["x", "y", "Sheet 7", "~", "abcdefghijkl"]
theorem nms_facts : ∀ n ∈ nms, (1 ≤ n.length ∧ n.length ≤ 12 → n ∈ nms5) ∧ n.length ≤ 1000 := by decide +kernel
theorem nms5_facts : ∀ n ∈ nms5, 1 ≤ n.length ∧ n.length ≤ 12 := by decide +kernel
theorem sub_length : ∀ {l m : List Str}, l.Nodup → (∀ x ∈ l, x ∈ m) → l.length ≤ m.length
  | [], _, _, _ => Nat.zero_le _
  | a :: l, m, nd, h => by
    obtain ⟨n1, n2⟩ := List.nodup_cons.mp nd
    have ha : a ∈ m := h a List.mem_cons_self
    have := sub_length (m := m.erase a) n2 fun x hx => (List.mem_erase_of_ne (fun e => n1 (by rw [← e]; exact hx))).mpr (h x (List.mem_cons_of_mem _ hx))
    rw [List.length_erase_of_mem ha] at this
    have : 0 < m.length := List.length_pos_of_mem ha
    rw [List.length_cons]
    omega
theorem perm_sum {l m : List Int} (h : l.Perm m) : l.sum = m.sum := by
  induction h with
  | nil => rfl
  | cons a _ ih => rw [List.sum_cons, List.sum_cons, ih]
  | swap a b l => rw [List.sum_cons, List.sum_cons, List.sum_cons, List.sum_cons]; omega
  | trans _ _ a b => exact a.trans b

/-! ### a sheet by its name -/
def shf (rs : List Sh) (n : Str) : Rw := ((rs.find? fun r => decide (r.1 = n)).map (·.2)).getD (0, [])
theorem shf_at : ∀ {rs : List Sh} {r : Sh}, (names rs).Nodup → r ∈ rs → shf rs r.1 = r.2
  | [], _, _, h => by cases h
  | q :: rs, r, nd, h => by
    obtain ⟨n1, n2⟩ := List.nodup_cons.mp (show (q.1 :: names rs).Nodup from nd)
    unfold shf
    rcases List.mem_cons.mp h with e | h
    · rw [e, List.find?_cons_of_pos (by simp)]
      rfl
    · have hne : ¬ q.1 = r.1 := fun e => n1 (by rw [e]; exact List.mem_map.mpr ⟨r, h, rfl⟩)
      rw [List.find?_cons_of_neg (by simpa using hne)]
      exact shf_at n2 h
theorem shf_some {rs : List Sh} {n : Str} (nd : (names rs).Nodup) (h : n ∈ names rs) : (n, shf rs n) ∈ rs := by
  obtain ⟨r, hr, e⟩ := List.mem_map.mp h
  have := shf_at nd hr
  rw [← e, this]
  exact hr
theorem tot_names {rs : List Sh} {ys : List Str} (nd : (names rs).Nodup) (h : ys.Perm (names rs)) (k : Str) : rowsTot (ys.map (shf rs)) k = shTot rs k := by
  unfold rowsTot shTot
  rw [List.map_map, perm_sum (h.map _)]
  unfold names
  rw [List.map_map]
  refine congrArg _ (List.map_congr_left fun r hr => ?_)
  show gt (shf rs r.1).2 k = _
  rw [shf_at nd hr]
theorem rows_few {gs : List Rw} (h : ∀ g ∈ gs, g.2.length ≤ 4) : rowsLen gs ≤ 4 * gs.length := by
  induction gs with
  | nil => exact Nat.le_refl _
  | cons g gs ih =>
    have h1 := h g List.mem_cons_self
    have h2 := ih fun q hq => h q (List.mem_cons_of_mem _ hq)
    unfold rowsLen at h2 ⊢
    rw [List.map_cons, List.sum_cons, List.length_cons]
    omega
theorem names_length (rs : List Sh) : (names rs).length = rs.length := by unfold names; rw [List.length_map]
theorem noA {f : AL} (c : CountsOk f) : aS ∉ keys f := fun m => by
  obtain ⟨q, hq, e⟩ := List.mem_map.mp m
  exact notCode (show IsCode aS from by rw [← e]; exact (c.ok q hq).1)

/-! ### the tally and the sheets -/
structure St5 (C p l x d sd : Addr) (H : Hp) (rT rL : List Sh) : Prop where
  pool : PoolAt H p l
  tal : TalAt C H x d rT
  sh : ShAt H sd rL
  ne : sd ≠ d
  nT : ∀ r ∈ rT, r.2.1 ≠ sd
  nL : ∀ r ∈ rL, r.2.1 ≠ d
  dat : (rL.map fun r => (r.1, r.2.2)) = rT.map fun r => (r.1, r.2.2)
  nm : ∀ n ∈ names rT, n ∈ nms5
  ok : ∀ r ∈ rT, CountsOk r.2.2 ∧ r.2.2.length ≤ 4
/-- c is none of theirs -/
structure Apart (p l x d sd : Addr) (rT rL : List Sh) (c : Addr) : Prop where
  np : p ≠ c
  nl : l ≠ c
  nx : x ≠ c
  nd : d ≠ c
  ns : sd ≠ c
  oT : ∀ r ∈ rT, r.2.1 ≠ c
  oL : ∀ r ∈ rL, r.2.1 ≠ c
theorem TalAt.but {C : Addr} {H H' : Hp} {c x d : Addr} {rs : List Sh} (h : TalAt C H x d rs) (s : But c H H') (nx : x ≠ c) (nd : d ≠ c) (ns : ∀ r ∈ rs, r.2.1 ≠ c) : TalAt C H' x d rs :=
  ⟨let ⟨dx, e⟩ := h.ob; ⟨dx, s _ _ e nx⟩, h.sh.but s nd ns⟩
section
variable {C p l x d sd c : Addr} {H H' : Hp} {rT rL : List Sh}
theorem St5.same (S : St5 C p l x d sd H rT rL) (s : Same H H') : St5 C p l x d sd H' rT rL := ⟨S.pool.same s, S.tal.same s, S.sh.same s, S.ne, S.nT, S.nL, S.dat, S.nm, S.ok⟩
theorem St5.butC (S : St5 C p l x d sd H rT rL) (s : But c H H') (a : Apart p l x d sd rT rL c) : St5 C p l x d sd H' rT rL :=
  ⟨S.pool.but s a.np a.nl, S.tal.but s a.nx a.nd a.oT, S.sh.but s a.ns a.oL, S.ne, S.nT, S.nL, S.dat, S.nm, S.ok⟩
theorem St5.xne (S : St5 C p l x d sd H rT rL) : p ≠ x ∧ p ≠ d ∧ p ≠ sd ∧ l ≠ x ∧ l ≠ d ∧ l ≠ sd ∧ x ≠ sd ∧ x ≠ d := by
  obtain ⟨_, cells, pos, rest, seed, hp, hl, _⟩ := id S.pool
  obtain ⟨dx, hx⟩ := S.tal.ob
  have hd := S.tal.sh.dc
  have hs := S.sh.dc
  exact ⟨ne_of hp hx (by intro z; cases z), ne_of hp hd (by intro z; cases z), ne_of hp hs (by intro z; cases z), ne_of hl hx (by intro z; cases z), ne_of hl hd (by intro z; cases z), ne_of hl hs (by intro z; cases z),
    ne_of hx hs (by intro z; cases z), ne_of hx hd (by intro z; cases z)⟩
/-- the pool is drawn from -/
theorem St5.butP (S : St5 C p l x d sd H rT rL) (s : But p H H') (S' : PoolAt H' p l) : St5 C p l x d sd H' rT rL := by
  obtain ⟨_, cells, pos, rest, seed, hp, hl, _⟩ := id S.pool
  obtain ⟨n1, n2, n3, n4, n5, n6, n7, n8⟩ := S.xne
  exact ⟨S', S.tal.but s n1.symm n2.symm fun r hr => (ne_of hp (S.tal.sh.at_ r hr) (by intro z; cases z)).symm, S.sh.but s n3.symm fun r hr => (ne_of hp (S.sh.at_ r hr) (by intro z; cases z)).symm, S.ne, S.nT, S.nL, S.dat, S.nm, S.ok⟩
theorem St5.apart (S : St5 C p l x d sd H rT rL) (h : H c = none) : Apart p l x d sd rT rL c := by
  obtain ⟨_, cells, pos, rest, seed, hp, hl, _⟩ := id S.pool
  obtain ⟨dx, hx⟩ := S.tal.ob
  exact ⟨ne_of_none hp h, ne_of_none hl h, ne_of_none hx h, ne_of_none S.tal.sh.dc h, ne_of_none S.sh.dc h, fun r hr => ne_of_none (S.tal.sh.at_ r hr) h, fun r hr => ne_of_none (S.sh.at_ r hr) h⟩
theorem St5.names (S : St5 C p l x d sd H rT rL) : names rL = names rT := by
  have := congrArg (List.map (·.1)) S.dat
  rw [List.map_map, List.map_map] at this
  exact this
theorem St5.len (S : St5 C p l x d sd H rT rL) : rL.length = rT.length := by
  have := congrArg List.length S.dat
  rw [List.length_map, List.length_map] at this
  exact this
theorem St5.tot (S : St5 C p l x d sd H rT rL) (k : Str) : shTot rL k = shTot rT k := by
  have := congrArg (fun l : List (Str × AL) => (l.map fun q => gt q.2 k).sum) S.dat
  simp only [List.map_map] at this
  exact this
theorem St5.few (S : St5 C p l x d sd H rT rL) : rT.length ≤ 5 := by
  have := sub_length S.tal.sh.nd S.nm
  rw [names_length] at this
  exact this
theorem St5.fit (S : St5 C p l x d sd H rT rL) : Fit rT := ⟨S.few, S.ok⟩
theorem St5.okL (S : St5 C p l x d sd H rT rL) : ∀ r ∈ rL, CountsOk r.2.2 ∧ r.2.2.length ≤ 4 := fun r hr => by
  have : (r.1, r.2.2) ∈ rT.map fun r => (r.1, r.2.2) := by rw [← S.dat]; exact List.mem_map.mpr ⟨r, hr, rfl⟩
  obtain ⟨q, hq, e⟩ := List.mem_map.mp this
  have := S.ok q hq
  rw [(Prod.mk.inj e).2] at this
  exact this
/-- a sheet taken in, on both sides -/
theorem St5.add {H1 H2 : Hp} {n : Str} {f : AL} {a1 a2 : Addr} (S : St5 C p l x d sd H rT rL) (hn : n ∈ nms5) (hf : CountsOk f) (hl : f.length ≤ 4) (f1 : H a1 = none) (b1 : But sd H H1) (S1 : ShAt H1 sd (rL ++ [(n, a1, f)]))
    (f2 : H1 a2 = none) (b2 : But d H1 H2) (T2 : TalAt C H2 x d (rT ++ [(n, a2, f)])) : St5 C p l x d sd H2 (rT ++ [(n, a2, f)]) (rL ++ [(n, a1, f)]) := by
  obtain ⟨n1, n2, n3, n4, n5, n6, n7, n8⟩ := S.xne
  have nL' : ∀ r ∈ rL ++ [(n, a1, f)], r.2.1 ≠ d := fun r hr => by
    rcases List.mem_append.mp hr with hr | hr
    · exact S.nL r hr
    · rw [List.mem_singleton.mp hr]; exact (ne_of_none S.tal.sh.dc f1).symm
  refine ⟨(S.pool.but b1 n3 n6).but b2 n2 n5, T2, S1.but b2 S.ne nL', S.ne, fun r hr => ?_, nL', ?_, fun m hm => ?_, fun r hr => ?_⟩
  · rcases List.mem_append.mp hr with hr | hr
    · exact S.nT r hr
    · rw [List.mem_singleton.mp hr]; exact (ne_of_none S1.dc f2).symm
  · rw [List.map_append, List.map_append, S.dat]
    rfl
  · unfold KT.names at hm
    rw [List.map_append] at hm
    rcases List.mem_append.mp hm with hm | hm
    · exact S.nm m hm
    · rw [List.mem_singleton.mp hm]; exact hn
  · rcases List.mem_append.mp hr with hr | hr
    · exact S.ok r hr
    · rw [List.mem_singleton.mp hr]; exact ⟨hf, hl⟩
theorem filt_dat (n : Str) (rs : List Sh) : ((rs.filter fun r => decide (r.1 ≠ n)).map fun r => (r.1, r.2.2)) = (rs.map fun r => (r.1, r.2.2)).filter fun q => decide (q.1 ≠ n) := by
  rw [List.filter_map]
  rfl
/-- a sheet taken out, on both sides -/
theorem St5.rem {H1 H2 : Hp} {n : Str} (S : St5 C p l x d sd H rT rL) (b1 : But sd H H1) (S1 : ShAt H1 sd (rL.filter fun r => decide (r.1 ≠ n))) (b2 : But d H1 H2) (T2 : TalAt C H2 x d (rT.filter fun r => decide (r.1 ≠ n))) :
    St5 C p l x d sd H2 (rT.filter fun r => decide (r.1 ≠ n)) (rL.filter fun r => decide (r.1 ≠ n)) := by
  obtain ⟨n1, n2, n3, n4, n5, n6, n7, n8⟩ := S.xne
  have nL' : ∀ r ∈ (rL.filter fun r => decide (r.1 ≠ n)), r.2.1 ≠ d := fun r hr => S.nL r (List.mem_filter.mp hr).1
  refine ⟨(S.pool.but b1 n3 n6).but b2 n2 n5, T2, S1.but b2 S.ne nL', S.ne, fun r hr => S.nT r (List.mem_filter.mp hr).1, nL', ?_, fun m hm => ?_, fun r hr => S.ok r (List.mem_filter.mp hr).1⟩
  · rw [filt_dat, filt_dat, S.dat]
  · obtain ⟨r, hr, e⟩ := List.mem_map.mp hm
    exact S.nm m (List.mem_map.mpr ⟨r, (List.mem_filter.mp hr).1, e⟩)
end
end KT

namespace KT
open PySem PySem.Spec PyProof.Rows L2

/-- a method that keeps a promise -/
def MO (P : Program) (w : World) (K : PySem.W.Frag) (mg : Str → Option Value) (base : Heap) (C : Addr) (CX : CXT) (k : Nat) (m : Str) (ps : List Str) (sp : Sp) : Prop :=
  ∃ f fd, Meth K C m f ∧ FnOk P w K mg base CX k f fd ps sp ∧ Binds K fd ps []
/-- Tally() and len(tally) -/
structure TaT (P : Program) (w : World) (K : PySem.W.Frag) (mg : Str → Option Value) (base : Heap) (C CB CS : Addr) : Prop where
  gC : mg "Tally" = some (.ref C)
  make : ∃ f fd, Mk K C f ∧ FnOk P w K mg base CX0 1 f fd ["self"] (spTI C) ∧ Binds K fd ["self"] []
  ln : ∃ f fd, PySem.W.findIn K (.ref C) "__len__" = some (some (.ref f)) ∧ PySem.W.isFn K (.ref f) = true ∧ FnOk P w K mg base CX0 1 f fd ["self"] (spTLen C) ∧ Binds K fd ["self"] []
  ad : MO P w K mg base C (L2.CX P w) 4 "add" ["self", "name", "counts"] (spTAdd C CB CS)
  rm : MO P w K mg base C CX0 1 "remove" ["self", "name"] (spTRem C)
  tt : MO P w K mg base C CX0 3 "total" ["self"] (spTTot C)
  cm : MO P w K mg base C CX0 6 "compare" ["self", "bill"] (spTCmp C)
/-- the law's defs -/
structure LwT (P : Program) (w : World) (K : PySem.W.Frag) (mg : Str → Option Value) (base : Heap) (C : Addr) : Prop where
  pool : Cl P w K mg base CX0 1 "_law_pool" ["_law_script"] (spPool K)
  take : TakeOk P w K mg base
  counts : Cl P w K mg base CX0 4 "_law_counts" ["_law_pool_here", "_law_most"] spCounts
  same : Cl P w K mg base CX0 4 "_law_same" ["_law_actual", "_law_due_here"] (spSame 3)
  told : Cl P w K mg base CX0 5 "_law_told" ["_law_tally", "_law_name", "_law_counts_here"] (spTold C)
  due : Cl P w K mg base CX0 1 "_law_due" ["_law_sheets", "_law_name", "_law_counts_here"] spDue
  sum : Cl P w K mg base CX0 1 "_law_sum" ["_law_rows"] (spSum K)
  alike : Cl P w K mg base CX0 5 "_law_alike" ["_law_actual", "_law_due_here"] spAlike
  roll : Cl P w K mg base CX0 6 "roll_up" ["bill"] (spRolled 2)
theorem at_nms {z : Int} (h0 : 0 ≤ z) (h1 : z ≤ 6) : ∃ n ∈ nms, atI (nms.map V.str) z = some (V.str n) := by
  obtain ⟨j, rfl⟩ : ∃ j : Nat, z = (j : Int) := ⟨z.toNat, by omega⟩
  have hj : j < nms.length := by show j < 7; omega
  exact ⟨nms[j], List.getElem_mem hj, atI_nat (by rw [List.getElem?_map, List.getElem?_eq_getElem hj]; rfl)⟩
theorem ak_tup2 {H : Hp} {p q : Addr} {u v : V} (hp : H p = some (.tup [u, v])) (hq : H q = some (.tup [u, v])) (hu : Ak H 2 u u) (hv : Ak H 2 v v) : Ak H 3 (.ref p) (.ref q) :=
  .inr (.inr (.inr (.inl ⟨p, q, _, _, rfl, rfl, hp, hq, by show 2 ≤ 500; decide, rfl, fun i a b ha hb => by
    match i, ha, hb with
    | 0, ha, hb => cases ha; cases hb; exact hu
    | 1, ha, hb => cases ha; cases hb; exact hv
    | j + 2, ha, hb => cases ha⟩)))
theorem ak_str {H : Hp} {n : Nat} (z : Str) : Ak H (n + 1) (.str z) (.str z) := .inr (.inl ⟨z, rfl, rfl⟩)
theorem ak_bl {H : Hp} {n : Nat} (z : Bool) : Ak H (n + 1) (.bl z) (.bl z) := .inl ⟨z, rfl, rfl⟩
theorem ak_int {H : Hp} {n : Nat} (z : Int) : Ak H (n + 1) (.int z) (.int z) := .inr (.inr (.inl ⟨z, rfl, rfl⟩))
/-- the loop's own -/
def LwI (C a p l x d sd : Addr) : L2.St → Hp → Prop := fun σ H => ∃ (rT rL : List Sh) (v4 v5 v6 v7 : Option V),
  σ = [some (.ref a), some (.ref p), some (.ref x), some (.ref sd), v4, v5, v6, v7, none, none, none, none, none] ∧ St5 C p l x d sd H rT rL
theorem pool_dat {H H' : Hp} {p l q : Addr} {f : AL} (S : PoolAt H p l) (b : But p H H') (h : DAt H q f) : DAt H' q f := by
  obtain ⟨_, cells, pos, rest, seed, hp, _⟩ := S
  exact b _ _ h (ne_of h hp (by intro z; cases z))
theorem hdgL {H : Hp} {sd : Addr} {rL : List Sh} {z : Str} (S : ShAt H sd rL) (h : z ∈ names rL) : DGet H sd (.str z) (some (.ref (shf rL z).1)) :=
  .inl ⟨shK rL, Sum.inr z, .inl S.dc, rfl, (shK_at S.nd (shf_some S.nd h)).symm⟩
def spLaw (K : PySem.W.Frag) : Sp := fun vs H Q _ => ∃ (a : Addr) (ns : List Int), vs = [.ref a] ∧ SqL K H a (ns.map V.int) ∧ ns.length ≤ 63 ∧ ∀ H', Q (.bl true) H'
section
variable {P : Program} {w : World} {K : PySem.W.Frag} {mg : Str → Option Value} {base : Heap} {C CB CS : Addr}
abbrev nLaw : List Str := ["_law_script", "_law_pool_here", "_law_tally", "_law_sheets", "_law_turn", "_law_name", "_law_due_here", "_law_counts_here", "_law_total", "_law_bill", "_law_change", "_law_other", "_law_code_here"]
theorem scLaw : FnScope nLaw ["_law_script"] (defScope sLaw) := ⟨rfl, rfl, rfl, by decide +kernel, rfl, by decide +kernel, by decide +kernel⟩
theorem ok_law {f : Addr} {fd : FuncData} (F : Fun K "law" "law" sLaw f fd) (M : Mg mg) (T : TlT K mg C) (A : TaT P w K mg base C CB CS) (L : LwT P w K mg base C) : FnOk P w K mg base CX0 7 f fd ["_law_script"] (spLaw K) := by
  refine F.ok scLaw (fun vs H Q E h => ?_) (fun cdv A' outer s H vs Q E hr h => ?_)
  · obtain ⟨a, ns, rfl, _⟩ := h
    rfl
  · obtain ⟨a, ns, rfl, hS, hn, k⟩ := h
    have hu := hu_of hr
    have gC := A.gC
    obtain ⟨fI, dI, mkI, FI, bI⟩ := A.make
    obtain ⟨fL, dL, lL, nL, FL, bL⟩ := A.ln
    obtain ⟨fA, dA, mA, FA, bA⟩ := A.ad
    obtain ⟨fR, dR, mR, FR, bR⟩ := A.rm
    obtain ⟨fT, dT, mT, FT, bT⟩ := A.tt
    obtain ⟨fC, dC, mC, FC, bC⟩ := A.cm
    refine ⟨_, pss_cons (ps_set (i := 1) scLaw.nd rfl (Or.inl rfl) (pe_cl L.pool (hr.mono (by decide)) pass0 (pa_cons (pv 0) pa_nil)))
      (pss_cons (ps_set (i := 2) scLaw.nd rfl (Or.inl rfl) (pe_make0 mkI FI (hr.mono (by decide)) (by rfl) gC bI .nil pass0))
      (pss_cons (ps_set (i := 3) scLaw.nd rfl (Or.inr rfl) pe_dnewK)
      (pss_cons (ps_for PassesOwn.never rfl (pi_range1 (by rfl) M.range (pa_cons (pe_cl L.take (hr.mono (by decide)) pass0 (pa_cons (pv 1) (pa_cons pe_int pa_nil))) pa_nil)) (pg_name (i := 4) scLaw.nd rfl (Or.inl rfl))
        (pss_cons (ps_set (i := 5) scLaw.nd rfl (Or.inl rfl) (pe_ix ix_tup (pe_tup (pa_cons pe_str (pa_cons pe_str (pa_cons pe_str (pa_cons pe_str (pa_cons pe_str (pa_cons pe_str (pa_cons pe_str pa_nil))))))))
            (pe_op op_add (pe_op op_fdiv (pe_cl L.take (hr.mono (by decide)) pass0 (pa_cons (pv 1) (pa_cons pe_int pa_nil))) pe_int) (pe_cl L.take (hr.mono (by decide)) pass0 (pa_cons (pv 1) (pa_cons pe_int pa_nil)))) (fun _ _ => rfl)))
        (pss_cutK (ps_if (pt_cmpR op_eq (pe_cl L.take (hr.mono (by decide)) pass0 (pa_cons (pv 1) (pa_cons pe_int pa_nil))) pe_int (nomark _))
            (pss_cons (ps_set (i := 6) scLaw.nd rfl (Or.inl rfl) (pe_cmp (pc_din hu (pv 5) (pv 3))))
            (pss_cons (ps_expr (pe_dpop2 (pv 3) (pv 5) pe_int ⟨rfl, rfl, rfl, rfl⟩))
            (pss_one (ps_if (pt_not (pt_val (pe_cl L.same (hr.mono (by decide)) pass0 (pa_cons (pe_meth (pv 2) T.cl mR FR (hr.mono (by decide)) bR .nil pass0 (pa_cons (pv 5) pa_nil)) (pa_cons (pv 6) pa_nil))))) (pss_one (ps_ret pe_bl)) pss_nil))))
            (pss_cons (ps_set (i := 7) scLaw.nd rfl (Or.inl rfl) (pe_cl L.counts (hr.mono (by decide)) pass0 (pa_cons (pv 1) (pa_cons pe_int pa_nil))))
            (pss_cutK (ps_if (pt_cmpR op_eq (pe_cl L.take (hr.mono (by decide)) pass0 (pa_cons (pv 1) (pa_cons pe_int pa_nil))) pe_int (nomark _)) (pss_one (ps_dput hu (pv 7) pe_str pe_int rfl)) pss_nil)
            (pss_cons (ps_set (i := 6) scLaw.nd rfl (Or.inl rfl) (pe_cl L.due (hr.mono (by decide)) pass0 (pa_cons (pv 3) (pa_cons (pv 5) (pa_cons (pv 7) pa_nil)))))
            (pss_cons (ps_if (pt_not (pt_val (pe_cl L.same (hr.mono (by decide)) pass0 (pa_cons (pe_cl L.told (hr.mono (by decide)) pass0 (pa_cons (pv 2) (pa_cons (pv 5) (pa_cons (pv 7) pa_nil)))) (pa_cons (pv 6) pa_nil))))) (pss_one (ps_ret pe_bl)) pss_nil)
            (pss_one (ps_dput hu (pv 7) pe_str pe_int rfl)))))))
          (pss_one (ps_if (pt_not (pt_val (pe_cl L.same (hr.mono (by decide)) pass0 (pa_cons (pe_callB (call_lenO lL nL FL (hr.mono (by decide)) bL pass0) (by rfl) M.len PySem.boot_len (pa_cons (pv 2) pa_nil))
            (pa_cons (pe_callB call_lenD (by rfl) M.len PySem.boot_len (pa_cons (pv 3) pa_nil)) pa_nil))))) (pss_one (ps_ret pe_bl)) pss_nil)))))
      (pss_cons (ps_set (i := 8) scLaw.nd rfl (Or.inl rfl) (pe_cl L.sum (hr.mono (by decide)) pass0 (pa_cons (pe_lc (own := [("_law_name", 5)]) (g := gName 5) (tt := tYes) rfl scLaw.nd (pi_list (pe_callB (call_sortedD rfl) (by rfl) M.sorted (by decide +kernel) (pa_cons (pv 3) pa_nil)))
          (blkOk_by (own := [("_law_name", 5)]) (N := nLaw) (sc := defScope sLaw) (by decide +kernel)) (fun _ _ _ _ _ => pg_name (i := 5) scLaw.nd rfl (Or.inl rfl)) (fun _ _ _ _ _ => pts_nil)
          (fun _ _ _ _ _ => pe_dget hu (pv 3) (pv 5) (fun _ _ => rfl))) pa_nil)))
      (pss_cons (ps_if (pt_not (pt_val (pe_cl L.alike (hr.mono (by decide)) pass0 (pa_cons (pe_meth0 (pv 2) T.cl mT FT (hr.mono (by decide)) bT .nil pass0) (pa_cons (pv 8) pa_nil))))) (pss_one (ps_ret pe_bl)) pss_nil)
      (pss_cons (ps_set (i := 9) scLaw.nd rfl (Or.inr rfl) (pe_tup (pa_cons (pe_cl L.take (hr.mono (by decide)) pass0 (pa_cons (pv 1) (pa_cons pe_int pa_nil)))
          (pa_cons (pe_cl L.counts (hr.mono (by decide)) pass0 (pa_cons (pv 1) (pa_cons pe_int pa_nil)))
          (pa_cons (pe_lst (pa_cons (pe_tup (pa_cons pe_int (pa_cons (pe_cl L.counts (hr.mono (by decide)) pass0 (pa_cons (pv 1) (pa_cons pe_int pa_nil))) (pa_cons (pe_lst pa_nil) pa_nil)))) pa_nil)) pa_nil)))))
      (pss_cons (ps_set (i := 10) scLaw.nd rfl (Or.inl rfl) (pe_meth (pv 2) T.cl mC FC (hr.mono (by decide)) bC .nil pass0 (pa_cons (pv 9) pa_nil)))
      (pss_cons (ps_if (pt_not (pt_val (pe_cl L.alike (hr.mono (by decide)) pass0 (pa_cons (pv 10) (pa_cons (pe_cl L.sum (hr.mono (by decide)) pass0 (pa_cons (pe_lst (pa_cons (pv 8) (pa_cons
          (pe_callTy (call_dictP rfl) (by rfl) M.dict (by decide +kernel) (pa_cons (pe_lc (own := [("_law_code_here", 12)]) (g := gName 12) (tt := tYes) rfl scLaw.nd (pi_keysN (pe_cl L.roll (hr.mono (by decide)) pass0 (pa_cons (pv 9) pa_nil)))
            (blkOk_by (own := [("_law_code_here", 12)]) (N := nLaw) (sc := defScope sLaw) (by decide +kernel)) (fun _ _ _ _ _ => pg_name (i := 12) scLaw.nd rfl (Or.inl rfl)) (fun _ _ _ _ _ => pts_nil)
            (fun _ _ _ _ _ => pe_tup (pa_cons (pv 12) (pa_cons (pe_un un_neg (pe_dget hu (pe_cl L.roll (hr.mono (by decide)) pass0 (pa_cons (pv 9) pa_nil)) (pv 12) (fun _ _ => rfl))) pa_nil)))) pa_nil)) pa_nil))) pa_nil)) pa_nil)))))
          (pss_one (ps_ret pe_bl)) pss_nil)
      (pss_cons (ps_if (pt_cmpR (op_ne_dictA hr.units0) (pe_cl L.sum (hr.mono (by decide)) pass0 (pa_cons (pe_lst (pa_cons (pe_cl L.roll (hr.mono (by decide)) pass0 (pa_cons (pv 9) pa_nil)) (pa_cons (pv 10) pa_nil))) pa_nil)) (pv 8) (nomark _)) (pss_one (ps_ret pe_bl)) pss_nil)
      (pss_cons (ps_set (i := 11) scLaw.nd rfl (Or.inl rfl) (pe_make0 mkI FI (hr.mono (by decide)) (by rfl) gC bI .nil pass0))
      (pss_cons (ps_for PassesOwn.never rfl (pi_list (pe_revL (pe_callB (call_sortedD rfl) (by rfl) M.sorted (by decide +kernel) (pa_cons (pv 3) pa_nil)))) (pg_name (i := 5) scLaw.nd rfl (Or.inl rfl))
        (pss_one (ps_if (PW.pt (pw_or (pt_cmpR op_notBl (pe_meth (pv 11) T.cl mA FA (hr.mono (by decide)) bA .nil passL (pa_cons (pv 5) (pa_cons (pe_dget hu (pv 3) (pv 5) (fun _ _ => rfl)) pa_nil))) pe_bl (nomark _))
          (pw_or1 (pt_cmpR op_notBl (pe_meth (pv 11) T.cl mA FA (hr.mono (by decide)) bA .nil passL (pa_cons (pv 5) (pa_cons pe_dnewK pa_nil))) pe_bl (nomark _))))) (pss_one (ps_ret pe_bl)) pss_nil)))
      (pss_one (ps_ret (pe_cl L.alike (hr.mono (by decide)) pass0 (pa_cons (pe_meth0 (pv 11) T.cl mT FT (hr.mono (by decide)) bT .nil pass0) (pa_cons (pv 8) pa_nil)))))))))))))))), ?_⟩
    refine ⟨_, rfl, a, ns, rfl, hS, hn, fun H1 p l s1 hp hl P1 => ?_⟩
    intro x dx hx hdx nxd
    refine ⟨x, dx, rfl, upd_same, fun d H2 hd T2 b2 => ⟨rfl, ?_⟩⟩
    have s2 : Same H1 H2 := Same.made hx hdx b2
    intro sd hsd
    have s3 : Same H2 (upd H2 sd (.dK [])) := Same.upd hsd
    have S3 : St5 C p l x d sd (upd H2 sd (.dK [])) [] [] :=
      ⟨(P1.same s2).same s3, T2.same s3, ⟨upd_same, (fun r hr => by cases hr), (fun r hr => by cases hr), List.nodup_nil⟩, (ne_of_none T2.sh.dc hsd).symm, (fun r hr => by cases hr), (fun r hr => by cases hr), rfl, (fun r hr => by cases hr), (fun r hr => by cases hr)⟩
    refine ⟨_, rfl, p, l, 31, rfl, by decide, by decide, S3.pool, fun n H4 d0 d1 b4 P4 => ⟨n, rfl, by omega, by omega, ?_⟩⟩
    refine for_range (lo := 0) (n := n.toNat) (fun i σ H' => LwI C a p l x d sd σ H') ⟨[], [], none, none, none, none, rfl, S3.butP b4 P4⟩ ?_ ?_
    · rintro i σ H' hi ⟨rT, rL, v4, v5, v6, v7, rfl, S⟩
      refine ⟨n63' (by show 7 ≤ 1000; decide), fun t ht => ?_⟩
      have sT := S.same (Same.upd (o := .tup (nms.map V.str)) ht)
      have htn : p ≠ t := by
        obtain ⟨_, cells, pos, rest, seed, hp', _⟩ := id S.pool
        exact ne_of_none hp' ht
      refine ⟨_, rfl, p, l, 22, rfl, by decide, by decide, sT.pool, fun j H5 j0 j1 b5 P5 => ?_⟩
      refine ⟨_, _, rfl, rfl, ⟨by decide, by decide⟩, ?_⟩
      refine ⟨_, rfl, p, l, 2, rfl, by decide, by decide, P5, fun j2 H6 e0 e1 b6 P6 => ?_⟩
      obtain ⟨nm, hnm, hat⟩ := at_nms (z := j / 4 + j2) (by omega) (by omega)
      have S6 := (sT.butP b5 P5).butP b6 P6
      have ht6 : H6 t = some (.tup (nms.map V.str)) := b6 _ _ (b5 _ _ upd_same htn.symm) htn.symm
      refine ⟨_, _, rfl, rfl, t, _, _, _, rfl, rfl, SqT.of ht6, hat, ?_⟩
      obtain ⟨hn5, hn1000⟩ := nms_facts nm hnm
      refine ⟨LwI C a p l x d sd, ?_, ?_⟩
      · refine ⟨_, rfl, p, l, 4, rfl, by decide, by decide, P6, fun j3 H7 f0 f1 b7 P7 => ⟨rfl, _, rfl, ?_⟩⟩
        have S7 := S6.butP b7 P7
        by_cases c1 : V.int j3 = V.int 1
        · rw [decide_eq_true c1]
          refine ⟨_, rfl, _, rfl, sd, _, rfl, DGet.k (k := Sum.inr nm) S7.sh.dc, ?_⟩
          by_cases hin : nm ∈ names rL
          · obtain ⟨r, hr1, e1, e2⟩ := names_some S7.sh.nd hin
            have hinT : nm ∈ names rT := by rw [← S7.names]; exact hin
            rw [e2]
            refine ⟨_, rfl, sd, rfl, .inl ⟨_, .inl S7.sh.dc⟩, _, rfl, shK rL, Sum.inr nm, S7.sh.dc, rfl, fun v hv => ?_, fun hv => by rw [e2] at hv; cases hv⟩
            have hd8 : (upd H7 sd (.dK (dropK (shK rL) (Sum.inr nm)))) sd = some (.dK (shK (rL.filter fun r => decide (r.1 ≠ nm)))) := by rw [upd_same, shK_drop]
            have SL := S7.sh.drop nm (But.upd (o := .dK (dropK (shK rL) (Sum.inr nm)))) hd8
            obtain ⟨n1, n2, n3, n4, n5, n6, n7, n8⟩ := S7.xne
            have T8 := S7.tal.but (But.upd (o := .dK (dropK (shK rL) (Sum.inr nm)))) n7 S7.ne.symm S7.nT
            obtain ⟨dx8, hx8⟩ := T8.ob
            refine ⟨_, rfl, x, dx8, _, rfl, hx8, no_fld d (by decide +kernel), _, rfl, x, d, rT, nm, rfl, T8, fun h => absurd hinT h, fun _ H9 b9 T9 => ?_⟩
            refine ⟨_, rfl, _, _, rfl, ak_bl _, fun H10 s10 => ⟨_, rfl, ?_⟩⟩
            exact ⟨_, _, _, _, _, _, rfl, (S7.rem But.upd SL b9 T9).same s10⟩
          · have hinT : nm ∉ names rT := by rw [← S7.names]; exact hin
            have e2 := shK_no hin
            rw [e2]
            refine ⟨_, rfl, sd, rfl, .inl ⟨_, .inl S7.sh.dc⟩, _, rfl, shK rL, Sum.inr nm, S7.sh.dc, rfl, (fun v hv => absurd (e2.symm.trans hv) (by intro z; cases z)), fun hv => ?_⟩
            obtain ⟨dx8, hx8⟩ := S7.tal.ob
            refine ⟨_, rfl, x, dx8, _, rfl, hx8, no_fld d (by decide +kernel), _, rfl, x, d, rT, nm, rfl, S7.tal, fun _ => ?_, fun h => absurd h hinT⟩
            refine ⟨_, rfl, _, _, rfl, ak_bl _, fun H10 s10 => ⟨_, rfl, ?_⟩⟩
            exact ⟨_, _, _, _, _, _, rfl, S7.same s10⟩
        · rw [decide_eq_false c1]
          refine ⟨_, rfl, p, l, 5, rfl, by decide, by decide, P7, fun c f0 H8 ok0 len0 b8 hc8 D8 P8 => ?_⟩
          have S8 := S7.butP b8 P8
          have ap : Apart p l x d sd rT rL c := S7.apart hc8
          refine ⟨fun σ H => (∃ v4 v6 : Option V, σ = [some (.ref a), some (.ref p), some (.ref x), some (.ref sd), v4, some (.str nm), v6, some (.ref c), none, none, none, none, none]) ∧ St5 C p l x d sd H rT rL ∧ ∃ f1 : AL, DAt H c f1 ∧ (keys f1).Nodup ∧ f1.length ≤ 5 ∧
            (∀ q ∈ f1, legal q ∨ q.1 = aS) ∧ (aS ∉ keys f1 → CountsOk f1 ∧ f1.length ≤ 4), ?_, ?_⟩
          · refine ⟨_, rfl, p, l, 9, rfl, by decide, by decide, P8, fun j4 H9 g0 g1 b9 P9 => ⟨rfl, _, rfl, ?_⟩⟩
            have S9 := S8.butP b9 P9
            have D9 : DAt H9 c f0 := b9 _ _ D8 ap.np.symm
            by_cases c2 : V.int j4 = V.int 1
            · rw [decide_eq_true c2]
              refine ⟨_, rfl, c, _, rfl, DPut.k (k := Sum.inr aS) D9 (n63 (by rw [toK_length]; omega)), ?_⟩
              refine ⟨⟨_, _, rfl⟩, S9.butC But.upd ap, put f0 aS 1, by unfold DAt; rw [upd_same, toK_put], nodup_put _ _ ok0.nd, Nat.le_trans (length_put _ _ _) (by omega), fun q hq => ?_, fun h => ?_⟩
              · rcases mem_put hq with h | h
                · exact .inl (ok0.ok q h)
                · exact .inr (by rw [h])
              · refine absurd ?_ h
                rw [put_new _ (noA ok0)]
                unfold keys
                rw [List.map_append]
                exact List.mem_append_right _ List.mem_cons_self
            · rw [decide_eq_false c2]
              exact ⟨⟨_, _, rfl⟩, S9, f0, D9, ok0.nd, by omega, fun q hq => .inl (ok0.ok q hq), fun _ => ⟨ok0, by omega⟩⟩
          · rintro σ1 H9 ⟨⟨w4, w6, rfl⟩, S9, f1, D9, nd9, len9, leg9, cok⟩
            have hfew := S9.few
            have hlen := S9.len
            refine ⟨_, rfl, _, rfl, _, rfl, sd, c, rL, nm, f1, rfl, S9.sh, by omega, D9, hn1000, fun hg H10 t1 s10 ht1 => ?_, fun hg ha H10 t1 s10 ht1 => ?_, fun hg ha hin => ?_, fun hg ha hin H10 a1 ha1 b10 SL10 => ?_⟩
            · have S10 := S9.same s10
              refine ⟨_, rfl, _, rfl, _, rfl, x, d, c, rT, nm, f1, rfl, S10.tal, by omega, s10 _ _ D9, nd9, by omega, leg9, hn1000, fun _ H11 t2 s11 ht2 => ?_, fun h => absurd h hg, fun h => absurd h hg, fun h => absurd h hg⟩
              refine ⟨_, rfl, _, _, rfl, ak_tup2 ht2 (s11 _ _ ht1) (ak_str _) (ak_bl _), fun H12 s12 => ⟨_, rfl, ?_⟩⟩
              exact ⟨_, rfl, c, _, rfl, DPut.k (k := Sum.inr ("ZZ" : Str)) (s12 _ _ (s11 _ _ (s10 _ _ D9))) (n63 (by rw [toK_length]; omega)), _, _, _, _, _, _, rfl, ((S10.same s11).same s12).butC But.upd ap⟩
            · have S10 := S9.same s10
              refine ⟨_, rfl, _, rfl, _, rfl, x, d, c, rT, nm, f1, rfl, S10.tal, by omega, s10 _ _ D9, nd9, by omega, leg9, hn1000, fun h => absurd hg h, fun _ _ H11 t2 s11 ht2 => ?_, fun _ h => absurd ha h, fun _ h => absurd ha h⟩
              refine ⟨_, rfl, _, _, rfl, ak_tup2 ht2 (s11 _ _ ht1) (ak_str _) (ak_str _), fun H12 s12 => ⟨_, rfl, ?_⟩⟩
              exact ⟨_, rfl, c, _, rfl, DPut.k (k := Sum.inr ("ZZ" : Str)) (s12 _ _ (s11 _ _ (s10 _ _ D9))) (n63 (by rw [toK_length]; omega)), _, _, _, _, _, _, rfl, ((S10.same s11).same s12).butC But.upd ap⟩
            · have hinT : nm ∈ names rT := by rw [← S9.names]; exact hin
              refine ⟨_, rfl, _, rfl, _, rfl, x, d, c, rT, nm, f1, rfl, S9.tal, by omega, D9, nd9, by omega, leg9, hn1000, fun h => absurd hg h, fun _ h => absurd h ha, fun _ _ _ H11 s11 => ?_, fun _ _ h => absurd hinT h⟩
              refine ⟨_, rfl, _, _, rfl, ak_bl _, fun H12 s12 => ⟨_, rfl, ?_⟩⟩
              exact ⟨_, rfl, c, _, rfl, DPut.k (k := Sum.inr ("ZZ" : Str)) (s12 _ _ (s11 _ _ D9)) (n63 (by rw [toK_length]; omega)), _, _, _, _, _, _, rfl, ((S9.same s11).same s12).butC But.upd ap⟩
            · have hinT : nm ∉ names rT := by rw [← S9.names]; exact hin
              obtain ⟨n1, n2, n3, n4, n5, n6, n7, n8⟩ := S9.xne
              have T10 := S9.tal.but b10 n7 S9.ne.symm S9.nT
              have D10 : DAt H10 c f1 := b10 _ _ D9 ap.ns.symm
              obtain ⟨ckf, lenf⟩ := cok ha
              refine ⟨_, rfl, _, rfl, _, rfl, x, d, c, rT, nm, f1, rfl, T10, by omega, D10, nd9, by omega, leg9, hn1000, fun h => absurd hg h, fun _ h => absurd h ha, fun _ _ h => absurd h hinT, fun _ _ _ H11 a2 ha2 b11 T11 => ?_⟩
              refine ⟨_, rfl, _, _, rfl, ak_bl _, fun H12 s12 => ⟨_, rfl, ?_⟩⟩
              have S11 := S9.add (hn5 hg) ckf lenf ha1 b10 SL10 ha2 b11 T11
              have ap2 : Apart p l x d sd (rT ++ [(nm, a2, f1)]) (rL ++ [(nm, a1, f1)]) c := ⟨ap.np, ap.nl, ap.nx, ap.nd, ap.ns, fun r hr => by
                rcases List.mem_append.mp hr with hr | hr
                · exact ap.oT r hr
                · rw [List.mem_singleton.mp hr]; exact (ne_of_none D10 ha2).symm, fun r hr => by
                rcases List.mem_append.mp hr with hr | hr
                · exact ap.oL r hr
                · rw [List.mem_singleton.mp hr]; exact (ne_of_none D9 ha1).symm⟩
              exact ⟨_, rfl, c, _, rfl, DPut.k (k := Sum.inr ("ZZ" : Str)) (s12 _ _ (b11 _ _ D10 ap.nd.symm)) (n63 (by rw [toK_length]; omega)), _, _, _, _, _, _, rfl, (S11.same s12).butC But.upd ap2⟩
      · rintro σ' H'' ⟨rT, rL, v4, v5, v6, v7, rfl, S⟩
        obtain ⟨dx', hx'⟩ := S.tal.ob
        have hfew := S.few
        refine ⟨_, rfl, x, dx', _, rfl, hx', x, d, rT, rfl, S.tal, _, rfl, by omega, by omega, ?_⟩
        refine ⟨_, rfl, sd, _, rfl, S.sh.dc, ?_⟩
        rw [shK_length, S.len]
        refine ⟨_, _, rfl, ak_int _, fun H8 s8 => ⟨_, rfl, ?_⟩⟩
        exact ⟨rT, rL, _, _, _, _, rfl, S.same s8⟩
    · rintro σ H' ⟨rT, rL, v4, v5, v6, v7, rfl, S⟩
      have hfew := S.few
      have hlen := S.len
      have hcard : (names rL).length ≤ 5 := by rw [names_length]; omega
      -- the sheets' sum
      refine ⟨_, rfl, sd, shK rL, names rL, rfl, .inl S.sh.dc, shK_keys rL, by omega, fun ys q hperm hsort hq => ?_⟩
      have hys : ys.length ≤ 5 := by rw [hperm.length_eq]; exact hcard
      refine ⟨q, rfl, ⟨_, SqL.of upd_same⟩, fun E1 hE1 => ?_⟩
      have sq : Same H' (upd H' q (.lst (ys.map V.str))) := Same.upd hq
      refine lc_it (walk_list (K := K) (a := q) (xs := ys.map V.str)) (fun i H'' => H'' E1 = some (.lst ((ys.take i).map fun n => V.ref (shf rL n).1)) ∧ Same (upd H' q (.lst (ys.map V.str))) H'')
        ⟨upd_same, Same.upd hE1⟩ (fun i H'' _ ⟨_, s2⟩ => SqL.of (s2 _ _ upd_same)) ?_ ?_
      · rintro i y H5 H6 hi ⟨hE, s5⟩ ⟨rfl, hx⟩
        obtain ⟨z, hz, rfl⟩ := strs_get hx
        have hzm : z ∈ names rL := hperm.mem_iff.mp (List.mem_of_getElem? hz)
        have hil : i < ys.length := (List.getElem?_eq_some_iff.mp hz).1
        refine ⟨rfl, _, rfl, _, rfl, sd, _, rfl, hdgL (S.sh.same (sq.trans s5)) hzm, _, hE, n63 (by rw [List.length_map, List.length_take]; omega), ?_, fun c o e => ?_⟩
        · rw [upd_same, take_more hz, List.map_append]
          rfl
        · rw [upd_ne (ne_of_none e hE1)]
          exact s5 c o e
      rintro H5 ⟨hE, s5⟩
      rw [List.length_map, List.take_length] at hE
      have hys_mem : ∀ z ∈ ys, z ∈ names rL := fun z hz => hperm.mem_iff.mp hz
      have sL := S.same (sq.trans s5)
      have hrows : ∀ g ∈ ys.map (shf rL), CountsOk g.2 ∧ g.2.length ≤ 4 ∧ ∀ H, ShAt H sd rL → DAt H g.1 g.2 := fun g hg => by
        obtain ⟨z, hz, rfl⟩ := List.mem_map.mp hg
        have hm := shf_some S.sh.nd (hys_mem z hz)
        exact ⟨(S.okL _ hm).1, (S.okL _ hm).2, fun H SH => SH.at_ _ hm⟩
      have hrl : rowsLen (ys.map (shf rL)) ≤ 20 := by
        have := rows_few fun g hg => (hrows g hg).2.1
        rw [List.length_map] at this
        omega
      refine ⟨E1, ys.map (shf rL), rfl, by rw [hE, List.map_map]; rfl, fun g hg => ⟨(hrows g hg).2.2 _ sL.sh, (hrows g hg).1.nd⟩, by omega, fun H6 pS LS s6 hpS hLS cS gS lS => ?_⟩
      have gS' : ∀ k, gt LS k = shTot rT k := fun k => by rw [gS, tot_names S.sh.nd hperm, S.tot]
      have S6 := sL.same s6
      obtain ⟨dx6, hx6⟩ := S6.tal.ob
      refine ⟨_, rfl, x, dx6, _, rfl, hx6, no_fld d (by decide +kernel), x, d, rT, rfl, S6.tal, S6.fit, fun H7 pt Lt s7 hpt hLt cLt gLt lLt => ?_⟩
      obtain rfl : Lt = LS := canon_ext cLt cS fun k => by rw [gLt, gS']
      refine ⟨_, rfl, pt, pS, Lt, rfl, hLt, s7 _ _ hLS, by omega, fun H8 s8 => ⟨_, rfl, ?_⟩⟩
      have S8 := (S6.same s7).same s8
      have D8 : DAt H8 pS Lt := s8 _ _ (s7 _ _ hLS)
      -- the bill
      refine ⟨_, rfl, p, l, 9, rfl, by decide, by decide, S8.pool, fun tt H9 t0 t1 b9 P9 => ?_⟩
      refine ⟨_, rfl, p, l, 6, rfl, by decide, by decide, P9, fun c1 f1 H10 ok1 len1 b10 hc1 Dc1 P10 => ?_⟩
      refine ⟨_, rfl, p, l, 4, rfl, by decide, by decide, P10, fun c2 f2 H11 ok2 len2 b11 hc2 Dc2 P11 => ?_⟩
      have S11 := ((S8.butP b9 P9).butP b10 P10).butP b11 P11
      have D11 : DAt H11 pS Lt := pool_dat P10 b11 (pool_dat P9 b10 (pool_dat S8.pool b9 D8))
      have E11 : DAt H11 c1 f1 := pool_dat P10 b11 Dc1
      refine ⟨n63' (by show 0 ≤ 1000; decide), fun e1 he1 => ⟨n63' (by show 3 ≤ 1000; decide), fun k1 hk1 => ⟨n63' (by show 1 ≤ 1000; decide), fun e2 he2 => ⟨n63' (by show 3 ≤ 1000; decide), fun b hb => ?_⟩⟩⟩⟩
      have sb : Same H11 (upd (upd (upd (upd H11 e1 (.lst [])) k1 (.tup [.int 0, .ref c2, .ref e1])) e2 (.lst [.ref k1])) b (.tup [.int tt, .ref c1, .ref e2])) :=
        (((Same.upd he1).trans (Same.upd hk1)).trans (Same.upd he2)).trans (Same.upd hb)
      have nb1 : b ≠ e2 := (ne_of_none (upd_same (a := e2)) hb).symm
      have nk1 : k1 ≠ e2 := ne_of_none (upd_same (a := k1)) he2
      have ne1 : e1 ≠ k1 := ne_of_none (upd_same (a := e1)) hk1
      have hk1b : (upd (upd (upd (upd H11 e1 (.lst [])) k1 (.tup [.int 0, .ref c2, .ref e1])) e2 (.lst [.ref k1])) b (.tup [.int tt, .ref c1, .ref e2])) k1 = some (.tup [.int 0, .ref c2, .ref e1]) :=
        Same.upd hb _ _ (Same.upd he2 _ _ upd_same)
      have he1b : (upd (upd (upd (upd H11 e1 (.lst [])) k1 (.tup [.int 0, .ref c2, .ref e1])) e2 (.lst [.ref k1])) b (.tup [.int tt, .ref c1, .ref e2])) e1 = some (.lst []) :=
        Same.upd hb _ _ (Same.upd he2 _ _ (Same.upd hk1 _ _ upd_same))
      have he2b : (upd (upd (upd (upd H11 e1 (.lst [])) k1 (.tup [.int 0, .ref c2, .ref e1])) e2 (.lst [.ref k1])) b (.tup [.int tt, .ref c1, .ref e2])) e2 = some (.lst [.ref k1]) :=
        Same.upd hb _ _ upd_same
      have B : BillP 2 (upd (upd (upd (upd H11 e1 (.lst [])) k1 (.tup [.int 0, .ref c2, .ref e1])) e2 (.lst [.ref k1])) b (.tup [.int tt, .ref c1, .ref e2])) b (fun k => gt f1 k + gt f2 k) (f1.length + f2.length) :=
        ⟨tt, c1, e2, f1, [(k1, fun k => gt f2 k, f2.length)], upd_same, by omega, by omega, sb _ _ E11, ok1, he2b, by show 1 ≤ 12; decide, fun c hc => by
          rw [List.mem_singleton.mp hc]
          exact ⟨0, c2, e1, f2, [], hk1b, by decide, by decide, sb _ _ Dc2, ok2, he1b, by show 0 ≤ 12; decide, fun c hc => (by cases hc), fun k => by simp, by simp⟩, fun k => by simp, by simp⟩
      have S12 := S11.same sb
      have D12 := sb _ _ D11
      generalize hH12 : upd (upd (upd (upd H11 e1 (.lst [])) k1 (.tup [.int 0, .ref c2, .ref e1])) e2 (.lst [.ref k1])) b (.tup [.int tt, .ref c1, .ref e2]) = H12 at B S12 D12 ⊢
      have hsz : f1.length + f2.length ≤ 8 := by omega
      obtain ⟨dx12, hx12⟩ := S12.tal.ob
      -- compare
      refine ⟨_, rfl, x, dx12, _, rfl, hx12, no_fld d (by decide +kernel), _, rfl, x, d, b, rT, _, _, rfl, S12.tal, S12.fit, B, by omega, fun H13 pc Lc s13 hpc hLc cLc gLc lLc => ?_⟩
      have B13 := B.same s13
      have S13 := S12.same s13
      have D13 := s13 _ _ D12
      -- the sum of the total and what the bill rolls up to, less
      refine ⟨_, rfl, _, rfl, _, rfl, b, _, _, rfl, B13, by omega, fun H14 pr Lr s14 hpr hLr cLr gLr lLr => ?_⟩
      refine ⟨pr, _, rfl, hLr, fun od E2 hE2 => ?_⟩
      have sF : Same H13 (upd H14 pr (.frz od (.dK (toK Lr)))) := fun c o e => by
        rw [upd_ne (ne_of_none e hpr)]
        exact s14 c o e
      refine lc_it walk_keys (fun i H => ∃ ts : List Addr, H E2 = some (.lst (ts.map V.ref)) ∧ Paired (fun (t : Addr) (kv : Key × V) => SqT K H t [kV kv.1, kv.2]) ts (toK (neg (Lr.take i))) ∧ Same (upd H14 pr (.frz od (.dK (toK Lr)))) H)
        ⟨[], upd_same, .nil, Same.upd hE2⟩ (fun i H _ ⟨_, _, _, s2⟩ => s2 _ _ upd_same) ?_ ?_
      · rintro i y H15 H16 hi ⟨ts, hts, hprd, s15⟩ ⟨rfl, kk, vv, hkv, rfl⟩
        obtain ⟨g, hg, e⟩ := toK_get hkv
        obtain ⟨rfl, rfl⟩ := Prod.mk.inj e
        have hgm : g ∈ Lr := List.mem_of_getElem? hg
        have hil : i < Lr.length := (List.getElem?_eq_some_iff.mp hg).1
        refine ⟨rfl, _, rfl, _, rfl, b, _, _, rfl, B13.same (sF.trans s15), by omega, fun H17 p2 L2 s17 hp2 hL2 cL2 gL2 lL2 => ?_⟩
        obtain rfl : L2 = Lr := canon_ext cL2 cLr fun k => by rw [gL2, gLr]
        refine ⟨_, rfl, p2, _, rfl, dget_of (.inl hL2) (look_of_mem cLr.nd hgm), _, rfl, n63' (by show 2 ≤ 1000; decide), fun t ht => ?_⟩
        have s18 : Same H17 (upd H17 t (.tup [.str g.1, .int (-g.2)])) := Same.upd ht
        have hts18 := s18 _ _ (s17 _ _ hts)
        have hlts : ts.length = (toK (neg (L2.take i))).length := Paired.length hprd
        have hln : ts.length ≤ 8 := by
          rw [hlts, toK_length, neg_length, List.length_take]
          omega
        refine ⟨_, hts18, n63 (by rw [List.length_map]; omega), ts ++ [t], by rw [upd_same, List.map_append, List.map_cons, List.map_nil], ?_, fun c o e => ?_⟩
        · rw [take_more hg, neg_snoc]
          have e1 : toK (neg (L2.take i) ++ [(g.1, -g.2)]) = toK (neg (L2.take i)) ++ [(Sum.inr g.1, V.int (-g.2))] := by
            unfold toK
            rw [List.map_append]
            rfl
          rw [e1]
          have ntE : E2 ≠ t := ne_of_none (s17 _ _ hts) ht
          have up : ∀ (b : Addr) (xs : List V), SqT K H16 b xs → SqT K (upd (upd H17 t (.tup [.str g.1, .int (-g.2)])) E2 (.lst (ts.map V.ref ++ [.ref t]))) b xs := fun b xs h => by
            rcases h with (h | ⟨o, h⟩) | h
            · exact .inl (.inl (by rw [upd_ne (ne_of h hts (by intro z; cases z)), upd_ne (ne_of_none (s17 _ _ h) ht)]; exact s17 _ _ h))
            · exact .inl (.inr ⟨o, by rw [upd_ne (ne_of h hts (by intro z; cases z)), upd_ne (ne_of_none (s17 _ _ h) ht)]; exact s17 _ _ h⟩)
            · exact .inr h
          exact Paired.snoc (Paired.mapP hprd fun b kv h => up b _ h) (SqT.of (by rw [upd_ne (Ne.symm ntE), upd_same]))
        · rw [upd_ne (ne_of_none e hE2)]
          exact s18 c o (s17 c o (s15 c o e))
      rintro H15 ⟨ts, hts, hprd, s15⟩
      rw [toK_length, List.take_length] at hprd
      refine ⟨E2, ts, _, rfl, SqL.of hts, hprd, fun pd hpd => ?_⟩
      rw [merge_nil (by rw [keys_neg]; exact cLr.nd)]
      have s16 : Same H13 (upd H15 pd (.dK (toK (neg Lr)))) := (sF.trans s15).trans (Same.upd hpd)
      have npd : pS ≠ pd := ne_of_none ((sF.trans s15) _ _ D13) hpd
      refine ⟨n63' (by show 2 ≤ 1000; decide), fun pl hpl => ?_⟩
      have s17 : Same H13 (upd (upd H15 pd (.dK (toK (neg Lr)))) pl (.lst [.ref pS, .ref pd])) := s16.trans (Same.upd hpl)
      have hlt : Lt.length ≤ 20 := by omega
      refine ⟨pl, [(pS, Lt), (pd, neg Lr)], rfl, upd_same, fun g hg => ?_, ?_, fun H18 p5 L5 s18 hp5 hL5 cL5 gL5 lL5 => ?_⟩
      · rcases List.mem_cons.mp hg with rfl | hg
        · exact ⟨s17 _ _ D13, cLt.nd⟩
        · rw [List.mem_singleton.mp hg]
          exact ⟨Same.upd hpl _ _ upd_same, by rw [keys_neg]; exact cLr.nd⟩
      · unfold rowsLen
        simp only [List.map_cons, List.map_nil, List.sum_cons, List.sum_nil, neg_length]
        omega
      have s1318 := s17.trans s18
      have tot2 : ∀ k, rowsTot [(pS, Lt), (pd, neg Lr)] k = shTot rT k - (gt f1 k + gt f2 k) := fun k => by
        unfold rowsTot
        simp only [List.map_cons, List.map_nil, List.sum_cons, List.sum_nil]
        rw [gt_neg, gLr, gS']
        omega
      obtain rfl : L5 = Lc := canon_ext cL5 cLc fun k => by rw [gL5, gLc, tot2]
      refine ⟨pc, p5, L5, rfl, s1318 _ _ hLc, hL5, by omega, fun H19 s19 => ⟨_, rfl, ?_⟩⟩
      have s20 := s1318.trans s19
      -- what the bill rolls up to, with the change, is the total
      refine ⟨_, rfl, b, _, _, rfl, B13.same s20, by omega, fun H21 pr2 Lr2 s21 hpr2 hLr2 cLr2 gLr2 lLr2 => ?_⟩
      refine ⟨_, rfl, n63' (by show 2 ≤ 1000; decide), fun pl2 hpl2 => ?_⟩
      have s22 : Same H13 (upd H21 pl2 (.lst [.ref pr2, .ref pc])) := (s20.trans s21).trans (Same.upd hpl2)
      refine ⟨pl2, [(pr2, Lr2), (pc, L5)], rfl, upd_same, fun g hg => ?_, ?_, fun H23 p6 L6 s23 hp6 hL6 cL6 gL6 lL6 => ?_⟩
      · rcases List.mem_cons.mp hg with rfl | hg
        · exact ⟨Same.upd hpl2 _ _ hLr2, cLr2.nd⟩
        · rw [List.mem_singleton.mp hg]
          exact ⟨s22 _ _ hLc, cLc.nd⟩
      · unfold rowsLen
        simp only [List.map_cons, List.map_nil, List.sum_cons, List.sum_nil]
        omega
      obtain rfl : L6 = Lt := canon_ext cL6 cLt fun k => by
        rw [gL6, gS']
        unfold rowsTot
        simp only [List.map_cons, List.map_nil, List.sum_cons, List.sum_nil]
        rw [gLr2, gLc]
        omega
      have s24 := s22.trans s23
      have S24 := S13.same s24
      have D24 := s24 _ _ D13
      refine ⟨_, rfl, p6, pS, toK L6, toK L6, rfl, rfl, hL6, D24, rfl, fun g hg => ?_, _, rfl, ?_⟩
      · unfold toK at hg
        obtain ⟨g', hg', rfl⟩ := List.mem_map.mp hg
        exact ⟨by show valV (toK L6) (Sum.inr g'.1) = _; rw [valV_toK, look_of_mem cLt.nd hg']; rfl, rfl⟩
      -- the other tally
      intro x2 dx2 hx2 hdx2 nxd2
      refine ⟨x2, dx2, rfl, upd_same, fun d2 H25 hd2 T25 b25 => ⟨rfl, ?_⟩⟩
      have s25 : Same H23 H25 := Same.made hx2 hdx2 b25
      have hd2f : H23 d2 = none := by
        by_cases e1 : d2 = x2
        · rw [e1]; exact hx2
        · rw [upd_ne e1] at hd2
          by_cases e2 : d2 = dx2
          · rw [e2]; exact hdx2
          · rw [upd_ne e2] at hd2
            exact hd2
      have S25 := S24.same s25
      refine ⟨_, rfl, sd, shK rL, names rL, rfl, .inl S25.sh.dc, shK_keys rL, by omega, fun ys2 q2 hperm2 hsort2 hq2 => ?_⟩
      refine ⟨q2, _, rfl, SqL.of upd_same, fun q3 hq3 => ?_⟩
      rw [← List.map_reverse]
      have hys2 : ys2.length ≤ 5 := by rw [hperm2.length_eq]; exact hcard
      have nd2 : ys2.reverse.Nodup := (List.reverse_perm ys2).nodup_iff.mpr (hperm2.nodup_iff.mpr S.sh.nd)
      have mem2 : ∀ z ∈ ys2.reverse, z ∈ names rL := fun z hz => hperm2.mem_iff.mp (List.mem_reverse.mp hz)
      have perm2 : ys2.reverse.Perm (names rL) := (List.reverse_perm ys2).trans hperm2
      have hl2 : ys2.reverse.length ≤ 5 := by rw [List.length_reverse]; exact hys2
      generalize ys2.reverse = zs at nd2 mem2 perm2 hl2 ⊢
      have s26 : Same H25 (upd (upd H25 q2 (.lst (ys2.map V.str))) q3 (.lst (zs.map V.str))) := (Same.upd hq2).trans (Same.upd hq3)
      have d2q3 : d2 ≠ q3 := ne_of_none (Same.upd hq2 _ _ T25.sh.dc) hq3
      refine ⟨q3, rfl, ⟨_, SqL.of upd_same⟩, for_list (K := K) (a := q3) (xs := zs.map V.str) (fun i σ H => ∃ (rs : List Sh) (v5 : Option V), σ = [some (.ref a), some (.ref p), some (.ref x), some (.ref sd), v4, v5, v6, v7, some (.ref pS), some (.ref b), some (.ref pc), some (.ref x2), none] ∧
          Same H23 H ∧ H q3 = some (.lst (zs.map V.str)) ∧ TalAt C H x2 d2 rs ∧ names rs = zs.take i ∧ Fit rs ∧ ∀ k, shTot rs k = rowsTot ((zs.take i).map (shf rL)) k)
        ⟨[], _, rfl, s25.trans s26, upd_same, T25.same s26, rfl, ⟨Nat.zero_le _, fun r hr => (by cases hr)⟩, fun k => rfl⟩ (fun i σ H _ ⟨_, _, _, _, e, _⟩ => SqL.of e) ?_ ?_⟩
      · rintro i y σ H26 hi ⟨rs, v5, rfl, s27, hq26, T26, nm26, fit26, tot26⟩
        obtain ⟨z, hz, rfl⟩ := strs_get hi
        have hzm : z ∈ names rL := mem2 z (List.mem_of_getElem? hz)
        have hil : i < zs.length := (List.getElem?_eq_some_iff.mp hz).1
        have hg5 : z ∈ nms5 := S.nm z (by rw [← S.names]; exact hzm)
        have hgood : goodName z := nms5_facts z hg5
        have hm := shf_some S.sh.nd hzm
        obtain ⟨okz, lenz⟩ := S.okL _ hm
        have SL26 := S24.sh.same s27
        have hno : z ∉ names rs := fun m => by
          rw [nm26] at m
          obtain ⟨j, hj, e⟩ := List.getElem_of_mem m
          rw [List.length_take] at hj
          rw [List.getElem_take] at e
          have e2 : zs[j]? = some z := by rw [List.getElem?_eq_getElem (by omega), e]
          have := nd_ix nd2 e2 hz
          omega
        have hrs : rs.length ≤ 5 := fit26.few
        obtain ⟨dx26, hx26⟩ := T26.ob
        have D26 : DAt H26 (shf rL z).1 (shf rL z).2 := SL26.at_ _ hm
        refine ⟨_, rfl, x2, dx26, _, rfl, hx26, no_fld d2 (by decide +kernel), _, rfl, _, rfl, _, rfl, sd, _, rfl, hdgL SL26 hzm, x2, d2, (shf rL z).1, rs, z, (shf rL z).2, rfl, T26, by omega, D26, okz.nd, Nat.le_trans lenz (by decide),
          fun q hq => .inl (okz.ok q hq), Nat.le_trans hgood.2 (by decide), fun h => absurd hgood h, fun _ h => absurd h (noA okz), fun _ _ h => absurd h hno, fun _ _ _ H27 a3 ha3 b27 T27 => ?_⟩
        have D27 : But d2 H26 H27 := b27
        obtain ⟨dx27, hx27⟩ := T27.ob
        refine ⟨_, _, rfl, rfl, _, rfl, ?_⟩
        refine ⟨_, rfl, x2, dx27, _, rfl, hx27, no_fld d2 (by decide +kernel), _, rfl, fun Dn hDn => ?_⟩
        have sDn : Same H27 (upd H27 Dn (.dK [])) := Same.upd hDn
        have hin : z ∈ names (rs ++ [(z, a3, (shf rL z).2)]) := by unfold names; rw [List.map_append]; exact List.mem_append_right _ List.mem_cons_self
        refine ⟨x2, d2, Dn, rs ++ [(z, a3, (shf rL z).2)], z, [], rfl, T27.same sDn, by rw [List.length_append]; show rs.length + 1 ≤ 50; omega, upd_same, List.nodup_nil, Nat.zero_le _, fun q hq => (by cases hq), Nat.le_trans hgood.2 (by decide),
          fun h => absurd hgood h, fun _ h => (by cases h), fun _ _ _ H28 s28 => ?_, fun _ _ h => absurd hin h⟩
        refine ⟨_, _, rfl, rfl, _, rfl, ?_⟩
        have T28 := (T27.same sDn).same s28
        have nm28 : names (rs ++ [(z, a3, (shf rL z).2)]) = zs.take (i + 1) := by
          rw [take_more hz, ← nm26]
          unfold names
          rw [List.map_append]
          rfl
        refine ⟨rs ++ [(z, a3, (shf rL z).2)], _, rfl, ?_, ?_, T28, nm28, ⟨?_, ?_⟩, fun k => ?_⟩
        · intro c o e
          have ne2 : c ≠ d2 := ne_of_none e hd2f
          exact s28 _ _ (sDn _ _ (b27 _ _ (s27 _ _ e) ne2))
        · exact s28 _ _ (sDn _ _ (b27 _ _ hq26 d2q3.symm))
        · rw [← names_length, nm28, List.length_take]
          omega
        · intro r hr
          rcases List.mem_append.mp hr with hr | hr
          · exact fit26.ok r hr
          · rw [List.mem_singleton.mp hr]; exact ⟨okz, lenz⟩
        · have e1 : shTot (rs ++ [(z, a3, (shf rL z).2)]) k = shTot rs k + gt (shf rL z).2 k := by
            unfold shTot
            rw [List.map_append, List.sum_append]
            simp
          rw [e1, tot26, take_more hz, List.map_append]
          unfold rowsTot
          rw [List.map_append, List.sum_append]
          simp
      · rintro σ H26 ⟨rs, v5, rfl, s27, hq26, T26, nm26, fit26, tot26⟩
        rw [List.length_map, List.take_length] at tot26
        obtain ⟨dx26, hx26⟩ := T26.ob
        refine ⟨_, rfl, x2, dx26, _, rfl, hx26, no_fld d2 (by decide +kernel), x2, d2, rs, rfl, T26, fit26, fun H27 p7 L7 s28 hp7 hL7 cL7 gL7 lL7 => ?_⟩
        obtain rfl : L7 = L6 := canon_ext cL7 cLt fun k => by rw [gL7, gS', tot26, tot_names S.sh.nd perm2, S.tot]
        exact ⟨_, rfl, p7, pS, L7, rfl, hL7, s28 _ _ (s27 _ _ (s23 _ _ (s22 _ _ D13))), by omega, fun H28 s29 => k _⟩
end
end KT

namespace KT
open PySem PySem.Spec PyProof.Rows L2
/-! ### what the top has written -/
theorem kit_true {K : PySem.W.Frag} {t : Value} {C : Addr} (h1 : PySem.W.isClsIn K C = true) (h2 : PySem.W.typeIn K (.ref C) = some (.type "type")) (h3 : PySem.W.subIn K t (.ref C) = some true) : PySem.W.kitOne K t (.ref C) = some true := by
  have e2 : ((PySem.W.clsIn K C).isSome && PySem.W.typeIn K (.ref C) == some (.type "type")) = true := by
    have h1' : (PySem.W.clsIn K C).isSome = true := h1
    rw [h1', h2] <;> rfl
  unfold PySem.W.kitOne
  split
  · rfl
  · show (if ((PySem.W.clsIn K C).isSome && PySem.W.typeIn K (.ref C) == some (.type "type")) = true then PySem.W.subIn K t (.ref C) else none) = some true
    rw [if_pos e2]
    exact h3
theorem all_mk {l : PySem.W.OpenLaw} {w : World} {K : PySem.W.Frag} {h : Heap} {mg : Str → Option Value} {fa : Addr} (X : K.In h) (G : h.Ns mainGlobals mg) (hfa : mg "law" = some (.ref fa))
    {f_isCode f_cc f_ord f_put f_rolled f_rollUp f_pool f_take f_code f_number f_counts f_sum f_alike f_isInt f_same f_told f_due f_law f_tI f_tLen f_tAdd f_tRem f_tTot f_tCmp f_bI f_cb C CB CS CQ Tb tp : Addr}
    {od_isCode an_isCode : Option Addr} {sl_isCode : Array (Option Value)} {oc_isCode kV_isCode dc_isCode pm_isCode cd_isCode ct_isCode : Value}
    {od_cc an_cc : Option Addr} {sl_cc : Array (Option Value)} {oc_cc kV_cc dc_cc pm_cc cd_cc ct_cc : Value}
    {od_ord an_ord : Option Addr} {sl_ord : Array (Option Value)} {oc_ord kV_ord dc_ord pm_ord cd_ord ct_ord : Value}
    {od_put an_put : Option Addr} {sl_put : Array (Option Value)} {oc_put kV_put dc_put pm_put cd_put ct_put : Value}
    {od_rolled an_rolled : Option Addr} {sl_rolled : Array (Option Value)} {oc_rolled kV_rolled dc_rolled pm_rolled cd_rolled ct_rolled : Value}
    {od_rollUp an_rollUp : Option Addr} {sl_rollUp : Array (Option Value)} {oc_rollUp kV_rollUp dc_rollUp pm_rollUp cd_rollUp ct_rollUp : Value}
    {od_pool an_pool : Option Addr} {sl_pool : Array (Option Value)} {oc_pool kV_pool dc_pool pm_pool cd_pool ct_pool : Value}
    {od_take an_take : Option Addr} {sl_take : Array (Option Value)} {oc_take kV_take dc_take pm_take cd_take ct_take : Value}
    {od_code an_code : Option Addr} {sl_code : Array (Option Value)} {oc_code kV_code dc_code pm_code cd_code ct_code : Value}
    {od_number an_number : Option Addr} {sl_number : Array (Option Value)} {oc_number kV_number dc_number pm_number cd_number ct_number : Value}
    {od_counts an_counts : Option Addr} {sl_counts : Array (Option Value)} {oc_counts kV_counts dc_counts pm_counts cd_counts ct_counts : Value}
    {od_sum an_sum : Option Addr} {sl_sum : Array (Option Value)} {oc_sum kV_sum dc_sum pm_sum cd_sum ct_sum : Value}
    {od_alike an_alike : Option Addr} {sl_alike : Array (Option Value)} {oc_alike kV_alike dc_alike pm_alike cd_alike ct_alike : Value}
    {od_isInt an_isInt : Option Addr} {sl_isInt : Array (Option Value)} {oc_isInt kV_isInt dc_isInt pm_isInt cd_isInt ct_isInt : Value}
    {od_same an_same : Option Addr} {sl_same : Array (Option Value)} {oc_same kV_same dc_same pm_same cd_same ct_same : Value}
    {od_told an_told : Option Addr} {sl_told : Array (Option Value)} {oc_told kV_told dc_told pm_told cd_told ct_told : Value}
    {od_due an_due : Option Addr} {sl_due : Array (Option Value)} {oc_due kV_due dc_due pm_due cd_due ct_due : Value}
    {od_law an_law : Option Addr} {sl_law : Array (Option Value)} {oc_law kV_law dc_law pm_law cd_law ct_law : Value}
    {od_cb an_cb : Option Addr} {sl_cb : Array (Option Value)} {oc_cb kV_cb dc_cb pm_cb cd_cb ct_cb : Value}
    {oc_Tb : Value} {od_Tb od_tp : Option Addr} {n_Tb n_tp : Nat} {sl_Tb sl_tp : Array (Option Value)} {its_Tb its_tp : Array Value}
    {od_tI an_tI : Option Addr} {sl_tI : Array (Option Value)} {oc_tI kV_tI dc_tI pm_tI cd_tI ct_tI : Value}
    {od_tLen an_tLen : Option Addr} {sl_tLen : Array (Option Value)} {oc_tLen kV_tLen dc_tLen pm_tLen cd_tLen ct_tLen : Value}
    {od_tAdd an_tAdd : Option Addr} {sl_tAdd : Array (Option Value)} {oc_tAdd kV_tAdd dc_tAdd pm_tAdd cd_tAdd ct_tAdd : Value}
    {od_tRem an_tRem : Option Addr} {sl_tRem : Array (Option Value)} {oc_tRem kV_tRem dc_tRem pm_tRem cd_tRem ct_tRem : Value}
    {od_tTot an_tTot : Option Addr} {sl_tTot : Array (Option Value)} {oc_tTot kV_tTot dc_tTot pm_tTot cd_tTot ct_tTot : Value}
    {od_tCmp an_tCmp : Option Addr} {sl_tCmp : Array (Option Value)} {oc_tCmp kV_tCmp dc_tCmp pm_tCmp cd_tCmp ct_tCmp : Value}
    {od_bI an_bI : Option Addr} {sl_bI : Array (Option Value)} {oc_bI kV_bI dc_bI pm_bI cd_bI ct_bI : Value}
    {nm q : Str} {N : Addr} {bs bm : List Value} {sn : List Str} {sub : List Value} {ab : Bool} {col : Option Bool} {dd : Option Addr} {m0 m1 m2 m3 m5 : Option Value}
    {tk_mostCode : Tok}
    {tk_mostCount : Tok}
    {tk_mostTotal : Tok}
    {tk_mostBills : Tok}
    {tk_mostDepth : Tok}
    {tk_mostSheets : Tok}
    {tk_mostName : Tok}
    {zl : Str} {tk_l : Tok}
    (aC : PySem.W.nsIn K mainGlobals "Tally" = some (some (.ref C)))
    (aCB : PySem.W.nsIn K mainGlobals "BadCounts" = some (some (.ref CB)))
    (aCS : PySem.W.nsIn K mainGlobals "BadSheet" = some (some (.ref CS)))
    (aCQ : PySem.W.nsIn K mainGlobals "QuayError" = some (some (.ref CQ)))
    (a_isCode : PySem.W.nsIn K mainGlobals "is_code" = some (some (.ref f_isCode)))
    (l_isCode : K.lookup f_isCode = some ⟨oc_isCode, od_isCode, .func (PySem.W.fnOf "is_code" "is_code" (defArgs sIsCode) (defBody sIsCode) (defScope sIsCode) .none kV_isCode dc_isCode pm_isCode an_isCode cd_isCode ct_isCode), sl_isCode⟩)
    (c_isCode : PySem.W.codeIn K cd_isCode "is_code" = true)
    (k_isCode : PySem.W.keepIn K (.ref f_isCode) = true)
    (a_cc : PySem.W.nsIn K mainGlobals "check_counts" = some (some (.ref f_cc)))
    (l_cc : K.lookup f_cc = some ⟨oc_cc, od_cc, .func (PySem.W.fnOf "check_counts" "check_counts" (defArgs sCheckCounts) (defBody sCheckCounts) (defScope sCheckCounts) .none kV_cc dc_cc pm_cc an_cc cd_cc ct_cc), sl_cc⟩)
    (c_cc : PySem.W.codeIn K cd_cc "check_counts" = true)
    (k_cc : PySem.W.keepIn K (.ref f_cc) = true)
    (a_ord : PySem.W.nsIn K mainGlobals "ordered" = some (some (.ref f_ord)))
    (l_ord : K.lookup f_ord = some ⟨oc_ord, od_ord, .func (PySem.W.fnOf "ordered" "ordered" (defArgs sOrdered) (defBody sOrdered) (defScope sOrdered) .none kV_ord dc_ord pm_ord an_ord cd_ord ct_ord), sl_ord⟩)
    (c_ord : PySem.W.codeIn K cd_ord "ordered" = true)
    (k_ord : PySem.W.keepIn K (.ref f_ord) = true)
    (a_put : PySem.W.nsIn K mainGlobals "put_together" = some (some (.ref f_put)))
    (l_put : K.lookup f_put = some ⟨oc_put, od_put, .func (PySem.W.fnOf "put_together" "put_together" (defArgs sPutTog) (defBody sPutTog) (defScope sPutTog) .none kV_put dc_put pm_put an_put cd_put ct_put), sl_put⟩)
    (c_put : PySem.W.codeIn K cd_put "put_together" = true)
    (k_put : PySem.W.keepIn K (.ref f_put) = true)
    (a_rolled : PySem.W.nsIn K mainGlobals "rolled" = some (some (.ref f_rolled)))
    (l_rolled : K.lookup f_rolled = some ⟨oc_rolled, od_rolled, .func (PySem.W.fnOf "rolled" "rolled" (defArgs sRolled) (defBody sRolled) (defScope sRolled) .none kV_rolled dc_rolled pm_rolled an_rolled cd_rolled ct_rolled), sl_rolled⟩)
    (c_rolled : PySem.W.codeIn K cd_rolled "rolled" = true)
    (k_rolled : PySem.W.keepIn K (.ref f_rolled) = true)
    (a_rollUp : PySem.W.nsIn K mainGlobals "roll_up" = some (some (.ref f_rollUp)))
    (l_rollUp : K.lookup f_rollUp = some ⟨oc_rollUp, od_rollUp, .func (PySem.W.fnOf "roll_up" "roll_up" (defArgs sRollUp) (defBody sRollUp) (defScope sRollUp) .none kV_rollUp dc_rollUp pm_rollUp an_rollUp cd_rollUp ct_rollUp), sl_rollUp⟩)
    (c_rollUp : PySem.W.codeIn K cd_rollUp "roll_up" = true)
    (k_rollUp : PySem.W.keepIn K (.ref f_rollUp) = true)
    (a_pool : PySem.W.nsIn K mainGlobals "_law_pool" = some (some (.ref f_pool)))
    (l_pool : K.lookup f_pool = some ⟨oc_pool, od_pool, .func (PySem.W.fnOf "_law_pool" "_law_pool" (defArgs sPool) (defBody sPool) (defScope sPool) .none kV_pool dc_pool pm_pool an_pool cd_pool ct_pool), sl_pool⟩)
    (c_pool : PySem.W.codeIn K cd_pool "_law_pool" = true)
    (k_pool : PySem.W.keepIn K (.ref f_pool) = true)
    (a_take : PySem.W.nsIn K mainGlobals "_law_take" = some (some (.ref f_take)))
    (l_take : K.lookup f_take = some ⟨oc_take, od_take, .func (PySem.W.fnOf "_law_take" "_law_take" (defArgs sTake) (defBody sTake) (defScope sTake) .none kV_take dc_take pm_take an_take cd_take ct_take), sl_take⟩)
    (c_take : PySem.W.codeIn K cd_take "_law_take" = true)
    (k_take : PySem.W.keepIn K (.ref f_take) = true)
    (a_code : PySem.W.nsIn K mainGlobals "_law_code" = some (some (.ref f_code)))
    (l_code : K.lookup f_code = some ⟨oc_code, od_code, .func (PySem.W.fnOf "_law_code" "_law_code" (defArgs sCode) (defBody sCode) (defScope sCode) .none kV_code dc_code pm_code an_code cd_code ct_code), sl_code⟩)
    (c_code : PySem.W.codeIn K cd_code "_law_code" = true)
    (k_code : PySem.W.keepIn K (.ref f_code) = true)
    (a_number : PySem.W.nsIn K mainGlobals "_law_number" = some (some (.ref f_number)))
    (l_number : K.lookup f_number = some ⟨oc_number, od_number, .func (PySem.W.fnOf "_law_number" "_law_number" (defArgs sNumber) (defBody sNumber) (defScope sNumber) .none kV_number dc_number pm_number an_number cd_number ct_number), sl_number⟩)
    (c_number : PySem.W.codeIn K cd_number "_law_number" = true)
    (k_number : PySem.W.keepIn K (.ref f_number) = true)
    (a_counts : PySem.W.nsIn K mainGlobals "_law_counts" = some (some (.ref f_counts)))
    (l_counts : K.lookup f_counts = some ⟨oc_counts, od_counts, .func (PySem.W.fnOf "_law_counts" "_law_counts" (defArgs sCounts) (defBody sCounts) (defScope sCounts) .none kV_counts dc_counts pm_counts an_counts cd_counts ct_counts), sl_counts⟩)
    (c_counts : PySem.W.codeIn K cd_counts "_law_counts" = true)
    (k_counts : PySem.W.keepIn K (.ref f_counts) = true)
    (a_sum : PySem.W.nsIn K mainGlobals "_law_sum" = some (some (.ref f_sum)))
    (l_sum : K.lookup f_sum = some ⟨oc_sum, od_sum, .func (PySem.W.fnOf "_law_sum" "_law_sum" (defArgs sSum) (defBody sSum) (defScope sSum) .none kV_sum dc_sum pm_sum an_sum cd_sum ct_sum), sl_sum⟩)
    (c_sum : PySem.W.codeIn K cd_sum "_law_sum" = true)
    (k_sum : PySem.W.keepIn K (.ref f_sum) = true)
    (a_alike : PySem.W.nsIn K mainGlobals "_law_alike" = some (some (.ref f_alike)))
    (l_alike : K.lookup f_alike = some ⟨oc_alike, od_alike, .func (PySem.W.fnOf "_law_alike" "_law_alike" (defArgs sAlike) (defBody sAlike) (defScope sAlike) .none kV_alike dc_alike pm_alike an_alike cd_alike ct_alike), sl_alike⟩)
    (c_alike : PySem.W.codeIn K cd_alike "_law_alike" = true)
    (k_alike : PySem.W.keepIn K (.ref f_alike) = true)
    (a_isInt : PySem.W.nsIn K mainGlobals "_law_is_integer" = some (some (.ref f_isInt)))
    (l_isInt : K.lookup f_isInt = some ⟨oc_isInt, od_isInt, .func (PySem.W.fnOf "_law_is_integer" "_law_is_integer" (defArgs sIsInt) (defBody sIsInt) (defScope sIsInt) .none kV_isInt dc_isInt pm_isInt an_isInt cd_isInt ct_isInt), sl_isInt⟩)
    (c_isInt : PySem.W.codeIn K cd_isInt "_law_is_integer" = true)
    (k_isInt : PySem.W.keepIn K (.ref f_isInt) = true)
    (a_same : PySem.W.nsIn K mainGlobals "_law_same" = some (some (.ref f_same)))
    (l_same : K.lookup f_same = some ⟨oc_same, od_same, .func (PySem.W.fnOf "_law_same" "_law_same" (defArgs sSame) (defBody sSame) (defScope sSame) .none kV_same dc_same pm_same an_same cd_same ct_same), sl_same⟩)
    (c_same : PySem.W.codeIn K cd_same "_law_same" = true)
    (k_same : PySem.W.keepIn K (.ref f_same) = true)
    (a_told : PySem.W.nsIn K mainGlobals "_law_told" = some (some (.ref f_told)))
    (l_told : K.lookup f_told = some ⟨oc_told, od_told, .func (PySem.W.fnOf "_law_told" "_law_told" (defArgs sTold) (defBody sTold) (defScope sTold) .none kV_told dc_told pm_told an_told cd_told ct_told), sl_told⟩)
    (c_told : PySem.W.codeIn K cd_told "_law_told" = true)
    (k_told : PySem.W.keepIn K (.ref f_told) = true)
    (a_due : PySem.W.nsIn K mainGlobals "_law_due" = some (some (.ref f_due)))
    (l_due : K.lookup f_due = some ⟨oc_due, od_due, .func (PySem.W.fnOf "_law_due" "_law_due" (defArgs sDue) (defBody sDue) (defScope sDue) .none kV_due dc_due pm_due an_due cd_due ct_due), sl_due⟩)
    (c_due : PySem.W.codeIn K cd_due "_law_due" = true)
    (k_due : PySem.W.keepIn K (.ref f_due) = true)
    (a_law : PySem.W.nsIn K mainGlobals "law" = some (some (.ref f_law)))
    (l_law : K.lookup f_law = some ⟨oc_law, od_law, .func (PySem.W.fnOf "law" "law" (defArgs sLaw) (defBody sLaw) (defScope sLaw) .none kV_law dc_law pm_law an_law cd_law ct_law), sl_law⟩)
    (c_law : PySem.W.codeIn K cd_law "law" = true)
    (k_law : PySem.W.keepIn K (.ref f_law) = true)
    (a_cb : PySem.W.nsIn K mainGlobals "check_bill" = some (some (.ref f_cb)))
    (l_cb : K.lookup f_cb = some ⟨oc_cb, od_cb, .func (PySem.W.fnOf "check_bill" "check_bill" (defArgs sCheckBill) (defBody sCheckBill) (defScope sCheckBill) (.ref Tb) kV_cb dc_cb pm_cb an_cb cd_cb ct_cb), sl_cb⟩)
    (c_cb : PySem.W.codeIn K cd_cb "check_bill" = true)
    (k_cb : PySem.W.keepIn K (.ref f_cb) = true)
    (lTb : K.lookup Tb = some ⟨oc_Tb, od_Tb, .seq its_Tb n_Tb, sl_Tb⟩)
    (eTb : its_Tb.toList = [.ref tp])
    (ltp : K.lookup tp = some ⟨.type "tuple", od_tp, .seq its_tp n_tp, sl_tp⟩)
    (etp : its_tp.toList = [])
    (a_tI : PySem.W.findIn K (.ref C) "__init__" = some (some (.ref f_tI)))
    (i_tI : PySem.W.isFn K (.ref f_tI) = true)
    (l_tI : K.lookup f_tI = some ⟨oc_tI, od_tI, .func (PySem.W.fnOf "__init__" "Tally.__init__" (defArgs sTI) (defBody sTI) (defScope sTI) .none kV_tI dc_tI pm_tI an_tI cd_tI ct_tI), sl_tI⟩)
    (c_tI : PySem.W.codeIn K cd_tI "Tally.__init__" = true)
    (k_tI : PySem.W.keepIn K (.ref f_tI) = true)
    (a_tLen : PySem.W.findIn K (.ref C) "__len__" = some (some (.ref f_tLen)))
    (i_tLen : PySem.W.isFn K (.ref f_tLen) = true)
    (l_tLen : K.lookup f_tLen = some ⟨oc_tLen, od_tLen, .func (PySem.W.fnOf "__len__" "Tally.__len__" (defArgs sTLen) (defBody sTLen) (defScope sTLen) .none kV_tLen dc_tLen pm_tLen an_tLen cd_tLen ct_tLen), sl_tLen⟩)
    (c_tLen : PySem.W.codeIn K cd_tLen "Tally.__len__" = true)
    (k_tLen : PySem.W.keepIn K (.ref f_tLen) = true)
    (a_tAdd : PySem.W.findIn K (.ref C) "add" = some (some (.ref f_tAdd)))
    (i_tAdd : PySem.W.isFn K (.ref f_tAdd) = true)
    (l_tAdd : K.lookup f_tAdd = some ⟨oc_tAdd, od_tAdd, .func (PySem.W.fnOf "add" "Tally.add" (defArgs sTAdd) (defBody sTAdd) (defScope sTAdd) .none kV_tAdd dc_tAdd pm_tAdd an_tAdd cd_tAdd ct_tAdd), sl_tAdd⟩)
    (c_tAdd : PySem.W.codeIn K cd_tAdd "Tally.add" = true)
    (k_tAdd : PySem.W.keepIn K (.ref f_tAdd) = true)
    (a_tRem : PySem.W.findIn K (.ref C) "remove" = some (some (.ref f_tRem)))
    (i_tRem : PySem.W.isFn K (.ref f_tRem) = true)
    (l_tRem : K.lookup f_tRem = some ⟨oc_tRem, od_tRem, .func (PySem.W.fnOf "remove" "Tally.remove" (defArgs sTRem) (defBody sTRem) (defScope sTRem) .none kV_tRem dc_tRem pm_tRem an_tRem cd_tRem ct_tRem), sl_tRem⟩)
    (c_tRem : PySem.W.codeIn K cd_tRem "Tally.remove" = true)
    (k_tRem : PySem.W.keepIn K (.ref f_tRem) = true)
    (a_tTot : PySem.W.findIn K (.ref C) "total" = some (some (.ref f_tTot)))
    (i_tTot : PySem.W.isFn K (.ref f_tTot) = true)
    (l_tTot : K.lookup f_tTot = some ⟨oc_tTot, od_tTot, .func (PySem.W.fnOf "total" "Tally.total" (defArgs sTTot) (defBody sTTot) (defScope sTTot) .none kV_tTot dc_tTot pm_tTot an_tTot cd_tTot ct_tTot), sl_tTot⟩)
    (c_tTot : PySem.W.codeIn K cd_tTot "Tally.total" = true)
    (k_tTot : PySem.W.keepIn K (.ref f_tTot) = true)
    (a_tCmp : PySem.W.findIn K (.ref C) "compare" = some (some (.ref f_tCmp)))
    (i_tCmp : PySem.W.isFn K (.ref f_tCmp) = true)
    (l_tCmp : K.lookup f_tCmp = some ⟨oc_tCmp, od_tCmp, .func (PySem.W.fnOf "compare" "Tally.compare" (defArgs sTCmp) (defBody sTCmp) (defScope sTCmp) .none kV_tCmp dc_tCmp pm_tCmp an_tCmp cd_tCmp ct_tCmp), sl_tCmp⟩)
    (c_tCmp : PySem.W.codeIn K cd_tCmp "Tally.compare" = true)
    (k_tCmp : PySem.W.keepIn K (.ref f_tCmp) = true)
    (a_bI : PySem.W.findIn K (.ref CB) "__init__" = some (some (.ref f_bI)))
    (i_bI : PySem.W.isFn K (.ref f_bI) = true)
    (l_bI : K.lookup f_bI = some ⟨oc_bI, od_bI, .func (PySem.W.fnOf "__init__" "BadCounts.__init__" (defArgs sBcI) (defBody sBcI) (defScope sBcI) .none kV_bI dc_bI pm_bI an_bI cd_bI ct_bI), sl_bI⟩)
    (c_bI : PySem.W.codeIn K cd_bI "BadCounts.__init__" = true)
    (k_bI : PySem.W.keepIn K (.ref f_bI) = true)
    (tBI : PySem.W.typeIn K (.ref f_bI) = some (.type "function"))
    (pg : PySem.W.plainGet K C Str.empty = true)
    (hd : PySem.W.hasDictIn K C = true)
    (po : PySem.W.plainOver K C = true)
    (sa : PySem.W.findIn K (.ref C) "__setattr__" = some (some (.builtin "object.__setattr__")))
    (mk : PySem.W.makesIn K C = true)
    (kc : PySem.W.keepIn K (.ref C) = true)
    (nK : PySem.W.findIn K (.ref C) "_sheets" = some none)
    (xB : K.lookup CB = some (excClassObj nm q CB N bs bm true sn sub ab col dd m0 m1 m2 m3 m5 "ValueError.__new__"))
    (vB : PySem.HandSPX.refsVE bm = true)
    (saB : PySem.W.findIn K (.ref CB) "__setattr__" = some (some (.builtin "object.__setattr__")))
    (gaB : PySem.W.findIn K (.ref CB) "__getattribute__" = some (some (.builtin "BaseException.__getattribute__")))
    (ggB : PySem.W.findIn K (.ref CB) "__getattr__" = some none)
    (nB : PySem.W.findIn K (.ref CB) "code" = some none)
    (sCB : PySem.W.subIn K (.ref CB) (.type "BaseException") = some true)
    (tCB : PySem.W.typeIn K (.ref CB) = some (.type "type"))
    (kCB : PySem.W.keepIn K (.ref CB) = true)
    (hCB : PySem.W.hasDictIn K CB = true)
    (sCS : PySem.W.subIn K (.ref CS) (.type "BaseException") = some true)
    (tCS : PySem.W.typeIn K (.ref CS) = some (.type "type"))
    (kCS : PySem.W.keepIn K (.ref CS) = true)
    (hCS : PySem.W.hasDictIn K CS = true)
    (xS : PySem.W.excIn K CS [.type "ValueError", .type "Exception", .type "BaseException", .type "object"] "ValueError.__new__" = true)
    (gaS : PySem.W.findIn K (.ref CS) "__getattribute__" = some (some (.builtin "BaseException.__getattribute__")))
    (ggS : PySem.W.findIn K (.ref CS) "__getattr__" = some none)
    (clS : PySem.W.findIn K (.ref CS) "__class__" = some (some (.builtin "object.__class__")))
    (gtS : PySem.W.specialIn K (.builtin "object.__class__") "__get__" = some (some (.builtin "getset_descriptor.__get__")))
    (tkS : PySem.W.takesIn K (.builtin "object.__class__") = some true)
    (mrS : PySem.W.mroIn K CS (.type "object") = some true)
    (subSS : PySem.W.subIn K (.ref CS) (.ref CS) = some true)
    (subBS : PySem.W.subIn K (.ref CB) (.ref CS) = some false)
    (subBB : PySem.W.subIn K (.ref CB) (.ref CB) = some true)
    (subSQ : PySem.W.subIn K (.ref CS) (.ref CQ) = some true)
    (isQ : PySem.W.isClsIn K CQ = true)
    (tQ : PySem.W.typeIn K (.ref CQ) = some (.type "type"))
    (z_len : PySem.W.nsIn K mainGlobals "len" = some none)
    (z_all : PySem.W.nsIn K mainGlobals "all" = some none)
    (z_sorted : PySem.W.nsIn K mainGlobals "sorted" = some none)
    (z_dict : PySem.W.nsIn K mainGlobals "dict" = some none)
    (z_list : PySem.W.nsIn K mainGlobals "list" = some none)
    (z_tuple : PySem.W.nsIn K mainGlobals "tuple" = some none)
    (z_range : PySem.W.nsIn K mainGlobals "range" = some none)
    (z_int : PySem.W.nsIn K mainGlobals "int" = some none)
    (z_str : PySem.W.nsIn K mainGlobals "str" = some none)
    (z_bool : PySem.W.nsIn K mainGlobals "bool" = some none)
    (z_isi : PySem.W.nsIn K mainGlobals "isinstance" = some none)
    (z_enum : PySem.W.nsIn K mainGlobals "enumerate" = some none)
    (n_mostCode : PySem.W.nsIn K mainGlobals "MOST_CODE" = some (some (.int 11 tk_mostCode)))
    (n_mostCount : PySem.W.nsIn K mainGlobals "MOST_COUNT" = some (some (.int 1000000 tk_mostCount)))
    (n_mostTotal : PySem.W.nsIn K mainGlobals "MOST_TOTAL" = some (some (.int 1000000000 tk_mostTotal)))
    (n_mostBills : PySem.W.nsIn K mainGlobals "MOST_BILLS" = some (some (.int 12 tk_mostBills)))
    (n_mostDepth : PySem.W.nsIn K mainGlobals "MOST_DEPTH" = some (some (.int 3 tk_mostDepth)))
    (n_mostSheets : PySem.W.nsIn K mainGlobals "MOST_SHEETS" = some (some (.int 100 tk_mostSheets)))
    (n_mostName : PySem.W.nsIn K mainGlobals "MOST_NAME" = some (some (.int 12 tk_mostName)))
    (n_l : PySem.W.nsIn K mainGlobals "CODE_LETTERS" = some (some (.str zl tk_l)))
    (e_l : zl = letters)
    : ∃ fd : FuncData, (∀ (s : Shared) (v : Value), BindsTo s fd ⟨[v], []⟩ [("_law_script", v)]) ∧ ∀ base : Heap, K.In base → base.Ns mainGlobals mg → FnOk l.prog w K mg base CX0 7 fa fd ["_law_script"] (spLaw K) := by
  have e := hfa.symm.trans (PySem.W.mg_of X G a_law)
  cases e
  have F_isCode := fun_mk (st := sIsCode) l_isCode c_isCode k_isCode
  have b_isCode := F_isCode.binds (ps := ["text"]) fun _ _ _ _ _ _ us hl => match us, hl with | [_], _ => rfl
  have F_cc := fun_mk (st := sCheckCounts) l_cc c_cc k_cc
  have b_cc := F_cc.binds (ps := ["counts"]) fun _ _ _ _ _ _ us hl => match us, hl with | [_], _ => rfl
  have F_ord := fun_mk (st := sOrdered) l_ord c_ord k_ord
  have b_ord := F_ord.binds (ps := ["counts"]) fun _ _ _ _ _ _ us hl => match us, hl with | [_], _ => rfl
  have F_put := fun_mk (st := sPutTog) l_put c_put k_put
  have b_put := F_put.binds (ps := ["first", "second"]) fun _ _ _ _ _ _ us hl => match us, hl with | [_, _], _ => rfl
  have F_rolled := fun_mk (st := sRolled) l_rolled c_rolled k_rolled
  have b_rolled := F_rolled.binds (ps := ["bill"]) fun _ _ _ _ _ _ us hl => match us, hl with | [_], _ => rfl
  have F_rollUp := fun_mk (st := sRollUp) l_rollUp c_rollUp k_rollUp
  have b_rollUp := F_rollUp.binds (ps := ["bill"]) fun _ _ _ _ _ _ us hl => match us, hl with | [_], _ => rfl
  have F_pool := fun_mk (st := sPool) l_pool c_pool k_pool
  have b_pool := F_pool.binds (ps := ["_law_script"]) fun _ _ _ _ _ _ us hl => match us, hl with | [_], _ => rfl
  have F_take := fun_mk (st := sTake) l_take c_take k_take
  have b_take := F_take.binds (ps := ["_law_pool_here", "_law_many"]) fun _ _ _ _ _ _ us hl => match us, hl with | [_, _], _ => rfl
  have F_code := fun_mk (st := sCode) l_code c_code k_code
  have b_code := F_code.binds (ps := ["_law_pool_here"]) fun _ _ _ _ _ _ us hl => match us, hl with | [_], _ => rfl
  have F_number := fun_mk (st := sNumber) l_number c_number k_number
  have b_number := F_number.binds (ps := ["_law_pool_here"]) fun _ _ _ _ _ _ us hl => match us, hl with | [_], _ => rfl
  have F_counts := fun_mk (st := sCounts) l_counts c_counts k_counts
  have b_counts := F_counts.binds (ps := ["_law_pool_here", "_law_most"]) fun _ _ _ _ _ _ us hl => match us, hl with | [_, _], _ => rfl
  have F_sum := fun_mk (st := sSum) l_sum c_sum k_sum
  have b_sum := F_sum.binds (ps := ["_law_rows"]) fun _ _ _ _ _ _ us hl => match us, hl with | [_], _ => rfl
  have F_alike := fun_mk (st := sAlike) l_alike c_alike k_alike
  have b_alike := F_alike.binds (ps := ["_law_actual", "_law_due_here"]) fun _ _ _ _ _ _ us hl => match us, hl with | [_, _], _ => rfl
  have F_isInt := fun_mk (st := sIsInt) l_isInt c_isInt k_isInt
  have b_isInt := F_isInt.binds (ps := ["_law_actual"]) fun _ _ _ _ _ _ us hl => match us, hl with | [_], _ => rfl
  have F_same := fun_mk (st := sSame) l_same c_same k_same
  have b_same := F_same.binds (ps := ["_law_actual", "_law_due_here"]) fun _ _ _ _ _ _ us hl => match us, hl with | [_, _], _ => rfl
  have F_told := fun_mk (st := sTold) l_told c_told k_told
  have b_told := F_told.binds (ps := ["_law_tally", "_law_name", "_law_counts_here"]) fun _ _ _ _ _ _ us hl => match us, hl with | [_, _, _], _ => rfl
  have F_due := fun_mk (st := sDue) l_due c_due k_due
  have b_due := F_due.binds (ps := ["_law_sheets", "_law_name", "_law_counts_here"]) fun _ _ _ _ _ _ us hl => match us, hl with | [_, _, _], _ => rfl
  have F_law := fun_mk (st := sLaw) l_law c_law k_law
  have b_law := F_law.binds (ps := ["_law_script"]) fun _ _ _ _ _ _ us hl => match us, hl with | [_], _ => rfl
  have F_tI := fun_mk (st := sTI) l_tI c_tI k_tI
  have b_tI := F_tI.binds (ps := ["self"]) fun _ _ _ _ _ _ us hl => match us, hl with | [_], _ => rfl
  have F_tLen := fun_mk (st := sTLen) l_tLen c_tLen k_tLen
  have b_tLen := F_tLen.binds (ps := ["self"]) fun _ _ _ _ _ _ us hl => match us, hl with | [_], _ => rfl
  have F_tAdd := fun_mk (st := sTAdd) l_tAdd c_tAdd k_tAdd
  have b_tAdd := F_tAdd.binds (ps := ["self", "name", "counts"]) fun _ _ _ _ _ _ us hl => match us, hl with | [_, _, _], _ => rfl
  have F_tRem := fun_mk (st := sTRem) l_tRem c_tRem k_tRem
  have b_tRem := F_tRem.binds (ps := ["self", "name"]) fun _ _ _ _ _ _ us hl => match us, hl with | [_, _], _ => rfl
  have F_tTot := fun_mk (st := sTTot) l_tTot c_tTot k_tTot
  have b_tTot := F_tTot.binds (ps := ["self"]) fun _ _ _ _ _ _ us hl => match us, hl with | [_], _ => rfl
  have F_tCmp := fun_mk (st := sTCmp) l_tCmp c_tCmp k_tCmp
  have b_tCmp := F_tCmp.binds (ps := ["self", "bill"]) fun _ _ _ _ _ _ us hl => match us, hl with | [_, _], _ => rfl
  have F_bI := fun_mk (st := sBcI) l_bI c_bI k_bI
  have b_bI := F_bI.binds (ps := ["self", "code"]) fun _ _ _ _ _ _ us hl => match us, hl with | [_, _], _ => rfl
  have M : Mg mg := { len := PySem.W.mg_none_of X G z_len, all := PySem.W.mg_none_of X G z_all, sorted := PySem.W.mg_none_of X G z_sorted, dict := PySem.W.mg_none_of X G z_dict, list := PySem.W.mg_none_of X G z_list, tuple := PySem.W.mg_none_of X G z_tuple, range := PySem.W.mg_none_of X G z_range, int := PySem.W.mg_none_of X G z_int, str := PySem.W.mg_none_of X G z_str, bool := PySem.W.mg_none_of X G z_bool, isi := PySem.W.mg_none_of X G z_isi, enum := PySem.W.mg_none_of X G z_enum, letters := ⟨_, PySem.W.mg_of X G n_l, tk_l, by rw [e_l]⟩, mostCode := ⟨_, PySem.W.mg_of X G n_mostCode, tk_mostCode, rfl⟩, mostCount := ⟨_, PySem.W.mg_of X G n_mostCount, tk_mostCount, rfl⟩, mostTotal := ⟨_, PySem.W.mg_of X G n_mostTotal, tk_mostTotal, rfl⟩, mostBills := ⟨_, PySem.W.mg_of X G n_mostBills, tk_mostBills, rfl⟩, mostDepth := ⟨_, PySem.W.mg_of X G n_mostDepth, tk_mostDepth, rfl⟩, mostSheets := ⟨_, PySem.W.mg_of X G n_mostSheets, tk_mostSheets, rfl⟩, mostName := ⟨_, PySem.W.mg_of X G n_mostName, tk_mostName, rfl⟩ }
  have TL : TlT K mg C := ⟨⟨pg, hd, po, sa⟩, nK⟩
  have BC : BcT K mg CB f_bI := ⟨PySem.W.mg_of X G aCB, ⟨⟨_, _, _, _, _, _, _, _, _, _, _, _, _, _, _, xB, vB⟩, saB, sCB, tCB, kCB⟩, nB, a_bI, tBI⟩
  have BS : BsT K mg CS := ⟨PySem.W.mg_of X G aCS, xS, kCS, sCS, tCS⟩
  have TD : TdT K mg CS CB CQ := ⟨PySem.W.mg_of X G aCS, PySem.W.mg_of X G aCB, ⟨_, PySem.W.mg_of X G aCQ, rfl⟩, PySem.W.exm_ref sCS hCS tCS subSS, PySem.W.exm_ref sCS hCS tCS subBS, PySem.W.exm_ref sCB hCB tCB subBB,
    ⟨gaS, ggS, sCS, hCS, clS, gtS, tkS, mrS⟩, ⟨gaB, ggB, sCB, hCB⟩, nB, kit_true isQ tQ subSQ⟩
  obtain rfl : its_Tb = [Value.ref tp].toArray := by rw [← eTb]
  have FB : CbFun K tp f_cb _ := ⟨⟨_, _, _, _, _, _, _, _, _, _, rfl, l_cb, c_cb, .inr ⟨by simp, Tb, _, [.ref tp], n_Tb, rfl, lTb, rfl, .cons rfl .nil⟩, .inl rfl⟩, k_cb⟩
  refine ⟨PySem.W.fnOf "law" "law" (defArgs sLaw) (defBody sLaw) (defScope sLaw) .none kV_law dc_law pm_law an_law cd_law ct_law, fun s v => .of_eq rfl, fun base _ _ => ?_⟩
  have G_isCode : Cl l.prog w K mg base CX0 1 "is_code" ["text"] spIsCode := ⟨_, _, PySem.W.mg_of X G a_isCode, k_isCode, ok_isCode F_isCode M, b_isCode⟩
  have G_cc : CCOk l.prog w K mg base CB := ⟨_, _, PySem.W.mg_of X G a_cc, k_cc, ok_checkCounts F_cc M BC G_isCode (ok_bcI F_bI BC) b_bI, b_cc⟩
  have G_ord : Cl l.prog w K mg base CX0 1 "ordered" ["counts"] _ := ⟨_, _, PySem.W.mg_of X G a_ord, k_ord, ok_ordered F_ord M, b_ord⟩
  have G_put : PutOk l.prog w K mg base := ⟨_, _, PySem.W.mg_of X G a_put, k_put, ok_putTog F_put M G_ord, b_put⟩
  have G_cb : CbOk l.prog w K mg base := by
    obtain ⟨ds, hv, hb⟩ := cb_binds1 FB
    exact ⟨tp, f_cb, _, ds, PySem.W.mg_of X G a_cb, k_cb, ok_checkBill FB k_cb (PySem.W.mg_of X G a_cb) M G_cc 2, hv, hb, fun H => .inr ⟨_, its_tp, n_tp, ltp, rfl, rfl, by rw [← Array.length_toList, etp]; exact Nat.zero_le _, by rw [etp]; exact .nil⟩⟩
  have G_rolled : Cl l.prog w K mg base CX0 4 "rolled" ["bill"] (spRolled 2) := ⟨_, _, PySem.W.mg_of X G a_rolled, k_rolled, ok_rolled F_rolled b_rolled (PySem.W.mg_of X G a_rolled) G_put 2, b_rolled⟩
  have G_rollUp : Cl l.prog w K mg base CX0 6 "roll_up" ["bill"] (spRolled 2) := ⟨_, _, PySem.W.mg_of X G a_rollUp, k_rollUp, ok_rollUp F_rollUp G_cb G_rolled, b_rollUp⟩
  have G_pool : Cl l.prog w K mg base CX0 1 "_law_pool" ["_law_script"] (spPool K) := ⟨_, _, PySem.W.mg_of X G a_pool, k_pool, ok_pool F_pool, b_pool⟩
  have G_take : TakeOk l.prog w K mg base := ⟨_, _, PySem.W.mg_of X G a_take, k_take, ok_take F_take M ⟨_, _, PySem.W.mg_of X G a_take, k_take, ok_takeR F_take M, b_take⟩, b_take⟩
  have G_number : NumberOk l.prog w K mg base := ⟨_, _, PySem.W.mg_of X G a_number, k_number, ok_number F_number G_take, b_number⟩
  have G_code : CodeOk l.prog w K mg base := ⟨_, _, PySem.W.mg_of X G a_code, k_code, ok_code F_code M G_take, b_code⟩
  have G_counts : Cl l.prog w K mg base CX0 4 "_law_counts" ["_law_pool_here", "_law_most"] spCounts := ⟨_, _, PySem.W.mg_of X G a_counts, k_counts, ok_counts F_counts M G_take G_number G_code, b_counts⟩
  have G_sum : Cl l.prog w K mg base CX0 1 "_law_sum" ["_law_rows"] (spSum K) := ⟨_, _, PySem.W.mg_of X G a_sum, k_sum, ok_sum F_sum M, b_sum⟩
  have G_isInt : Cl l.prog w K mg base CX0 1 "_law_is_integer" ["_law_actual"] spIsInt := ⟨_, _, PySem.W.mg_of X G a_isInt, k_isInt, ok_isInt F_isInt M, b_isInt⟩
  have G_same : Cl l.prog w K mg base CX0 4 "_law_same" ["_law_actual", "_law_due_here"] (spSame 3) := ⟨_, _, PySem.W.mg_of X G a_same, k_same, ok_same F_same b_same (PySem.W.mg_of X G a_same) M G_isInt 3, b_same⟩
  have G_alike : Cl l.prog w K mg base CX0 5 "_law_alike" ["_law_actual", "_law_due_here"] spAlike := ⟨_, _, PySem.W.mg_of X G a_alike, k_alike, ok_alike F_alike M G_same, b_alike⟩
  have G_due : Cl l.prog w K mg base CX0 1 "_law_due" ["_law_sheets", "_law_name", "_law_counts_here"] spDue := ⟨_, _, PySem.W.mg_of X G a_due, k_due, ok_due F_due M, b_due⟩
  have O_add := ok_tAdd (P := l.prog) (w := w) (mg := mg) (base := base) (CB := CB) F_tAdd M TL BS G_cc
  have O_tot := ok_tTot (P := l.prog) (w := w) (mg := mg) (base := base) F_tTot TL G_put
  have m_add : Meth K C "add" f_tAdd := ⟨a_tAdd, i_tAdd, k_tAdd⟩
  have m_tot : Meth K C "total" f_tTot := ⟨a_tTot, i_tTot, k_tTot⟩
  have G_told : Cl l.prog w K mg base CX0 5 "_law_told" ["_law_tally", "_law_name", "_law_counts_here"] (spTold C) := ⟨_, _, PySem.W.mg_of X G a_told, k_told, ok_told F_told M TL TD m_add O_add b_tAdd, b_told⟩
  have TT : TaT l.prog w K mg base C CB CS := ⟨PySem.W.mg_of X G aC, ⟨f_tI, _, ⟨mk, a_tI, i_tI, kc⟩, ok_tI F_tI TL, b_tI⟩, ⟨f_tLen, _, a_tLen, i_tLen, ok_tLen F_tLen M TL, b_tLen⟩,
    ⟨f_tAdd, _, m_add, O_add, b_tAdd⟩, ⟨f_tRem, _, ⟨a_tRem, i_tRem, k_tRem⟩, ok_tRem F_tRem TL, b_tRem⟩, ⟨f_tTot, _, m_tot, O_tot, b_tTot⟩,
    ⟨f_tCmp, _, ⟨a_tCmp, i_tCmp, k_tCmp⟩, ok_tCmp F_tCmp TL G_put G_cb G_rolled m_tot O_tot b_tTot, b_tCmp⟩⟩
  exact ok_law F_law M TL TT ⟨G_pool, G_take, G_counts, G_same, G_told, G_due, G_sum, G_alike, G_rollUp⟩
theorem walk {l : PySem.W.OpenLaw} {q : Program} {loose : List Str} {XP : (Str → Option Value) → Heap → Prop} {YP : World → Heap → Prop} {d : DefRec} {K : Params → PySem.W.Frag} (hn : l.most = some 63) (hdf : d.params.defaults = [])
    (hY : ∀ (w : World) (h : Heap), YP w h → (K w.params).In h)
    (F : ∀ (w : World) (mg : Str → Option Value) (fa : Addr) (h : Heap), (K w.params).In h → h.Ns mainGlobals mg → mg d.name = some (.ref fa) →
      ∃ fd : FuncData, (∀ (s : Shared) (u : Value), BindsTo s fd ⟨[u], []⟩ [("_law_script", u)]) ∧ ∀ base : Heap, (K w.params).In base → base.Ns mainGlobals mg → FnOk l.prog w (K w.params) mg base CX0 7 fa fd ["_law_script"] (spLaw (K w.params))) :
    PySem.W.WalkO q loose XP YP l.row.toRowW d [] (fun f vs => PySem.call f vs) :=
  L2.walk_of (n := 63) (k := 7) (x := "_law_script") (CX := fun _ => CX0) (sp := fun w => spLaw (K w.params)) hn (by decide) hdf ⟨rfl, by decide, by decide⟩ hY F (fun _ _ a ns hl _ hS => ⟨a, ns, rfl, hS, hl, fun _ => rfl⟩) fun _ _ _ _ _ z => z
end KT

open PySem PySem.W PyProof.Rows
set_option maxRecDepth 100000 in
set_option maxHeartbeats 0 in
theorem PySem.Challenge.cw_quaybest_k64_whole_tallies_holds : PySem.Challenge.rw_quaybest_k64_whole_tallies.Holds := by
  w_on; o_law; k_head; (case hw => w_witness2)
  k_fill
  refine KT.walk (l := PySem.Challenge.rw_quaybest_k64_whole_tallies) rfl rfl (fun w h Y => PySem.W.kIn_of Y) ?F
  case F =>
    intro w mg fa h KX G hmg
    refine' KT.all_mk KX G hmg ?aC ?aCB ?aCS ?aCQ ?a_isCode ?l_isCode ?c_isCode ?k_isCode ?a_cc ?l_cc ?c_cc ?k_cc ?a_ord ?l_ord ?c_ord ?k_ord ?a_put ?l_put ?c_put ?k_put ?a_rolled ?l_rolled ?c_rolled ?k_rolled ?a_rollUp ?l_rollUp ?c_rollUp ?k_rollUp ?a_pool ?l_pool ?c_pool ?k_pool ?a_take ?l_take ?c_take ?k_take ?a_code ?l_code ?c_code ?k_code ?a_number ?l_number ?c_number ?k_number ?a_counts ?l_counts ?c_counts ?k_counts ?a_sum ?l_sum ?c_sum ?k_sum ?a_alike ?l_alike ?c_alike ?k_alike ?a_isInt ?l_isInt ?c_isInt ?k_isInt ?a_same ?l_same ?c_same ?k_same ?a_told ?l_told ?c_told ?k_told ?a_due ?l_due ?c_due ?k_due ?a_law ?l_law ?c_law ?k_law ?a_cb ?l_cb ?c_cb ?k_cb ?lTb ?eTb ?ltp ?etp ?a_tI ?i_tI ?l_tI ?c_tI ?k_tI ?a_tLen ?i_tLen ?l_tLen ?c_tLen ?k_tLen ?a_tAdd ?i_tAdd ?l_tAdd ?c_tAdd ?k_tAdd ?a_tRem ?i_tRem ?l_tRem ?c_tRem ?k_tRem ?a_tTot ?i_tTot ?l_tTot ?c_tTot ?k_tTot ?a_tCmp ?i_tCmp ?l_tCmp ?c_tCmp ?k_tCmp ?a_bI ?i_bI ?l_bI ?c_bI ?k_bI ?tBI ?pg ?hd ?po ?sa ?mk ?kc ?nK ?xB ?vB ?saB ?gaB ?ggB ?nB ?sCB ?tCB ?kCB ?hCB ?sCS ?tCS ?kCS ?hCS ?xS ?gaS ?ggS ?clS ?gtS ?tkS ?mrS ?subSS ?subBS ?subBB ?subSQ ?isQ ?tQ ?z_len ?z_all ?z_sorted ?z_dict ?z_list ?z_tuple ?z_range ?z_int ?z_str ?z_bool ?z_isi ?z_enum ?n_mostCode ?n_mostCount ?n_mostTotal ?n_mostBills ?n_mostDepth ?n_mostSheets ?n_mostName ?n_l ?e_l
    (case aC => k_is); (case aCB => k_is); (case aCS => k_is); (case aCQ => k_is); (case a_isCode => k_is)
    (case l_isCode => k_is); (case c_isCode => k_is); (case k_isCode => k_is); (case a_cc => k_is); (case l_cc => k_is)
    (case c_cc => k_is); (case k_cc => k_is); (case a_ord => k_is); (case l_ord => k_is); (case c_ord => k_is)
    (case k_ord => k_is); (case a_put => k_is); (case l_put => k_is); (case c_put => k_is); (case k_put => k_is)
    (case a_rolled => k_is); (case l_rolled => k_is); (case c_rolled => k_is); (case k_rolled => k_is); (case a_rollUp => k_is)
    (case l_rollUp => k_is); (case c_rollUp => k_is); (case k_rollUp => k_is); (case a_pool => k_is); (case l_pool => k_is)
    (case c_pool => k_is); (case k_pool => k_is); (case a_take => k_is); (case l_take => k_is); (case c_take => k_is)
    (case k_take => k_is); (case a_code => k_is); (case l_code => k_is); (case c_code => k_is); (case k_code => k_is)
    (case a_number => k_is); (case l_number => k_is); (case c_number => k_is); (case k_number => k_is); (case a_counts => k_is)
    (case l_counts => k_is); (case c_counts => k_is); (case k_counts => k_is); (case a_sum => k_is); (case l_sum => k_is)
    (case c_sum => k_is); (case k_sum => k_is); (case a_alike => k_is); (case l_alike => k_is); (case c_alike => k_is)
    (case k_alike => k_is); (case a_isInt => k_is); (case l_isInt => k_is); (case c_isInt => k_is); (case k_isInt => k_is)
    (case a_same => k_is); (case l_same => k_is); (case c_same => k_is); (case k_same => k_is); (case a_told => k_is)
    (case l_told => k_is); (case c_told => k_is); (case k_told => k_is); (case a_due => k_is); (case l_due => k_is)
    (case c_due => k_is); (case k_due => k_is); (case a_law => k_is); (case l_law => k_is); (case c_law => k_is)
    (case k_law => k_is); (case a_cb => k_is); (case l_cb => k_is); (case c_cb => k_is); (case k_cb => k_is)
    (case lTb => k_is); (case eTb => rfl); (case ltp => k_is); (case etp => rfl); (case a_tI => k_is)
    (case i_tI => k_is); (case l_tI => k_is); (case c_tI => k_is); (case k_tI => k_is); (case a_tLen => k_is)
    (case i_tLen => k_is); (case l_tLen => k_is); (case c_tLen => k_is); (case k_tLen => k_is); (case a_tAdd => k_is)
    (case i_tAdd => k_is); (case l_tAdd => k_is); (case c_tAdd => k_is); (case k_tAdd => k_is); (case a_tRem => k_is)
    (case i_tRem => k_is); (case l_tRem => k_is); (case c_tRem => k_is); (case k_tRem => k_is); (case a_tTot => k_is)
    (case i_tTot => k_is); (case l_tTot => k_is); (case c_tTot => k_is); (case k_tTot => k_is); (case a_tCmp => k_is)
    (case i_tCmp => k_is); (case l_tCmp => k_is); (case c_tCmp => k_is); (case k_tCmp => k_is); (case a_bI => k_is)
    (case i_bI => k_is); (case l_bI => k_is); (case c_bI => k_is); (case k_bI => k_is); (case tBI => k_is)
    (case pg => k_is); (case hd => k_is); (case po => k_is); (case sa => k_is); (case mk => k_is)
    (case kc => k_is); (case nK => k_is); (case xB => k_is); (case vB => decide +kernel); (case saB => k_is)
    (case gaB => k_is); (case ggB => k_is); (case nB => k_is); (case sCB => k_is); (case tCB => k_is)
    (case kCB => k_is); (case hCB => k_is); (case sCS => k_is); (case tCS => k_is); (case kCS => k_is)
    (case hCS => k_is); (case xS => k_exc); (case gaS => k_is); (case ggS => k_is); (case clS => k_is)
    (case gtS => k_is); (case tkS => k_is); (case mrS => k_is); (case subSS => first | rfl | k_is); (case subBS => k_is)
    (case subBB => first | rfl | k_is); (case subSQ => k_is); (case isQ => k_is); (case tQ => k_is); (case z_len => k_is)
    (case z_all => k_is); (case z_sorted => k_is); (case z_dict => k_is); (case z_list => k_is); (case z_tuple => k_is)
    (case z_range => k_is); (case z_int => k_is); (case z_str => k_is); (case z_bool => k_is); (case z_isi => k_is)
    (case z_enum => k_is); (case n_mostCode => k_is); (case n_mostCount => k_is); (case n_mostTotal => k_is); (case n_mostBills => k_is)
    (case n_mostDepth => k_is); (case n_mostSheets => k_is); (case n_mostName => k_is); (case n_l => k_is); (case e_l => first | rfl | decide +kernel)
