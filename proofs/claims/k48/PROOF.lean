import PyProof.Rows.All
import Wide.All
import OpenK.AllK
import Wide.FinOn
import HandS.ForMost
import HandS.Style
import HandS.TupAny
import HandS.TupMul
import KE.KTupSum
import HandS.Zip
import HandS.Star
import HandS.Conv
import HandS.Flow
import HandS.IsInst
import HandS.SetFor
import PySem.Challenge.RW_startgaps_k48_whole_waits_from_the_end
set_option Elab.async false
set_option linter.all false
set_option maxRecDepth 100000
set_option maxHeartbeats 4000000
/-! The plain law: words, waits, what is clean, the least sum. -/
namespace Sg

/-! ### pigeonholes -/
theorem nodup_len {α : Type} [DecidableEq α] : ∀ (L M : List α), L.Nodup → (∀ a ∈ L, a ∈ M) → L.length ≤ M.length
  | [], M, _, _ => Nat.zero_le _
  | a :: L, M, hn, hs => by
    have hn' := List.nodup_cons.mp hn
    have ha : a ∈ M := hs a (by simp)
    have h := nodup_len L (M.erase a) hn'.2 (fun b hb => (List.mem_erase_of_ne (fun (e : b = a) => hn'.1 (e ▸ hb))).mpr (hs b (by simp [hb])))
    rw [List.length_erase_of_mem ha] at h
    have : 0 < M.length := List.length_pos_of_mem ha
    show L.length + 1 ≤ M.length
    omega
theorem holes {R : Nat → Nat → Prop} : ∀ (d : Nat) (L : List Nat), (∀ k, k < d → ∃ i ∈ L, R k i) → (∀ k k' i, k < d → k' < d → R k i → R k' i → k = k') → d ≤ L.length
  | 0, _, _, _ => Nat.zero_le _
  | d + 1, L, h, hi => by
    obtain ⟨i, hm, hr⟩ := h d (by omega)
    have g := holes d (L.erase i) (fun k hk => by
      obtain ⟨j, hj, hrj⟩ := h k (by omega)
      refine ⟨j, (List.mem_erase_of_ne (fun e => ?_)).mpr hj, hrj⟩
      subst e
      have := hi k d j (by omega) (by omega) hrj hr
      omega) (fun k k' j a b => hi k k' j (by omega) (by omega))
    rw [List.length_erase_of_mem hm] at g
    have : 0 < L.length := List.length_pos_of_mem hm
    omega

/-! ### places of a station -/
def pos (x : Int) : Nat → List Int → List Nat
  | _, [] => []
  | o, y :: s => if y = x then o :: pos x (o + 1) s else pos x (o + 1) s
theorem pos_len (x : Int) : ∀ (o : Nat) (s : List Int), (pos x o s).length = s.count x
  | _, [] => rfl
  | o, y :: s => by
    unfold pos
    rw [List.count_cons]
    have h := pos_len x (o + 1) s
    by_cases e : y = x
    · simp [e, h]
    · simp [e, h]
theorem pos_mem (x : Int) : ∀ (o : Nat) (s : List Int) (i : Nat), i ∈ pos x o s ↔ o ≤ i ∧ s[i - o]? = some x
  | o, [], i => by simp [pos]
  | o, y :: s, i => by
    have h := pos_mem x (o + 1) s i
    unfold pos
    by_cases e : y = x
    · rw [if_pos e, List.mem_cons, h]
      constructor
      · rintro (rfl | ⟨h1, h2⟩)
        · simp [e]
        · refine ⟨by omega, ?_⟩
          rw [show i - o = (i - (o + 1)) + 1 by omega, List.getElem?_cons_succ]
          exact h2
      · rintro ⟨h1, h2⟩
        by_cases hi : i = o
        · exact .inl hi
        · right
          refine ⟨by omega, ?_⟩
          rw [show i - o = (i - (o + 1)) + 1 by omega, List.getElem?_cons_succ] at h2
          exact h2
    · rw [if_neg e, h]
      constructor
      · rintro ⟨h1, h2⟩
        refine ⟨by omega, ?_⟩
        rw [show i - o = (i - (o + 1)) + 1 by omega, List.getElem?_cons_succ]
        exact h2
      · rintro ⟨h1, h2⟩
        by_cases hi : i = o
        · subst hi
          rw [Nat.sub_self, List.getElem?_cons_zero] at h2
          exact absurd (Option.some.inj h2) e
        · refine ⟨by omega, ?_⟩
          rw [show i - o = (i - (o + 1)) + 1 by omega, List.getElem?_cons_succ] at h2
          exact h2
theorem pos_nodup (x : Int) : ∀ (o : Nat) (s : List Int), (pos x o s).Nodup
  | _, [] => List.nodup_nil
  | o, y :: s => by
    unfold pos
    by_cases e : y = x
    · rw [if_pos e]
      refine List.nodup_cons.mpr ⟨fun h => ?_, pos_nodup x (o + 1) s⟩
      have := ((pos_mem x (o + 1) s o).mp h).1
      omega
    · rw [if_neg e]
      exact pos_nodup x (o + 1) s

/-! ### what is clean -/
/-- no two ticks at one station at a multiple of d -/
def Clean (d : Int) (s : List Int) : Prop := ∀ (i j : Nat) (x : Int), i < j → s[i]? = some x → s[j]? = some x → x ≠ -1 → ((j : Int) - i) % d ≠ 0

theorem clean_count {d : Int} {s : List Int} {x : Int} (hd : 0 < d) (hx : x ≠ -1) (h : Clean d s) : (s.count x : Int) ≤ d := by
  have e : (((pos x 0 s).map (fun i => i % d.toNat))).length ≤ (List.range d.toNat).length := by
    refine nodup_len _ _ ?_ ?_
    · have hp := pos_nodup x 0 s
      have key : ∀ L : List Nat, L.Nodup → (∀ i ∈ L, s[i]? = some x) → (L.map (fun i => i % d.toNat)).Nodup := by
        intro L
        induction L with
        | nil => intro _ _; exact List.nodup_nil
        | cons a L ih =>
          intro hn hm
          have hn' := List.nodup_cons.mp hn
          rw [List.map_cons]
          refine List.nodup_cons.mpr ⟨fun hc => ?_, ih hn'.2 fun i hi => hm i (by simp [hi])⟩
          obtain ⟨b, hb, eb⟩ := List.mem_map.mp hc
          have ha := hm a (by simp)
          have hb' := hm b (by simp [hb])
          have hab : a ≠ b := fun e => hn'.1 (e ▸ hb)
          have em : (a : Int) % d = (b : Int) % d := by
            have := congrArg (fun n : Nat => (n : Int)) eb
            simp only [Int.natCast_emod, Int.toNat_of_nonneg (Int.le_of_lt hd)] at this
            exact this.symm
          rcases Nat.lt_or_gt_of_ne hab with l | l
          · exact h a b x l ha hb' hx (Int.emod_eq_emod_iff_emod_sub_eq_zero.mp em.symm)
          · exact h b a x l hb' ha hx (Int.emod_eq_emod_iff_emod_sub_eq_zero.mp em)
      refine key _ hp fun i hi => ?_
      have := (pos_mem x 0 s i).mp hi
      exact this.2
    · intro a ha
      obtain ⟨b, hb, eb⟩ := List.mem_map.mp ha
      rw [List.mem_range, ← eb]
      exact Nat.mod_lt _ (by omega)
  rw [List.length_map, pos_len, List.length_range] at e
  omega

/-- one more station, behind k empty ticks -/
theorem clean_snoc {d : Int} {s : List Int} {x : Int} {k : Nat} (hx : x ≠ -1) (h : Clean d s) :
    Clean d (s ++ List.replicate k (-1) ++ [x]) ↔ ∀ i : Nat, s[i]? = some x → (((s.length + k : Nat) : Int) - i) % d ≠ 0 := by
  have hl : (s ++ List.replicate k (-1)).length = s.length + k := by simp
  constructor
  · intro c i hi
    have hi' : i < s.length := (List.getElem?_eq_some_iff.mp hi).1
    refine c i (s.length + k) x (by omega) ?_ ?_ hx
    · rw [List.append_assoc, List.getElem?_append_left hi']; exact hi
    · rw [List.getElem?_append_right (by omega), hl, Nat.sub_self]; rfl
  · intro c i j y hij hi hj hy
    have get : ∀ m : Nat, (s ++ List.replicate k (-1) ++ [x])[m]? = some y → (m < s.length ∧ s[m]? = some y) ∨ (m = s.length + k ∧ y = x) := by
      intro m hm
      by_cases h1 : m < s.length
      · rw [List.append_assoc, List.getElem?_append_left h1] at hm
        exact .inl ⟨h1, hm⟩
      · by_cases h2 : m < s.length + k
        · rw [List.getElem?_append_left (by omega), List.getElem?_append_right (by omega), List.getElem?_replicate, if_pos (by omega)] at hm
          exact absurd (Option.some.inj hm).symm hy
        · rw [List.getElem?_append_right (by omega), hl] at hm
          by_cases h3 : m = s.length + k
          · subst h3
            rw [Nat.sub_self, List.getElem?_cons_zero] at hm
            exact .inr ⟨rfl, (Option.some.inj hm).symm⟩
          · rw [show m - (s.length + k) = (m - (s.length + k) - 1) + 1 by omega, List.getElem?_cons_succ] at hm
            simp at hm
    rcases get i hi with ⟨i1, i2⟩ | ⟨i1, i2⟩
    · rcases get j hj with ⟨j1, j2⟩ | ⟨j1, j2⟩
      · exact h i j y hij i2 j2 hy
      · subst j1 j2
        exact c i i2
    · rcases get j hj with ⟨j1, j2⟩ | ⟨j1, j2⟩ <;> omega
theorem clean_gap {d : Int} {s : List Int} {k : Nat} (h : Clean d s) : Clean d (s ++ List.replicate k (-1) ++ [-1]) := by
  intro i j y hij hi hj hy
  have get : ∀ m : Nat, (s ++ List.replicate k (-1) ++ [-1])[m]? = some y → s[m]? = some y := by
    intro m hm
    have e : s ++ List.replicate k (-1) ++ [-1] = s ++ List.replicate (k + 1) (-1) := by
      rw [List.append_assoc, List.replicate_succ']
    rw [e] at hm
    by_cases h1 : m < s.length
    · rw [List.getElem?_append_left h1] at hm
      exact hm
    · rw [List.getElem?_append_right (by omega), List.getElem?_replicate] at hm
      split at hm
      · exact absurd (Option.some.inj hm).symm hy
      · cases hm
  exact h i j y hij (get i hi) (get j hj) hy
theorem clean_left {d : Int} {s t : List Int} (h : Clean d (s ++ t)) : Clean d s := by
  intro i j y hij hi hj hy
  have hi' := (List.getElem?_eq_some_iff.mp hi).1
  have hj' := (List.getElem?_eq_some_iff.mp hj).1
  exact h i j y hij (by rw [List.getElem?_append_left hi']; exact hi) (by rw [List.getElem?_append_left hj']; exact hj) hy
theorem clean_rev {d : Int} {s : List Int} (h : Clean d s) : Clean d s.reverse := by
  intro i j y hij hi hj hy
  have hi' := (List.getElem?_eq_some_iff.mp hi).1
  have hj' := (List.getElem?_eq_some_iff.mp hj).1
  rw [List.length_reverse] at hi' hj'
  rw [List.getElem?_reverse hi'] at hi
  rw [List.getElem?_reverse hj'] at hj
  have := h (s.length - 1 - j) (s.length - 1 - i) y (by omega) hj hi hy
  rwa [show (((s.length - 1 - i : Nat) : Int) - ((s.length - 1 - j : Nat) : Int)) = (j : Int) - i by omega] at this
theorem clean_one {d : Int} {x : Int} : Clean d [x] := by
  intro i j y hij hi hj hy
  have hi' := (List.getElem?_eq_some_iff.mp hi).1
  have hj' := (List.getElem?_eq_some_iff.mp hj).1
  simp at hi' hj'
  omega
/-- some wait below d does -/
theorem clean_more {d : Int} {s : List Int} {x : Int} (hd : 0 < d) (h : Clean d s) (hc : x ≠ -1 → (s.count x : Int) < d) : ∃ k : Nat, (k : Int) < d ∧ Clean d (s ++ List.replicate k (-1) ++ [x]) := by
  by_cases hx : x = -1
  · subst hx
    exact ⟨0, by omega, clean_gap h⟩
  · apply Classical.byContradiction
    intro hno
    have hno' : ∀ k : Nat, (k : Int) < d → ∃ i : Nat, s[i]? = some x ∧ (((s.length + k : Nat) : Int) - i) % d = 0 := by
      intro k hk
      apply Classical.byContradiction
      intro hh
      refine hno ⟨k, hk, (clean_snoc hx h).mpr fun i hi e => hh ⟨i, hi, e⟩⟩
    have g := holes (R := fun k i => (((s.length + k : Nat) : Int) - i) % d = 0) d.toNat (pos x 0 s) (fun k hk => by
      obtain ⟨i, hi, e⟩ := hno' k (by omega)
      exact ⟨i, (pos_mem x 0 s i).mpr ⟨Nat.zero_le _, hi⟩, e⟩) (fun k k' i hk hk' e e' => by
        have e2 : ((((s.length + k : Nat) : Int) - i) - (((s.length + k' : Nat) : Int) - i)) % d = 0 := by
          rw [Int.sub_emod, e, e']; simp
        have e3 : ((((s.length + k : Nat) : Int) - i) - (((s.length + k' : Nat) : Int) - i)) = (k : Int) - k' := by omega
        rw [e3] at e2
        have e4 := Int.emod_eq_emod_iff_emod_sub_eq_zero.mpr e2
        rw [Int.emod_eq_of_lt (by omega) (by omega), Int.emod_eq_of_lt (by omega) (by omega)] at e4
        omega)
    rw [pos_len] at g
    have := hc hx
    omega

/-! ### words stretched by waits -/
def stF : List Int → List Int → List Int
  | x :: r, k :: ws => List.replicate k.toNat (-1) ++ (x :: stF r ws)
  | _, _ => []
def stretchedF (w ws : List Int) : List Int := w.take 1 ++ stF (w.drop 1) ws
theorem stF_nil (ws : List Int) : stF [] ws = [] := by cases ws <;> rfl
theorem stF_nil' (r : List Int) : stF r [] = [] := by cases r <;> rfl
theorem stF_append : ∀ (r ws r' ws' : List Int), r.length = ws.length → stF (r ++ r') (ws ++ ws') = stF r ws ++ stF r' ws'
  | [], [], _, _, _ => rfl
  | [], _ :: _, _, _, h => by simp at h
  | _ :: _, [], _, _, h => by simp at h
  | x :: r, k :: ws, r', ws', h => by
    have ih := stF_append r ws r' ws' (by simpa using h)
    show List.replicate k.toNat (-1) ++ (x :: stF (r ++ r') (ws ++ ws')) = (List.replicate k.toNat (-1) ++ (x :: stF r ws)) ++ stF r' ws'
    rw [ih, List.append_assoc]
    rfl
theorem stF_snoc {r ws : List Int} {x k : Int} (h : r.length = ws.length) : stF (r ++ [x]) (ws ++ [k]) = stF r ws ++ List.replicate k.toNat (-1) ++ [x] := by
  rw [stF_append _ _ _ _ h, List.append_assoc]
  rfl
theorem stF_take : ∀ (r ws : List Int) (i : Nat) (x k : Int), r[i]? = some x → ws[i]? = some k → stF (r.take (i + 1)) (ws.take (i + 1)) = stF (r.take i) (ws.take i) ++ List.replicate k.toNat (-1) ++ [x]
  | [], _, _, _, _, h, _ => by simp at h
  | _ :: _, [], _, _, _, _, h => by simp at h
  | y :: r, j :: ws, 0, x, k, h, h' => by
    have e1 : y = x := by simpa using h
    have e2 : j = k := by simpa using h'
    subst e1 e2
    rfl
  | y :: r, j :: ws, i + 1, x, k, h, h' => by
    have ih := stF_take r ws i x k (by simpa using h) (by simpa using h')
    show List.replicate j.toNat (-1) ++ (y :: stF (r.take (i + 1)) (ws.take (i + 1))) = (List.replicate j.toNat (-1) ++ (y :: stF (r.take i) (ws.take i))) ++ List.replicate k.toNat (-1) ++ [x]
    rw [ih]
    simp [List.append_assoc]
theorem stF_zero : ∀ (r : List Int), stF r (List.replicate r.length 0) = r
  | [] => rfl
  | x :: r => by
    have ih := stF_zero r
    show List.replicate (0 : Int).toNat (-1) ++ (x :: stF r (List.replicate r.length 0)) = x :: r
    rw [ih]
    rfl
theorem stretched_zero {w : List Int} (h : 1 ≤ w.length) : stretchedF w (List.replicate (w.length - 1) 0) = w := by
  cases w with
  | nil => simp at h
  | cons x r =>
    show [x] ++ stF r (List.replicate (r.length + 1 - 1) 0) = x :: r
    rw [Nat.add_sub_cancel, stF_zero]
    rfl
theorem stretched_cons (x : Int) (r ws : List Int) : stretchedF (x :: r) ws = x :: stF r ws := rfl
theorem stretched_rev : ∀ (ws r : List Int) (x : Int), r.length = ws.length → stretchedF (x :: r).reverse ws.reverse = (stretchedF (x :: r) ws).reverse
  | [], [], _, _ => rfl
  | [], _ :: _, _, h => by simp at h
  | _ :: _, [], _, h => by simp at h
  | k :: ws, y :: r, x, h => by
    have ih := stretched_rev ws r y (by simpa using h)
    have hne : (y :: r).reverse ≠ [] := by simp
    obtain ⟨z, q, e⟩ : ∃ z q, (y :: r).reverse = z :: q := by
      cases hq : (y :: r).reverse with
      | nil => exact absurd hq hne
      | cons z q => exact ⟨z, q, rfl⟩
    have hl : q.length = ws.reverse.length := by
      have := congrArg List.length e
      simp at this h ⊢
      omega
    rw [List.reverse_cons (a := x), List.reverse_cons (a := k), e]
    show [z] ++ stF (q ++ [x]) (ws.reverse ++ [k]) = _
    rw [stF_snoc hl]
    rw [e] at ih
    rw [stretched_cons] at ih
    show _ = (x :: (List.replicate k.toNat (-1) ++ (y :: stF r ws))).reverse
    rw [List.reverse_cons, List.reverse_append, List.reverse_replicate]
    have ih' : (y :: stF r ws).reverse = z :: stF q ws.reverse := ih.symm
    rw [ih']
    simp [List.append_assoc]
theorem stretched_rev' {w ws : List Int} (h : ws.length + 1 = w.length) : stretchedF w.reverse ws.reverse = (stretchedF w ws).reverse := by
  cases w with
  | nil => simp at h
  | cons x r => exact stretched_rev ws r x (by simpa using h.symm)
theorem stF_count {x : Int} (hx : x ≠ -1) : ∀ (r ws : List Int), r.length = ws.length → (stF r ws).count x = r.count x
  | [], [], _ => rfl
  | [], _ :: _, h => by simp at h
  | _ :: _, [], h => by simp at h
  | y :: r, k :: ws, h => by
    have ih := stF_count hx r ws (by simpa using h)
    show (List.replicate k.toNat (-1) ++ (y :: stF r ws)).count x = (y :: r).count x
    rw [List.count_append, List.count_replicate, if_neg (by simpa using fun e => hx e.symm), List.count_cons, List.count_cons, ih]
    omega
theorem stretched_cut {w ws : List Int} {k : Nat} (h : ws.length + 1 = w.length) (hk : 1 ≤ k) : ∃ t, stretchedF w ws = stretchedF (w.take k) (ws.take (k - 1)) ++ t := by
  cases w with
  | nil => simp at h
  | cons x r =>
    obtain ⟨j, rfl⟩ : ∃ j, k = j + 1 := ⟨k - 1, by omega⟩
    refine ⟨stF (r.drop j) (ws.drop j), ?_⟩
    show [x] ++ stF r ws = ([x] ++ stF (r.take j) (ws.take (j + 1 - 1))) ++ stF (r.drop j) (ws.drop j)
    have hl : r.length = ws.length := by simpa using h.symm
    rw [Nat.add_sub_cancel, List.append_assoc, ← stF_append _ _ _ _ (by simp [hl]), List.take_append_drop, List.take_append_drop]

/-! ### the search -/
def lastT (ts : List Int) : Int := ts.getLastD 0
theorem lastT_snoc (ts : List Int) (t : Int) : lastT (ts ++ [t]) = t := by
  unfold lastT
  simp
def freeF (w : List Int) (d : Int) (ts : List Int) (t : Int) : Bool :=
  match w[ts.length]? with
  | some x => x == -1 || (w.zip ts).all fun p => p.1 != x || (t - p.2) % d != 0
  | none => false
def placedF (w : List Int) (d : Int) : Nat → Int → List Int → Option (List Int)
  | 0, left, _ => if left = 0 then some [] else none
  | n + 1, left, ts => (List.range (min left 11 + 1).toNat).findSome? fun (k : Nat) =>
      if freeF w d ts (lastT ts + 1 + (k : Int)) = true then (placedF w d n (left - k) (ts ++ [lastT ts + 1 + k])).map (fun r => (k : Int) :: r) else none

/-- the ticks of a word's first items, the word stretched so far -/
structure Link (w ts s : List Int) : Prop where
  ne : ts ≠ []
  le : ts.length ≤ w.length
  last : (s.length : Int) = lastT ts + 1
  zip : ∀ p ∈ w.zip ts, ∃ i : Nat, p.2 = i ∧ s[i]? = some p.1
  back : ∀ (i : Nat) (x : Int), s[i]? = some x → x ≠ -1 → (x, (i : Int)) ∈ w.zip ts
theorem zip_snoc : ∀ {w ts : List Int} {x t : Int}, w[ts.length]? = some x → w.zip (ts ++ [t]) = w.zip ts ++ [(x, t)]
  | [], _, _, _, h => by simp at h
  | y :: w, [], x, t, h => by
    have e : y = x := by simpa using h
    subst e
    simp
  | y :: w, u :: ts, x, t, h => by
    have ih := zip_snoc (w := w) (ts := ts) (x := x) (t := t) (by simpa using h)
    show (y, u) :: w.zip (ts ++ [t]) = (y, u) :: w.zip ts ++ [(x, t)]
    rw [ih]
    rfl
theorem Link.start {w : List Int} {x : Int} (h : w[0]? = some x) : Link w [0] [x] := by
  cases w with
  | nil => simp at h
  | cons y w =>
    have e : y = x := by simpa using h
    subst e
    refine ⟨by simp, by simp, rfl, ?_, ?_⟩
    · intro p hp
      simp at hp
      subst hp
      exact ⟨0, rfl, rfl⟩
    · intro i z hi hz
      cases i with
      | zero => simp at hi ⊢; exact hi.symm
      | succ i => simp at hi
theorem Link.snoc {w ts s : List Int} {x : Int} {k : Nat} (L : Link w ts s) (hx : w[ts.length]? = some x) : Link w (ts ++ [lastT ts + 1 + k]) (s ++ List.replicate k (-1) ++ [x]) := by
  have hlt : ts.length < w.length := (List.getElem?_eq_some_iff.mp hx).1
  have hl := L.last
  refine ⟨by simp, by simp; omega, ?_, ?_, ?_⟩
  · rw [lastT_snoc]; simp; omega
  · intro p hp
    rw [zip_snoc hx] at hp
    rcases List.mem_append.mp hp with hp | hp
    · obtain ⟨i, e1, e2⟩ := L.zip p hp
      have hi := (List.getElem?_eq_some_iff.mp e2).1
      exact ⟨i, e1, by rw [List.append_assoc, List.getElem?_append_left hi]; exact e2⟩
    · simp at hp
      subst hp
      refine ⟨s.length + k, by show lastT ts + 1 + (k : Int) = ((s.length + k : Nat) : Int); omega, ?_⟩
      rw [List.getElem?_append_right (by simp)]
      simp
  · intro i z hi hz
    rw [zip_snoc hx]
    by_cases h1 : i < s.length
    · rw [List.append_assoc, List.getElem?_append_left h1] at hi
      exact List.mem_append_left _ (L.back i z hi hz)
    · by_cases h2 : i < s.length + k
      · rw [List.getElem?_append_left (by simpa using h2), List.getElem?_append_right (by omega), List.getElem?_replicate, if_pos (by omega)] at hi
        exact absurd (Option.some.inj hi).symm hz
      · by_cases h3 : i = s.length + k
        · subst h3
          rw [List.getElem?_append_right (by simp)] at hi
          simp at hi
          subst hi
          refine List.mem_append_right _ ?_
          simp
          omega
        · have : (s ++ List.replicate k (-1) ++ [x]).length = s.length + k + 1 := by simp [Nat.add_assoc]
          have := (List.getElem?_eq_some_iff.mp hi).1
          omega
theorem free_iff {w ts s : List Int} {d x : Int} {k : Nat} (L : Link w ts s) (c : Clean d s) (hx : w[ts.length]? = some x) :
    freeF w d ts (lastT ts + 1 + k) = true ↔ Clean d (s ++ List.replicate k (-1) ++ [x]) := by
  unfold freeF
  rw [hx]
  show (x == -1 || (w.zip ts).all fun p => p.1 != x || (lastT ts + 1 + k - p.2) % d != 0) = true ↔ _
  by_cases h : x = -1
  · subst h
    exact ⟨fun _ => clean_gap c, fun _ => rfl⟩
  · rw [clean_snoc h c]
    have hl := L.last
    simp only [beq_eq_false_iff_ne.mpr h, Bool.false_or, List.all_eq_true]
    constructor
    · intro g i hi
      have hm := L.back i x hi h
      have := g _ hm
      simp at this
      rw [show ((s.length + k : Nat) : Int) - i = lastT ts + 1 + k - i by omega]
      exact this
    · intro g p hp
      obtain ⟨i, e1, e2⟩ := L.zip p hp
      by_cases hpx : p.1 = x
      · rw [hpx] at e2
        have := g i e2
        rw [show ((s.length + k : Nat) : Int) - i = lastT ts + 1 + k - p.2 by omega] at this
        simpa [hpx] using this
      · simp [hpx]

/-- waits that do, behind a stretched part -/
structure Does (w : List Int) (d : Int) (n : Nat) (left : Int) (ts s ws : List Int) : Prop where
  len : ws.length = n
  rng : ∀ y ∈ ws, 0 ≤ y ∧ y ≤ 11
  sum : ws.sum = left
  clean : Clean d (s ++ stF (w.drop ts.length) ws)
theorem sum_nonneg : ∀ (ws : List Int), (∀ y ∈ ws, 0 ≤ y) → 0 ≤ ws.sum
  | [], _ => by simp
  | y :: ws, h => by
    have := sum_nonneg ws fun z hz => h z (by simp [hz])
    have := h y (by simp)
    rw [List.sum_cons]
    omega
theorem drop_at {w : List Int} {n : Nat} {x : Int} (h : w[n]? = some x) : w.drop n = x :: w.drop (n + 1) := by
  obtain ⟨h1, h2⟩ := List.getElem?_eq_some_iff.mp h
  rw [List.drop_eq_getElem_cons h1, h2]
theorem placed_some {w : List Int} {d : Int} : ∀ (n : Nat) (left : Int) (ts s : List Int), Link w ts s → Clean d s → w.length = ts.length + n → 0 ≤ left → ∀ ws, placedF w d n left ts = some ws → Does w d n left ts s ws
  | 0, left, ts, s, L, c, hn, h0, ws, h => by
    unfold placedF at h
    split at h
    · rename_i e
      have := Option.some.inj h
      subst this e
      refine ⟨rfl, by simp, rfl, ?_⟩
      rw [stF_nil', List.append_nil]
      exact c
    · cases h
  | n + 1, left, ts, s, L, c, hn, h0, ws, h => by
    have hlt : ts.length < w.length := by omega
    have hx : w[ts.length]? = some w[ts.length] := List.getElem?_eq_getElem hlt
    unfold placedF at h
    obtain ⟨k, hk, e⟩ := List.exists_of_findSome?_eq_some h
    rw [List.mem_range] at hk
    split at e
    · rename_i hf
      cases hp : placedF w d n (left - k) (ts ++ [lastT ts + 1 + k]) with
      | none => rw [hp] at e; simp at e
      | some ws' =>
        rw [hp] at e
        have e' : (k : Int) :: ws' = ws := by simpa using e
        subst e'
        have D := placed_some n (left - k) _ _ (L.snoc (k := k) hx) ((free_iff L c hx).mp hf) (by simp; omega) (by omega) ws' hp
        refine ⟨by simp [D.len], ?_, by rw [List.sum_cons, D.sum]; omega, ?_⟩
        · intro y hy
          rcases List.mem_cons.mp hy with rfl | hy
          · omega
          · exact D.rng y hy
        · rw [drop_at hx]
          show Clean d (s ++ (List.replicate (k : Int).toNat (-1) ++ (_ :: stF _ ws')))
          have := D.clean
          rw [List.length_append, List.length_singleton] at this
          simpa [List.append_assoc] using this
    · cases e
theorem placed_none {w : List Int} {d : Int} : ∀ (n : Nat) (left : Int) (ts s : List Int), Link w ts s → Clean d s → w.length = ts.length + n → placedF w d n left ts = none → ∀ ws, ¬ Does w d n left ts s ws
  | 0, left, ts, s, L, c, hn, h, ws, D => by
    have e : ws = [] := List.eq_nil_of_length_eq_zero D.len
    have := D.sum
    subst e
    unfold placedF at h
    rw [if_pos (by simpa using this.symm)] at h
    cases h
  | n + 1, left, ts, s, L, c, hn, h, ws, D => by
    have hlt : ts.length < w.length := by omega
    have hx : w[ts.length]? = some w[ts.length] := List.getElem?_eq_getElem hlt
    obtain ⟨y, ws', e⟩ : ∃ y ws', ws = y :: ws' := by
      cases ws with
      | nil => have := D.len; simp at this
      | cons y ws' => exact ⟨y, ws', rfl⟩
    subst e
    have hy := D.rng y (by simp)
    have hs := D.sum
    rw [List.sum_cons] at hs
    have hr := sum_nonneg ws' fun z hz => (D.rng z (by simp [hz])).1
    have ey : y = (y.toNat : Int) := by omega
    unfold placedF at h
    rw [List.findSome?_eq_none_iff] at h
    have h1 := h y.toNat (List.mem_range.mpr (by omega))
    have hc := D.clean
    rw [drop_at hx] at hc
    have hc' : Clean d ((s ++ List.replicate y.toNat (-1) ++ [w[ts.length]]) ++ stF (w.drop (ts.length + 1)) ws') := by
      have : s ++ stF (w[ts.length] :: w.drop (ts.length + 1)) (y :: ws') = (s ++ List.replicate y.toNat (-1) ++ [w[ts.length]]) ++ stF (w.drop (ts.length + 1)) ws' := by
        show s ++ (List.replicate y.toNat (-1) ++ (_ :: stF _ ws')) = _
        simp [List.append_assoc]
      rwa [this] at hc
    have c' := clean_left hc'
    rw [if_pos ((free_iff L c hx).mpr c')] at h1
    have hp : placedF w d n (left - (y.toNat : Int)) (ts ++ [lastT ts + 1 + (y.toNat : Int)]) = none := by
      cases hp : placedF w d n (left - (y.toNat : Int)) (ts ++ [lastT ts + 1 + (y.toNat : Int)]) with
      | none => rfl
      | some z => rw [hp] at h1; simp at h1
    refine placed_none n _ _ _ (L.snoc (k := y.toNat) hx) c' (by simp; omega) hp ws' ⟨by simpa using D.len, fun z hz => D.rng z (by simp [hz]), by omega, ?_⟩
    rw [List.length_append, List.length_singleton]
    exact hc'

/-! ### works, visits -/
structure Work (w : List Int) : Prop where
  pos : 1 ≤ w.length
  rng : ∀ x ∈ w, -1 ≤ x ∧ x ≤ 9
  first : w[0]? ≠ some (-1)
  last : w[w.length - 1]? ≠ some (-1)
def visitsF (w : List Int) : Int := (w.filter (fun x => x != -1)).foldr (fun x m => max (w.count x : Int) m) 0
theorem foldr_max_ge (f : Int → Int) : ∀ (l : List Int), (∀ x ∈ l, f x ≤ l.foldr (fun x m => max (f x) m) 0) ∧ 0 ≤ l.foldr (fun x m => max (f x) m) 0
  | [] => by simp
  | y :: l => by
    have ih := foldr_max_ge f l
    rw [List.foldr_cons]
    refine ⟨fun x hx => ?_, by omega⟩
    rcases List.mem_cons.mp hx with rfl | hx
    · omega
    · have := ih.1 x hx
      omega
theorem foldr_max_mem (f : Int → Int) : ∀ (l : List Int), l.foldr (fun x m => max (f x) m) 0 = 0 ∨ ∃ x ∈ l, l.foldr (fun x m => max (f x) m) 0 = f x
  | [] => .inl rfl
  | y :: l => by
    rw [List.foldr_cons]
    rcases foldr_max_mem f l with e | ⟨x, hx, e⟩
    · rw [e]
      by_cases h : f y ≤ 0
      · left; omega
      · right; exact ⟨y, by simp, by omega⟩
    · by_cases h : f y ≤ l.foldr (fun x m => max (f x) m) 0
      · right; exact ⟨x, by simp [hx], by omega⟩
      · right; exact ⟨y, by simp, by omega⟩
theorem visits_ge {w : List Int} {x : Int} (hx : x ≠ -1) : (w.count x : Int) ≤ visitsF w := by
  by_cases h : x ∈ w
  · exact (foldr_max_ge (fun x => (w.count x : Int)) _).1 x (List.mem_filter.mpr ⟨h, by simpa using hx⟩)
  · rw [List.count_eq_zero_of_not_mem h]
    exact (foldr_max_ge (fun x => (w.count x : Int)) _).2
theorem visits_mem (w : List Int) : visitsF w = 0 ∨ ∃ x ∈ w, x ≠ -1 ∧ visitsF w = w.count x := by
  rcases foldr_max_mem (fun x => (w.count x : Int)) (w.filter (fun x => x != -1)) with e | ⟨x, hx, e⟩
  · exact .inl e
  · have := List.mem_filter.mp hx
    exact .inr ⟨x, this.1, by simpa using this.2, e⟩
theorem visits_le {w : List Int} {m : Int} (h0 : 0 ≤ m) (h : ∀ x ∈ w, x ≠ -1 → (w.count x : Int) ≤ m) : visitsF w ≤ m := by
  rcases visits_mem w with e | ⟨x, hx, hn, e⟩
  · omega
  · rw [e]; exact h x hx hn
theorem visits_len (w : List Int) : visitsF w ≤ w.length := by
  refine visits_le (by omega) fun x _ _ => ?_
  have := List.count_le_length (a := x) (l := w)
  omega
theorem visits_pos {w : List Int} (W : Work w) : 1 ≤ visitsF w := by
  have hl : 0 < w.length := W.pos
  have hx : w[0]? = some w[0] := List.getElem?_eq_getElem hl
  have hn : w[0] ≠ -1 := fun e => W.first (by rw [hx, e])
  have := visits_ge (w := w) hn
  have hc : 0 < w.count w[0] := List.count_pos_iff.mpr (List.getElem_mem _)
  omega
theorem visits_of {w : List Int} {m : Int} (W : Work w) (h1 : ∃ x ∈ w, x ≠ -1 ∧ m = w.count x) (h2 : ∀ x ∈ w, x ≠ -1 → (w.count x : Int) ≤ m) : m = visitsF w := by
  obtain ⟨x, hx, hn, e⟩ := h1
  have a := visits_ge (w := w) hn
  have b := visits_le (w := w) (m := m) (by omega) h2
  omega
theorem visits_rev (w : List Int) : visitsF w.reverse = visitsF w := by
  have h : ∀ v : List Int, visitsF v.reverse ≤ visitsF v := by
    intro v
    refine visits_le ((foldr_max_ge _ _).2) fun x _ hn => ?_
    rw [List.count_reverse]
    exact visits_ge hn
  have a := h w
  have b := h w.reverse
  rw [List.reverse_reverse] at b
  omega
theorem visits_take (w : List Int) (k : Nat) : visitsF (w.take k) ≤ visitsF w := by
  refine visits_le ((foldr_max_ge _ _).2) fun x _ hn => ?_
  have h : (w.take k).count x ≤ w.count x := (List.take_sublist k w).count_le x
  have := visits_ge (w := w) hn
  omega
theorem visits_map {w : List Int} {f : Int → Int} (hf : ∀ x ∈ w, ∀ y ∈ w, f x = f y → x = y) (hm : ∀ x ∈ w, f x = -1 ↔ x = -1) : visitsF (w.map f) = visitsF w := by
  have hc : ∀ x ∈ w, (w.map f).count (f x) = w.count x := by
    intro x hx
    rw [List.count, List.count, List.countP_map]
    apply List.countP_congr
    intro y hy
    simp only [Function.comp, beq_iff_eq]
    exact ⟨fun e => hf y hy x hx e, fun e => by rw [e]⟩
  have a : visitsF (w.map f) ≤ visitsF w := by
    refine visits_le ((foldr_max_ge _ _).2) fun y hy hn => ?_
    obtain ⟨x, hx, e⟩ := List.mem_map.mp hy
    subst e
    rw [hc x hx]
    exact visits_ge fun e => hn ((hm x hx).mpr e)
  have b : visitsF w ≤ visitsF (w.map f) := by
    refine visits_le ((foldr_max_ge _ _).2) fun x hx hn => ?_
    rw [← hc x hx]
    exact visits_ge fun e => hn ((hm x hx).mp e)
  omega
theorem Work.rev {w : List Int} (W : Work w) : Work w.reverse := by
  have hl : 1 ≤ w.length := W.pos
  refine ⟨by simpa using W.pos, fun x hx => W.rng x (List.mem_reverse.mp hx), ?_, ?_⟩
  · rw [List.getElem?_reverse (by omega)]
    exact W.last
  · rw [List.length_reverse, List.getElem?_reverse (by omega)]
    have := W.first
    rwa [show w.length - 1 - (w.length - 1) = 0 by omega]

/-! ### waits of a whole word -/
structure Sol (w : List Int) (d : Int) (ws : List Int) : Prop where
  len : ws.length + 1 = w.length
  rng : ∀ y ∈ ws, 0 ≤ y ∧ y ≤ 11
  clean : Clean d (stretchedF w ws)
theorem does_sol {w : List Int} {d m x : Int} {ws : List Int} (h0 : w[0]? = some x) (h : 1 ≤ w.length) : Does w d (w.length - 1) m [0] [x] ws ↔ Sol w d ws ∧ ws.sum = m := by
  have e : stretchedF w ws = [x] ++ stF (w.drop [(0 : Int)].length) ws := by
    cases w with
    | nil => simp at h
    | cons y r =>
      have : y = x := by simpa using h0
      subst this
      rfl
  constructor
  · intro D
    refine ⟨⟨by have := D.len; omega, D.rng, ?_⟩, D.sum⟩
    rw [e]
    exact D.clean
  · rintro ⟨S, es⟩
    refine ⟨by have := S.len; omega, S.rng, es, ?_⟩
    rw [← e]
    exact S.clean
theorem sol_more {d : Int} (hd : 0 < d) (hd2 : d ≤ 12) : ∀ (r s : List Int), Clean d s → (∀ x, x ≠ -1 → ((s.count x + r.count x : Nat) : Int) ≤ d) → ∃ ws : List Int, ws.length = r.length ∧ (∀ y ∈ ws, 0 ≤ y ∧ y ≤ 11) ∧ Clean d (s ++ stF r ws)
  | [], s, c, _ => ⟨[], rfl, by simp, by rw [stF_nil, List.append_nil]; exact c⟩
  | x :: r, s, c, h => by
    obtain ⟨k, hk, ck⟩ := clean_more (x := x) hd c (fun hx => by
      have := h x hx
      rw [List.count_cons_self] at this
      omega)
    obtain ⟨ws, e1, e2, e3⟩ := sol_more hd hd2 r (s ++ List.replicate k (-1) ++ [x]) ck (fun y hy => by
      have := h y hy
      rw [List.count_cons] at this
      rw [List.count_append, List.count_append, List.count_replicate, if_neg (by simpa using fun e => hy e.symm), List.count_singleton]
      omega)
    refine ⟨(k : Int) :: ws, by simp [e1], fun y hy => ?_, ?_⟩
    · rcases List.mem_cons.mp hy with rfl | hy
      · omega
      · exact e2 y hy
    · show Clean d (s ++ (List.replicate (k : Int).toNat (-1) ++ (x :: stF r ws)))
      simpa [List.append_assoc] using e3
theorem sol_exists {w : List Int} {d : Int} (W : Work w) (h1 : visitsF w ≤ d) (h2 : d ≤ 12) : ∃ ws, Sol w d ws := by
  have hp := visits_pos W
  cases w with
  | nil => have := W.pos; simp at this
  | cons x r =>
    obtain ⟨ws, e1, e2, e3⟩ := sol_more (d := d) (by omega) h2 r [x] clean_one (fun y hy => by
      have := visits_ge (w := x :: r) hy
      rw [List.count_cons] at this
      rw [List.count_singleton]
      omega)
    exact ⟨ws, by simp [e1], e2, e3⟩
theorem sum_le : ∀ (ws : List Int), (∀ y ∈ ws, y ≤ 11) → ws.sum ≤ 11 * ws.length
  | [], _ => by simp
  | y :: ws, h => by
    have := sum_le ws fun z hz => h z (by simp [hz])
    have := h y (by simp)
    rw [List.sum_cons, List.length_cons]
    omega
/-- the stretch: the first sum for which there is one -/
def stretchF (w : List Int) (d : Int) : Option (List Int) :=
  if d < visitsF w then none else (List.range 200).findSome? fun (m : Nat) => placedF w d (w.length - 1) (m : Int) [0]
theorem find_least {α : Type} {f : Nat → Option α} : ∀ {n : Nat} {v : α}, (List.range n).findSome? f = some v → ∃ m, m < n ∧ f m = some v ∧ ∀ k, k < m → f k = none
  | 0, v, h => by simp at h
  | n + 1, v, h => by
    rw [List.range_succ, List.findSome?_append] at h
    cases e : (List.range n).findSome? f with
    | some u =>
      rw [e] at h
      have : u = v := by simpa using h
      subst this
      obtain ⟨m, h1, h2, h3⟩ := find_least e
      exact ⟨m, by omega, h2, h3⟩
    | none =>
      rw [e] at h
      refine ⟨n, by omega, by simpa using h, fun k hk => ?_⟩
      exact List.findSome?_eq_none_iff.mp e k (List.mem_range.mpr hk)
theorem find_at {α : Type} {f : Nat → Option α} {n m : Nat} {v : α} (h1 : m < n) (h2 : f m = some v) (h3 : ∀ k, k < m → f k = none) : (List.range n).findSome? f = some v := by
  cases e : (List.range n).findSome? f with
  | none =>
    have := List.findSome?_eq_none_iff.mp e m (List.mem_range.mpr h1)
    rw [h2] at this
    cases this
  | some u =>
    obtain ⟨j, a, b, c⟩ := find_least e
    by_cases h : j < m
    · rw [h3 j h] at b; cases b
    · by_cases h' : m < j
      · rw [c m h'] at h2; cases h2
      · have : j = m := by omega
        subst this
        rw [h2] at b
        exact b.symm
section
variable {w : List Int} {d : Int}
theorem work_at (W : Work w) : ∃ x, w[0]? = some x ∧ x ≠ -1 := by
  have hl : 0 < w.length := W.pos
  exact ⟨w[0], List.getElem?_eq_getElem hl, fun e => W.first (by rw [List.getElem?_eq_getElem hl, e])⟩
theorem placed_sol (W : Work w) {m : Int} (hm : 0 ≤ m) {ws : List Int} (h : placedF w d (w.length - 1) m [0] = some ws) : Sol w d ws ∧ ws.sum = m := by
  obtain ⟨x, h0, _⟩ := work_at W
  have hp := W.pos
  exact (does_sol h0 hp).mp (placed_some _ _ _ _ (Link.start h0) clean_one (by show w.length = 1 + (w.length - 1); omega) hm ws h)
theorem placed_no (W : Work w) {m : Int} (h : placedF w d (w.length - 1) m [0] = none) {ws : List Int} (S : Sol w d ws) (e : ws.sum = m) : False := by
  obtain ⟨x, h0, _⟩ := work_at W
  have hp := W.pos
  exact placed_none _ _ _ _ (Link.start h0) clean_one (by show w.length = 1 + (w.length - 1); omega) h ws ((does_sol h0 hp).mpr ⟨S, e⟩)
theorem stretch_none (h : d < visitsF w) : stretchF w d = none := if_pos h
theorem stretch_some (W : Work w) (hl : w.length ≤ 12) (h1 : visitsF w ≤ d) (h2 : d ≤ 12) :
    ∃ (m : Nat) (ws : List Int), m < 200 ∧ stretchF w d = some ws ∧ placedF w d (w.length - 1) (m : Int) [0] = some ws ∧ (∀ k : Nat, k < m → placedF w d (w.length - 1) (k : Int) [0] = none) ∧ Sol w d ws ∧ ws.sum = m := by
  obtain ⟨ws0, S0⟩ := sol_exists W h1 h2
  have hn := sum_nonneg ws0 fun y hy => (S0.rng y hy).1
  have hs := sum_le ws0 fun y hy => (S0.rng y hy).2
  have hl0 := S0.len
  have hst : stretchF w d = (List.range 200).findSome? fun (m : Nat) => placedF w d (w.length - 1) (m : Int) [0] := if_neg (by omega)
  cases e : (List.range 200).findSome? fun m : Nat => placedF w d (w.length - 1) (m : Int) [0] with
  | none =>
    have := List.findSome?_eq_none_iff.mp e ws0.sum.toNat (List.mem_range.mpr (by omega))
    exact (placed_no W this S0 (by omega)).elim
  | some ws =>
    obtain ⟨m, a, b, c⟩ := find_least e
    obtain ⟨S, es⟩ := placed_sol W (by omega) b
    exact ⟨m, ws, a, by rw [hst, e], b, c, S, es⟩
theorem stretch_sol (W : Work w) (hl : w.length ≤ 12) (h2 : d ≤ 12) {ws : List Int} (h : stretchF w d = some ws) : Sol w d ws ∧ ∀ ws', Sol w d ws' → ws.sum ≤ ws'.sum := by
  by_cases h1 : d < visitsF w
  · rw [stretch_none h1] at h; cases h
  · obtain ⟨m, us, a, b, c, e, S, es⟩ := stretch_some W hl (by omega) h2
    rw [b] at h
    have : us = ws := Option.some.inj h
    subst this
    refine ⟨S, fun ws' S' => ?_⟩
    have hn := sum_nonneg ws' fun y hy => (S'.rng y hy).1
    by_cases hlt : ws'.sum < us.sum
    · have := e ws'.sum.toNat (by omega)
      exact (placed_no W this S' (by omega)).elim
    · omega
theorem stretch_no (W : Work w) (hl : w.length ≤ 12) (h2 : d ≤ 12) (h : stretchF w d = none) : d < visitsF w := by
  by_cases h1 : d < visitsF w
  · exact h1
  · obtain ⟨m, us, a, b, c, e, S, es⟩ := stretch_some W hl (by omega) h2
    rw [b] at h; cases h
end
def sumF (w : List Int) (d : Int) : Int := match stretchF w d with
  | none => -1
  | some ws => ws.sum
theorem sol_rev {w : List Int} {d : Int} {ws : List Int} (S : Sol w d ws) : Sol w.reverse d ws.reverse := by
  refine ⟨by simpa using S.len, fun y hy => S.rng y (List.mem_reverse.mp hy), ?_⟩
  rw [stretched_rev' S.len]
  exact clean_rev S.clean
theorem sum_rev (ws : List Int) : ws.reverse.sum = ws.sum := by
  induction ws with
  | nil => rfl
  | cons x r ih => rw [List.reverse_cons, List.sum_append, ih, List.sum_cons]; simp; omega
theorem sumF_rev {w : List Int} {d : Int} (W : Work w) (hl : w.length ≤ 12) (h2 : d ≤ 12) : sumF w.reverse d = sumF w d := by
  have hl' : w.reverse.length ≤ 12 := by simpa using hl
  unfold sumF
  cases e : stretchF w d with
  | none =>
    have := stretch_no W hl h2 e
    rw [stretch_none (by rw [visits_rev]; exact this)]
  | some ws =>
    cases e' : stretchF w.reverse d with
    | none =>
      have := stretch_no W.rev hl' h2 e'
      rw [visits_rev] at this
      rw [stretch_none this] at e
      cases e
    | some us =>
      obtain ⟨S, m⟩ := stretch_sol W hl h2 e
      obtain ⟨S', m'⟩ := stretch_sol W.rev hl' h2 e'
      have a := m' _ (sol_rev S)
      have b' := sol_rev S'
      rw [List.reverse_reverse] at b'
      have b := m _ b'
      rw [sum_rev] at a b
      show us.sum = ws.sum
      omega
theorem cut_le {w : List Int} {d : Int} {k : Nat} (W : Work w) (hl : w.length ≤ 12) (h2 : d ≤ 12) (hk : 1 ≤ k) (hk' : k ≤ w.length) (W' : Work (w.take k)) (h : stretchF w d ≠ none) :
    0 ≤ sumF (w.take k) d ∧ sumF (w.take k) d ≤ sumF w d := by
  have hl' : (w.take k).length ≤ 12 := by rw [List.length_take]; omega
  unfold sumF
  cases e : stretchF w d with
  | none => exact absurd e h
  | some ws =>
    have hv : ¬ d < visitsF w := fun hh => h (stretch_none hh)
    have ht := visits_take w k
    cases e' : stretchF (w.take k) d with
    | none => have := stretch_no W' hl' h2 e'; omega
    | some us =>
      obtain ⟨S, m⟩ := stretch_sol W hl h2 e
      obtain ⟨S', m'⟩ := stretch_sol W' hl' h2 e'
      have hlen := S.len
      obtain ⟨t, et⟩ := stretched_cut (k := k) S.len hk
      have c := S.clean
      rw [et] at c
      have a := m' (ws.take (k - 1)) ⟨by rw [List.length_take, List.length_take]; omega, fun y hy => S.rng y (List.mem_of_mem_take hy), clean_left c⟩
      have b := sum_nonneg us fun y hy => (S'.rng y hy).1
      have c1 := sum_nonneg (ws.drop (k - 1)) fun y hy => (S.rng y (List.mem_of_mem_drop hy)).1
      have c2 : ws.sum = (ws.take (k - 1)).sum + (ws.drop (k - 1)).sum := by rw [← List.sum_append, List.take_append_drop]
      show 0 ≤ us.sum ∧ us.sum ≤ ws.sum
      omega
theorem Work.cut {w : List Int} {k : Nat} (W : Work w) (hk : 1 ≤ k) (hk' : k ≤ w.length) (h : w[k - 1]? ≠ some (-1)) : Work (w.take k) := by
  have e : (w.take k).length = k := by rw [List.length_take]; omega
  refine ⟨by omega, fun x hx => W.rng x (List.mem_of_mem_take hx), ?_, ?_⟩
  · rw [List.getElem?_take, if_pos (by omega)]; exact W.first
  · rw [e, List.getElem?_take, if_pos (by omega)]; exact h

/-! ### other stations -/
theorem freeF_map {w : List Int} {f : Int → Int} (hf : ∀ x ∈ w, ∀ y ∈ w, f x = f y → x = y) (hm : ∀ x ∈ w, f x = -1 ↔ x = -1) (d : Int) (ts : List Int) (t : Int) : freeF (w.map f) d ts t = freeF w d ts t := by
  unfold freeF
  rw [List.getElem?_map]
  cases e : w[ts.length]? with
  | none => rfl
  | some x =>
    have hx : x ∈ w := List.mem_of_getElem? e
    show (f x == -1 || ((w.map f).zip ts).all fun p => p.1 != f x || (t - p.2) % d != 0) = (x == -1 || (w.zip ts).all fun p => p.1 != x || (t - p.2) % d != 0)
    have e1 : (f x == -1) = (x == -1) := by
      rw [Bool.eq_iff_iff, beq_iff_eq, beq_iff_eq]
      exact hm x hx
    rw [e1, List.zip_map_left, List.all_map]
    congr 1
    rw [Bool.eq_iff_iff, List.all_eq_true, List.all_eq_true]
    have hb : ∀ p ∈ w.zip ts, (f p.1 != f x) = (p.1 != x) := by
      intro p hp
      have hp1 := (List.of_mem_zip hp).1
      rw [Bool.eq_iff_iff, bne_iff_ne, bne_iff_ne]
      exact ⟨fun h e => h (by rw [e]), fun h e => h (hf _ hp1 _ hx e)⟩
    constructor
    · intro h p hp
      have := h p hp
      simp only [Function.comp, Prod.map, id] at this
      rwa [hb p hp] at this
    · intro h p hp
      have := h p hp
      simp only [Function.comp, Prod.map, id]
      rwa [hb p hp]
theorem placedF_map {w : List Int} {f : Int → Int} (hf : ∀ x ∈ w, ∀ y ∈ w, f x = f y → x = y) (hm : ∀ x ∈ w, f x = -1 ↔ x = -1) (d : Int) : ∀ (n : Nat) (left : Int) (ts : List Int), placedF (w.map f) d n left ts = placedF w d n left ts
  | 0, _, _ => rfl
  | n + 1, left, ts => by
    unfold placedF
    congr 1
    funext k
    rw [freeF_map hf hm, placedF_map hf hm d n]
theorem stretchF_map {w : List Int} {f : Int → Int} (hf : ∀ x ∈ w, ∀ y ∈ w, f x = f y → x = y) (hm : ∀ x ∈ w, f x = -1 ↔ x = -1) (d : Int) : stretchF (w.map f) d = stretchF w d := by
  unfold stretchF
  rw [visits_map hf hm, List.length_map]
  congr 2
  funext m
  rw [placedF_map hf hm]
theorem Work.map {w : List Int} {f : Int → Int} (W : Work w) (hm : ∀ x ∈ w, f x = -1 ↔ x = -1) (hr : ∀ x ∈ w, -1 ≤ f x ∧ f x ≤ 9) : Work (w.map f) := by
  refine ⟨by simpa using W.pos, fun y hy => ?_, ?_, ?_⟩
  · obtain ⟨x, hx, rfl⟩ := List.mem_map.mp hy
    exact hr x hx
  · rw [List.getElem?_map]
    intro h
    cases e : w[0]? with
    | none => rw [e] at h; cases h
    | some x =>
      rw [e] at h
      have h' : f x = -1 := by simpa using h
      exact W.first (by rw [e, (hm x (List.mem_of_getElem? e)).mp h'])
  · rw [List.length_map, List.getElem?_map]
    intro h
    cases e : w[w.length - 1]? with
    | none => rw [e] at h; cases h
    | some x =>
      rw [e] at h
      have h' : f x = -1 := by simpa using h
      exact W.last (by rw [e, (hm x (List.mem_of_getElem? e)).mp h'])

/-! ### bars -/
def meetF (one other : List Int) (k : Nat) : Bool := (List.range one.length).any fun t => decide (k ≤ t) && (one[t]? != some (-1)) && (other[t - k]? == one[t]?)
def barsF (s : List Int) : List Int := ((List.range (s.length - 1)).map fun i => i + 1).filterMap fun k => if meetF s s k = true then some (k : Int) else none
def constF (bars : List Int) (d : Int) : Bool := bars.all fun b => b % d != 0
theorem meet_iff {s : List Int} {k : Nat} : meetF s s k = true ↔ ∃ (t : Nat) (x : Int), k ≤ t ∧ s[t]? = some x ∧ s[t - k]? = some x ∧ x ≠ -1 := by
  unfold meetF
  rw [List.any_eq_true]
  constructor
  · rintro ⟨t, ht, h⟩
    have ht' : t < s.length := List.mem_range.mp ht
    simp only [Bool.and_eq_true, decide_eq_true_eq, bne_iff_ne, beq_iff_eq] at h
    obtain ⟨⟨a, b⟩, c⟩ := h
    have e := List.getElem?_eq_getElem ht'
    refine ⟨t, s[t], a, e, by rw [c, e], fun h => b (by rw [e, h])⟩
  · rintro ⟨t, x, a, b, c, hx⟩
    refine ⟨t, List.mem_range.mpr (List.getElem?_eq_some_iff.mp b).1, ?_⟩
    simp only [Bool.and_eq_true, decide_eq_true_eq, bne_iff_ne, beq_iff_eq]
    exact ⟨⟨a, by rw [b]; simpa using hx⟩, by rw [c, b]⟩
theorem const_iff {s : List Int} {d : Int} : constF (barsF s) d = true ↔ Clean d s := by
  unfold constF barsF
  rw [List.all_eq_true]
  constructor
  · intro h i j x hij hi hj hx
    have hj' := (List.getElem?_eq_some_iff.mp hj).1
    have := h ((j - i : Nat) : Int) (List.mem_filterMap.mpr ⟨j - i, List.mem_map.mpr ⟨j - i - 1, List.mem_range.mpr (by omega), by omega⟩, by
      rw [if_pos (meet_iff.mpr ⟨j, x, by omega, hj, by rw [show j - (j - i) = i by omega]; exact hi, hx⟩)]⟩)
    rw [show ((j : Int) - i) = ((j - i : Nat) : Int) by omega]
    simpa using this
  · intro c b hb
    obtain ⟨k, hk, e⟩ := List.mem_filterMap.mp hb
    obtain ⟨i, hi, ei⟩ := List.mem_map.mp hk
    split at e
    · rename_i hm
      have e' : (k : Int) = b := Option.some.inj e
      subst e'
      obtain ⟨t, x, a1, a2, a3, a4⟩ := meet_iff.mp hm
      have := c (t - k) t x (by omega) a3 a2 a4
      rw [show ((t : Int) - (t - k : Nat)) = (k : Int) by omega] at this
      simpa using this
    · cases e
theorem const_rev {s : List Int} {d : Int} : constF (barsF s.reverse) d = constF (barsF s) d := by
  rw [Bool.eq_iff_iff, const_iff, const_iff]
  constructor
  · intro h
    have := clean_rev h
    rwa [List.reverse_reverse] at this
  · exact clean_rev
theorem bars_lt {s : List Int} : ∀ b ∈ barsF s, 1 ≤ b ∧ b < s.length := by
  intro b hb
  obtain ⟨k, hk, e⟩ := List.mem_filterMap.mp hb
  obtain ⟨i, hi, ei⟩ := List.mem_map.mp hk
  have := List.mem_range.mp hi
  split at e
  · have e' : (k : Int) = b := Option.some.inj e
    omega
  · cases e
theorem const_big {s : List Int} {d : Int} (h : (s.length : Int) ≤ d) : constF (barsF s) d = true := by
  unfold constF
  rw [List.all_eq_true]
  intro b hb
  have := bars_lt b hb
  rw [Int.emod_eq_of_lt (by omega) (by omega)]
  simp
  omega

/-! ### waits are shown exactly if the stretched work needs none -/
theorem all_zero : ∀ (ws : List Int), (∀ y ∈ ws, 0 ≤ y) → ws.sum = 0 → ws = List.replicate ws.length 0
  | [], _, _ => rfl
  | y :: ws, h, e => by
    have a := sum_nonneg ws fun z hz => h z (by simp [hz])
    have b := h y (by simp)
    rw [List.sum_cons] at e
    have ih := all_zero ws (fun z hz => h z (by simp [hz])) (by omega)
    rw [List.length_cons, List.replicate_succ, ← ih]
    congr 1
    omega
theorem longer_iff {s : List Int} {d : Int} (W : Work s) (hl : s.length ≤ 12) (h1 : 1 ≤ d) (h2 : d ≤ 12) : stretchF s d = some (List.replicate (s.length - 1) 0) ↔ Clean d s := by
  constructor
  · intro h
    have := (stretch_sol W hl h2 h).1.clean
    rwa [stretched_zero W.pos] at this
  · intro c
    have hv : visitsF s ≤ d := visits_le (by omega) fun x _ hx => clean_count (by omega) hx c
    obtain ⟨m, us, a, b, e, g, S, es⟩ := stretch_some W hl hv h2
    have Z : Sol s d (List.replicate (s.length - 1) 0) := ⟨by have := W.pos; simp; omega, fun y hy => by have := List.eq_of_mem_replicate hy; omega, by rw [stretched_zero W.pos]; exact c⟩
    have := (stretch_sol W hl h2 b).2 _ Z
    have hz : (List.replicate (s.length - 1) (0 : Int)).sum = 0 := by simp
    have hn := sum_nonneg us fun y hy => (S.rng y hy).1
    have := all_zero us (fun y hy => (S.rng y hy).1) (by omega)
    have hlen := S.len
    rw [b, this, show us.length = s.length - 1 by omega]
theorem stF_last : ∀ (r ws : List Int), r.length = ws.length → r ≠ [] → (stF r ws).getLast? = r.getLast?
  | [], _, _, h => absurd rfl h
  | _ :: _, [], h, _ => by simp at h
  | x :: r, k :: ws, h, _ => by
    show (List.replicate k.toNat (-1) ++ (x :: stF r ws)).getLast? = _
    rw [List.getLast?_append]
    cases r with
    | nil => rw [stF_nil]; rfl
    | cons y r =>
      have ih := stF_last (y :: r) ws (by simpa using h) (by simp)
      rw [List.getLast?_cons_cons, List.getLast?_cons, ih]
      cases e : (y :: r).getLast? with
      | none => simp at e
      | some z => rfl
theorem stF_rng : ∀ (r ws : List Int), (∀ x ∈ r, -1 ≤ x ∧ x ≤ 9) → ∀ x ∈ stF r ws, -1 ≤ x ∧ x ≤ 9
  | [], ws, _, x, hx => by rw [stF_nil] at hx; simp at hx
  | _ :: _, [], _, x, hx => by simp [stF] at hx
  | y :: r, k :: ws, h, x, hx => by
    have hx' : x ∈ List.replicate k.toNat (-1) ++ (y :: stF r ws) := hx
    rcases List.mem_append.mp hx' with hx' | hx'
    · have := List.eq_of_mem_replicate hx'
      omega
    · rcases List.mem_cons.mp hx' with rfl | hx'
      · exact h x (by simp)
      · exact stF_rng r ws (fun z hz => h z (by simp [hz])) x hx'
theorem Work.stretched {w ws : List Int} (W : Work w) (h : ws.length + 1 = w.length) : Work (stretchedF w ws) := by
  cases w with
  | nil => simp at h
  | cons x r =>
    have hl : r.length = ws.length := by simpa using h.symm
    rw [stretched_cons]
    refine ⟨by simp, fun y hy => ?_, W.first, ?_⟩
    · rcases List.mem_cons.mp hy with rfl | hy
      · exact W.rng y (by simp)
      · exact stF_rng r ws (fun z hz => W.rng z (by simp [hz])) y hy
    · rw [← List.getLast?_eq_getElem?]
      have e : (x :: stF r ws).getLast? = (x :: r).getLast? := by
        cases r with
        | nil => rw [stF_nil]
        | cons y r =>
          rw [List.getLast?_cons, stF_last _ _ hl (by simp), ← List.getLast?_cons]
      rw [e, List.getLast?_eq_getElem?]
      exact W.last
theorem stF_len : ∀ (r ws : List Int), (stF r ws).length ≤ r.length + ((ws.map Int.toNat).sum)
  | [], ws => by rw [stF_nil]; simp
  | _ :: _, [] => by simp [stF]
  | y :: r, k :: ws => by
    have ih := stF_len r ws
    show (List.replicate k.toNat (-1) ++ (y :: stF r ws)).length ≤ (y :: r).length + (((k :: ws).map Int.toNat).sum)
    simp
    omega
theorem toNat_sum : ∀ (ws : List Int), (∀ y ∈ ws, y ≤ 11) → (ws.map Int.toNat).sum ≤ 11 * ws.length
  | [], _ => by simp
  | y :: ws, h => by
    have := toNat_sum ws fun z hz => h z (by simp [hz])
    have := h y (by simp)
    simp
    omega
theorem stretched_len {w ws : List Int} (h : ws.length + 1 = w.length) (hr : ∀ y ∈ ws, y ≤ 11) : (stretchedF w ws).length ≤ 12 * w.length := by
  cases w with
  | nil => simp at h
  | cons x r =>
    have a := stF_len r ws
    have b := toNat_sum ws hr
    rw [stretched_cons]
    simp at h ⊢
    omega

/-! ### trade -/
def tradeL (w bars : List Int) : Nat → Int → List (Int × Int)
  | 0, _ => []
  | n + 1, d => if constF bars d = true then [(d, 0)] else (d, sumF w d) :: tradeL w bars n (d + 1)
def tradeF (w : List Int) : List (Int × Int) := tradeL w (barsF w) 61 (visitsF w)
theorem tradeL_rev {w : List Int} (W : Work w) (hl : w.length ≤ 12) : ∀ (n : Nat) (d : Int), 1 ≤ d → tradeL w.reverse (barsF w.reverse) n d = tradeL w (barsF w) n d
  | 0, _, _ => rfl
  | n + 1, d, h => by
    unfold tradeL
    rw [const_rev]
    by_cases c : constF (barsF w) d = true
    · rw [if_pos c, if_pos c]
    · rw [if_neg c, if_neg c, tradeL_rev W hl n (d + 1) (by omega), sumF_rev W hl]
      by_cases hd : d ≤ 12
      · exact hd
      · exact absurd (const_big (s := w) (d := d) (by omega)) c
theorem tradeF_rev {w : List Int} (W : Work w) (hl : w.length ≤ 12) : tradeF w.reverse = tradeF w := by
  unfold tradeF
  rw [visits_rev, tradeL_rev W hl _ _ (visits_pos W)]
end Sg
/-! Rules that the hand layer lacks: t[::-1], t * n for n of 0 and 1, sum(t), t a tuple. -/
namespace SgR
open PySem PySem.Spec PyProof.Rows L2 HT

/-! ### sum of a tuple of ints -/
def rSumT (K : PySem.W.Frag) : List V → Hp → VK → Prop := fun vs H Q => ∃ (a : Addr) (ns : List Int), vs = [V.ref a] ∧ SqT K H a (ns.map V.int) ∧ Q (.int ns.sum) H
section
variable {X : Cx}
theorem cr_sumT (hc : X.calm = true) : CallR X (.builtin "sum") (rSumT X.K) := by
  intro pins s σ H vs us Q I r h
  obtain ⟨a, ns, rfl, hs, q⟩ := h
  obtain ⟨its, rv, hl, _⟩ := I.tuple hs
  rw [Vals.ref1 r]
  have hi := rv.ints
  obtain ⟨xs, e⟩ := hi.allInts.items
  have hn : numsOf (intItems xs).toList = ns := by rw [← e]; exact hi.numsOf
  rw [nums_intItems] at hn
  rw [e] at hl
  refine PySem.W.ktm_sumG (I.ok.hd hc) hl fun h' tk t' hk => ?_
  have es : preSum (numAt xs) xs.size = ns.sum := by rw [preSum_eq, List.take_of_length_le (by simp), hn]
  rw [es]
  exact ⟨.int _, H, I.kept hk, ⟨_, rfl⟩, q⟩
end

/-! ### a tuple backwards -/
section
variable {prog : Program} {w : World} {A : Around} {E : Value → Shared → Prop} {s : Shared}
theorem sliceApplied_back {sl : Addr} {n : Nat} {u : Tok} {Q : Int × Int × Nat → Shared → Prop} (hs : s.heap.IsSliceOf sl .none .none (.int (-1) u)) (h : Q ((n : Int) - 1, -1, n) s) :
    wpAny (model prog w) A (Builtin.Slice.sliceApplied (.ref sl) (pure (n : Int))) Q E s := by
  obtain ⟨os, hos, hcs, hds⟩ := id hs
  unfold Builtin.Slice.sliceApplied Builtin.Slice.sliceFields
  refine wpAny_bind (wpAny_bind (wpAny_field hos hds (x := .none) rfl (wpAny_bind (wpAny_field hos hds (x := .none) rfl (wpAny_bind (wpAny_field hos hds (x := .int (-1) u) rfl (wpAny_pure ?_)))))))
  refine wpAny_bind (slicePart_int ?_)
  show wpAny _ _ (if ((-1 : Int) == 0) = true then _ else _) _ _ s
  rw [if_neg (by decide)]
  refine wpAny_bind (slicePart_none (wpAny_bind (slicePart_none (wpAny_bind (wpAny_pure ?_)))))
  show wpAny _ _ (pure ((n : Int) - 1, (-1 : Int), Builtin.Slice.slicePlaces ((n : Int) - 1) (-1) (-1))) _ _ s
  have e : Builtin.Slice.slicePlaces ((n : Int) - 1) (-1) (-1) = n := by
    unfold Builtin.Slice.slicePlaces
    rw [if_neg (by decide)]
    by_cases hn : (n : Int) - 1 > -1
    · rw [if_pos hn, show (-(-1) : Int) = 1 by decide, Int.ediv_one]
      omega
    · rw [if_neg hn]
      omega
  rw [e]
  exact wpAny_pure h
theorem fm_congr {α β : Type} {f g : α → Option β} : ∀ {l : List α}, (∀ m ∈ l, f m = g m) → l.filterMap f = l.filterMap g
  | [], _ => rfl
  | a :: l, h => by
    rw [List.filterMap_cons, List.filterMap_cons, h a (by simp), fm_congr fun m hm => h m (by simp [hm])]
theorem pick_back (xs : Array Value) : ((List.range xs.size).filterMap fun (m : Nat) => xs[(((xs.size : Int) - 1) + (m : Int) * (-1)).toNat]?).toArray = xs.toList.reverse.toArray := by
  have e : ∀ m ∈ List.range xs.size, xs[(((xs.size : Int) - 1) + (m : Int) * (-1)).toNat]? = ((fun k => xs[k]?) ∘ fun k => xs.size - 1 - k) m := by
    intro m hm
    have := List.mem_range.mp hm
    have e2 : (((xs.size : Int) - 1) + (m : Int) * (-1)).toNat = xs.size - 1 - m := by omega
    rw [e2]
    rfl
  rw [fm_congr e, ← List.filterMap_map, PySem.W.krv_range, List.filterMap_reverse, PySem.W.krv_all]
theorem getItem_tuple_back {t sl : Addr} {items : Array Value} {u : Tok} {Q : Value → Shared → Prop} (hT : IsTup s.heap t items) (hS : s.heap.IsSliceOf sl .none .none (.int (-1) u)) (fits : items.size ≤ sizeLine)
    (q : Q (.ref s.heap.objs.size) { s with heap := s.heap.push { cls := .type "tuple", data := .seq items.toList.reverse.toArray } }) : wpAny (model prog w) A (getItem (.ref t) (.ref sl)) Q E s := by
  have room : sizeOk (.seq items.toList.reverse.toArray) := by
    show items.toList.reverse.toArray.size ≤ sizeLine
    simpa using fits
  have isSlice : s.TypeIs (.ref sl) "slice" := by
    obtain ⟨o, e, c, _⟩ := hS
    exact ⟨o, e, c⟩
  have other : ¬ ((((items.size : Nat) : Int) - 1 == 0 && (-1 : Int) == 1 && items.size == items.size) = true) := by simp
  refine wpAny_getItem_slot hT.typeIs (by decide) PyProof.Rows.slot_tuple_getitem (wpAny_call_entry PyProof.Rows.slot_tuple_getitem hT.typeIs entry_tuple_getitem ?_ (args_tuple_getitem _ _))
  show wpAny _ _ (Builtin.Tuple.tupleItemsOf (.ref t) >>= _) _ _ s
  refine wpAny_bind (tupleItemsOf_ hT (wpAny_bind (wpAny_typeOf isSlice ?_)))
  rw [if_pos (by decide)]
  refine wpAny_bind (sliceApplied_back hS ?_)
  show wpAny _ _ (if (((items.size : Nat) : Int) - 1 == 0 && (-1 : Int) == 1 && items.size == items.size) = true then _ else _) _ _ s
  rw [if_neg other, pick_back]
  exact wpAny_bind (m := Builtin.Tuple.tupleExact _) (wpAny_newObj_type (wpAny_pure ⟨_, rfl, q⟩) room)
end
section
variable {X : Cx}
/-- t[::-1] -/
def tRevT (K : PySem.W.Frag) (te : TE) : TE := fun σ H Q => te σ H fun x H1 => ∃ a xs, x = .ref a ∧ SqT K H1 a xs ∧ ∀ p, H1 p = none → Q (.ref p) (upd H1 p (.tup xs.reverse))
theorem pe_revT {e : Expr} {te : TE} {k : Nat} {p1 p2 p3 pos : Pos} (he : PE X e te) : PE X (.Subscript e (.Slice none none (some (.UnaryOp .USub (.Constant (.int 1) k p1) p2)) p3) pos) (tRevT X.K te) := by
  constructor
  intro pins s σ H Q I h
  -- the tuple, then the three parts of the slice: none, none, -1
  refine Subscript_ (thn (he.run pins s σ H _ I h) ?_)
  rintro _ s1 ⟨_, H1, I1, r1, a, xs, rfl, hx, q⟩
  cases r1
  refine wpAny_Slice (thn (po_none.run pins s1 σ H1 (fun o G => o = none ∧ G = H1) I1 ⟨rfl, rfl⟩) ?_)
  rintro _ s2 ⟨_, _, I2, pl, rfl, rfl⟩
  cases pl
  refine thn (po_none.run pins s2 σ _ (fun o G => o = none ∧ G = _) I2 ⟨rfl, rfl⟩) ?_
  rintro _ s3 ⟨_, _, I3, pu, rfl, rfl⟩
  cases pu
  refine thn ((po_some (pe_un un_neg pe_int)).run pins s3 σ _ (fun o G => o = some (-1) ∧ G = _) I3 ⟨1, rfl, -1, rfl, rfl, rfl⟩) ?_
  rintro _ s4 ⟨_, _, I4, ps, rfl, rfl⟩
  cases ps with
  | int _ tk =>
    have I5 : Inv X pins σ _ { s4 with heap := s4.heap.push { cls := .type "slice", data := .fields #[.none, .none, .int (-1) tk] } } := I4.kept (t' := s4.toks) fun b ob g => Heap.get?_push_of_some _ g
    obtain ⟨its, rv, isT, fits⟩ := I5.tuple hx
    have same := rv.length
    show wpAny (model X.prog X.w) X.A (subscriptTail e (.Slice none none (some (.UnaryOp .USub (.Constant (.int 1) k p1) p2)) p3) (.ref a) (.ref s4.heap.objs.size)) (EP X pins σ Q) X.xe { s4 with heap := s4.heap.push { cls := .type "slice", data := .fields #[.none, .none, .int (-1) tk] } }
    refine tail_any (ops := [.ref a, .ref s4.heap.objs.size]) isT.typeIs (PyProof.Rows.slot_tuple_getitem.lookup) ?_ (by with_unfolding_all rfl)
    refine getItem_tuple_back isT (Heap.IsSliceOf.new _ .none .none (.int (-1) tk)) (by rw [List.size_toArray, ← same]; exact fits) ?_
    exact ⟨.ref _, _, I5.laid (t' := s4.toks) (o := .tup xs.reverse) (fun b ob g => Heap.get?_push_of_some _ g) (Nat.le_refl _) ⟨by rw [List.length_reverse]; exact fits, _, rv.reverse, IsTup.new _ _⟩, rfl, q _ (I5.hok.fresh (Nat.le_refl _))⟩
end

/-! ### t * n, n from 0 to 1000 -/
theorem tuple_mul1 (l : Addr) (items : Array Value) (n : Nat) (dd : Option Addr) (sl : Array (Option Value)) (u : Tok) :
    Meets (Builtin.«tuple.__mul__» ⟨[.ref l, .int 1 u], []⟩) (fun _ R s => s.heap.get? l = some { cls := .type "tuple", dict := dd, data := .seq items n, slots := sl } ∧
      R (.ok (.ret (Value.ref l))) s) :=
  .of_wp fun prog w A R s h => by
    obtain ⟨hp, g, d, tk, os⟩ := s
    obtain ⟨hl, h⟩ := h
    have f1 := AutoSeq1.idx_int
    have c1 : (items.isEmpty || (1 : Int) == 1) = true := by rw [Bool.or_eq_true]; exact .inr rfl
    wp_walk using wpAny_loadPart' hl
    repeat (first
      | (refine wpAny_ite_false (decide_eq_false (by decide)) ?_; wp_walk using wpAny_loadPart' hl)
      | (refine wpAny_ite_true (decide_eq_true c1) ?_; wp_walk using wpAny_loadPart' hl)
      | (refine wpAny_ite_true (by decide) ?_; wp_walk using wpAny_loadPart' hl))
    exact ⟨_, rfl, h⟩
theorem tuple_mul0 (l : Addr) (items : Array Value) (n : Nat) (dd : Option Addr) (sl : Array (Option Value)) (u : Tok) (c1 : items.isEmpty = false) :
    Meets (Builtin.«tuple.__mul__» ⟨[.ref l, .int 0 u], []⟩) (fun _ R s => s.heap.get? l = some { cls := .type "tuple", dict := dd, data := .seq items n, slots := sl } ∧
      R (.ok (.ret (Value.ref s.heap.objs.size))) { s with heap := s.heap.push { cls := Value.type "tuple", data := Data.seq #[] }, toks := s.toks }) :=
  .of_wp fun prog w A R s h => by
    obtain ⟨hp, g, d, tk, os⟩ := s
    obtain ⟨hl, h⟩ := h
    have f1 := AutoSeq1.idx_int
    have c2 : (items.isEmpty || (0 : Int) == 1) = false := by rw [c1]; rfl
    have c3 : (decide ((0 : Int) ≤ 0) || items.isEmpty) = true := by rw [c1]; rfl
    wp_walk using wpAny_loadPart' hl
    repeat (first
      | (refine wpAny_ite_false (decide_eq_false (by rw [c2]; exact Bool.false_ne_true)) ?_; wp_walk using wpAny_loadPart' hl)
      | (refine wpAny_ite_true (decide_eq_true c3) ?_; wp_walk using wpAny_loadPart' hl)
      | (refine wpAny_ite_false (decide_eq_false (by decide)) ?_; wp_walk using wpAny_loadPart' hl)
      | (refine wpAny_ite_true (by decide) ?_; wp_walk using wpAny_loadPart' hl))
    exact ⟨_, rfl, h⟩
/-- t * k: k of 1 gives t itself -/
def rRepA (K : PySem.W.Frag) : R2 := fun x y H Q => ∃ l k xs, x = .ref l ∧ y = .int k ∧ SqT K H l xs ∧ xs ≠ [] ∧ 0 ≤ k ∧ k ≤ 1000 ∧ xs.length ≤ 1000 ∧ (k = 1 → Q (.ref l) H) ∧ (k ≠ 1 → ∀ p, H p = none → Q (.ref p) (upd H p (.tup (List.replicate k.toNat xs).flatten)))
section
variable {X : Cx}
theorem op_repA : OpR X (binaryOp .Mult) (rRepA X.K) := by
  intro pins s σ H x y v u Q I rx ry h
  obtain ⟨l, k, xs, rfl, rfl, hT, hne, h1, h2, hz, q1, q⟩ := h
  by_cases hk : 2 ≤ k
  · exact op_repT pins s σ H _ _ v u Q I rx ry ⟨l, k, xs, rfl, rfl, hT, hne, hk, h2, hz, q (by omega)⟩
  cases rx
  obtain ⟨t, rfl⟩ := ry
  obtain ⟨its, r, ⟨⟨cls, dd, data, sl⟩, ho, hc, n, hd⟩, hs⟩ := I.tuple hT
  simp only at hc hd
  subst hc hd
  have hle : its.length = xs.length := r.length.symm
  have hn : its ≠ [] := fun e => hne (by
    rw [e] at hle
    exact List.eq_nil_of_length_eq_zero hle.symm)
  have hi : its.toArray.isEmpty = false := by
    cases its with
    | nil => exact absurd rfl hn
    | cons a b => rfl
  by_cases hk1 : k = 1
  · subst hk1
    exact wpAny_binaryOp_repeat_ref (T := "tuple") (U := "int") (by decide) ⟨_, ho, rfl⟩ (fun s' => typeIs_int s' 1 t) noFill_tuple_mul F.fills_int_mul F.slot_int_rmul repeat_tuple F.slot_int_index.lookup
      (call_meets F.slot_int_rmul (typeIs_int s 1 t) F.entry_int_rmul (F.args_int_rmul_2 _ _) (int_rmul_tuple 1 t l its.toArray n dd sl)
        ⟨ho, rfl, ⟨_, ho, rfl⟩, call_meets F.slot_tuple_mul ⟨_, ho, rfl⟩ F.entry_tuple_mul (F.args_tuple_mul_2 _ _) (tuple_mul1 l its.toArray n dd sl t) ⟨ho, ⟨.ref l, H, I, rfl, q1 rfl⟩⟩⟩)
  · have hk0 : k = 0 := by omega
    subst hk0
    refine wpAny_binaryOp_repeat_ref (T := "tuple") (U := "int") (by decide) ⟨_, ho, rfl⟩ (fun s' => typeIs_int s' 0 t) noFill_tuple_mul F.fills_int_mul F.slot_int_rmul repeat_tuple F.slot_int_index.lookup
      (call_meets F.slot_int_rmul (typeIs_int s 0 t) F.entry_int_rmul (F.args_int_rmul_2 _ _) (int_rmul_tuple 0 t l its.toArray n dd sl)
        ⟨ho, rfl, ⟨_, ho, rfl⟩, call_meets F.slot_tuple_mul ⟨_, ho, rfl⟩ F.entry_tuple_mul (F.args_tuple_mul_2 _ _) (tuple_mul0 l its.toArray n dd sl t hi) ⟨ho, ?_⟩⟩)
    refine ⟨.ref s.heap.objs.size, _, I.laid (t' := s.toks) (o := .tup []) (fun b ob q => Heap.get?_push_of_some _ q) (Nat.le_refl _) ?_, rfl, q (by decide) _ (I.hok.fresh (Nat.le_refl _))⟩
    exact ⟨by decide, [], .nil, IsTup.new _ _⟩
end
end SgR
namespace SgW
open PySem PySem.Spec PyProof.Rows L2 SgR
/-! ### the text -/
def topS (i : Nat) : Stmt := PySem.Challenge.pw_startgaps_k48_whole_waits_from_the_end.main.body.getD i (.Pass ⟨0, 0, 0, 0⟩)
/-! ### heaps -/
abbrev Tu (H : Hp) (a : Addr) (ns : List Int) : Prop := H a = some (.tup (ns.map V.int))
abbrev Li (H : Hp) (a : Addr) (ns : List Int) : Prop := H a = some (.lst (ns.map V.int))
theorem same_upd {H : Hp} {p : Addr} {o : HO} (h : H p = none) : Same H (upd H p o) := fun b x e => by
  rw [upd_ne (ne_of_none e h)]
  exact e
theorem same_old {H H' : Hp} {p : Addr} {o : HO} (s : Same H H') (h : H p = none) : Same H (upd H' p o) := fun b x e => by
  rw [upd_ne (ne_of_none e h)]
  exact s _ _ e
theorem same_upd2 {H H' : Hp} {p : Addr} {o : HO} (s : Same H H') (h : H' p = none) : Same H (upd H' p o) := s.trans (same_upd h)
theorem small {n : Nat} (h : n ≤ 1000) : n ≤ sizeLine := Nat.le_of_lt (small1000 h)
theorem getI {ns : List Int} {i : Nat} {x : Int} (h : ns[i]? = some x) : (ns.map V.int)[i]? = some (.int x) := by
  rw [List.getElem?_map, h]
  rfl
theorem getI' {ns : List Int} {i : Nat} {x : V} (h : (ns.map V.int)[i]? = some x) : ∃ n, ns[i]? = some n ∧ x = .int n := by
  rw [List.getElem?_map] at h
  cases e : ns[i]? with
  | none => rw [e] at h; cases h
  | some n => rw [e] at h; exact ⟨n, rfl, (Option.some.inj h).symm⟩
/-- an option of waits as a value -/
def OptV (H : Hp) : Option (List Int) → V → Prop
  | none, v => v = .non
  | some ws, v => ∃ a, v = .ref a ∧ Tu H a ws
theorem OptV.same {H H' : Hp} (s : Same H H') : ∀ {r : Option (List Int)} {v : V}, OptV H r v → OptV H' r v
  | none, _, h => h
  | some _, _, ⟨a, e, h⟩ => ⟨a, e, s _ _ h⟩
section
variable {P : Program} {w : World} {K : PySem.W.Frag} {mg : Str → Option Value} {base : Heap}
/-- a def that the module's name holds keeps its promise -/
structure Ok (P : Program) (w : World) (K : PySem.W.Frag) (mg : Str → Option Value) (base : Heap) (k : Nat) (x : Str) (ps : List Str) (sp : Sp) : Prop where
  ex : ∃ f fd, FnOk P w K mg base CX0 k f fd ps sp ∧ mg x = some (.ref f) ∧ PySem.W.keepIn K (.ref f) = true ∧ Binds K fd ps []
/-- where a def stands -/
structure At (K : PySem.W.Frag) (mg : Str → Option Value) (x : Str) (st : Stmt) (ps : List Str) : Prop where
  ex : ∃ f fd, Fun K x x st f fd ∧ mg x = some (.ref f) ∧ Binds K fd ps []
theorem At.ok {x : Str} {st : Stmt} {N ps : List Str} {k : Nat} {sp : Sp} (A : At K mg x st ps) (h : ∀ f fd, Fun K x x st f fd → FnOk P w K mg base CX0 k f fd ps sp) : Ok P w K mg base k x ps sp := by
  obtain ⟨f, fd, F, m, b⟩ := A.ex
  exact ⟨f, fd, h f fd F, m, F.kp, b⟩
theorem Ok.mono {x : Str} {ps : List Str} {j k : Nat} {sp : Sp} (F : Ok P w K mg base j x ps sp) (h : j ≤ k) : Ok P w K mg base k x ps sp := by
  obtain ⟨f, fd, F, m, kp, b⟩ := F.ex
  exact ⟨f, fd, F.mono h, m, kp, b⟩
end
section
variable {X : Cx} {k : Nat} {x : Str} {ps : List Str} {sp : Sp} {p pos : Pos} {e : Expr} {es : List Expr} {t : TA}
def tOk (sp : Sp) (t : TA) : TE := fun σ H Q => t σ H fun vs H1 => sp vs H1 Q E0
theorem pe_ok (G : Ok X.prog X.w X.K X.mg X.base k x ps sp) (hr : Room k X.A) (hg : Gl X x)
    (ha : PA X (e :: es) t) (hdb : (x == ("__debug__" : Str)) = false := by decide) (he : starEach (e :: es) X.env = (false, eval e X.env) :: starEach es X.env := by rfl) (hpl : (backTo pos (starEach es X.env)).any (·.1) = false := by rfl) :
    PE X (.Call (.Name x p) (e :: es) [] pos) (tOk sp t) := by
  obtain ⟨f, fd, F, m, kp, b⟩ := G.ex
  have h := pe_call (dvs := []) (ds := []) F hr hg m kp b .nil pass0 ha hdb he hpl (p := p)
  have e1 : tOk sp t = tCall sp [] E0 t := by
    funext σ H Q
    unfold tOk tCall
    congr 1
    funext vs H1
    rw [List.append_nil]
  rw [e1]
  exact h
end
/-! ### rules with the written part told (within a comprehension) -/
section
variable {X : Cx} {K : PySem.W.Frag}
theorem op_neDK (hu : X.A.units + 64 < cLine) (hK : X.K = K) : OpR X (compareOp .NotEq) (rNeD K) := by
  subst hK
  exact op_neD hu
theorem mt_lcountK (hK : X.K = K) : MtR X "list.count" (rCntI K) := by
  subst hK
  exact mt_lcount
theorem pe_bmK {o e : Expr} {es : List Expr} {to : TE} {t : TA} {name : Str} {apos cpos : Pos} {T id : String} {r : V → List V → Hp → VK → Prop} (hK : X.K = K) (pa : PlainAttrs T) (slot : Slot T name id) (hty : typeOf (.builtin id) = pure (.type "method_descriptor")) (hm : MtR X id r) (ho : PE X o to) (ha : PA X (e :: es) t)
    (hbase : attributeBase o name X.env (eval o X.env) = eval o X.env := by rfl)
    (hfew : ((backTo cpos (starEach (e :: es) X.env)).all (fun x => !x.1) && (backToKw cpos (keywordEach [] X.env)).all (fun x => x.1.isSome)
      && decide ((e :: es).length + ([] : List Keyword).length + (if ([] : List Keyword).isEmpty then 0 else 1) < 30)) = true := by rfl)
    (hline : (apos.endLine == cpos.line) = true := by rfl) (hs : starEach (e :: es) X.env = (false, eval e X.env) :: starEach es X.env := by rfl) (hplain : (backTo cpos (starEach es X.env)).any (·.1) = false := by rfl) :
    PE X (.Call (.Attribute o name apos) (e :: es) [] cpos) (tBM K T r to t) := by
  subst hK
  exact pe_bm pa slot hty hm ho ha hbase hfew hline hs hplain
theorem ix_listK (hK : X.K = K) : IxR X (rIxL K) := by
  subst hK
  exact ix_list
theorem pg_tupK {es : List Expr} {k : Nat} {t : TGs} {n : Nat} {pos : Pos} (hK : X.K = K) (hc : X.calm = true) (h : PGs X es t) (hn : (assignEach es X.env).length = n := by rfl) (hst : (assignEach es X.env).findIdx? (·.1) = none := by rfl) : PG X (.Tuple es k pos) (gTup K n t) := by
  subst hK
  exact pg_tup hc h hn hst
end
/-- the built-ins and the constants -/
structure Bl (mg : Str → Option Value) : Prop where
  isinstance : mg "isinstance" = none
  int : mg "int" = none
  bool : mg "bool" = none
  tuple : mg "tuple" = none
  len : mg "len" = none
  all : mg "all" = none
  range : mg "range" = none
  max : mg "max" = none
  min : mg "min" = none
  zip : mg "zip" = none
  sum : mg "sum" = none
  list : mg "list" = none
  nowhere : ∃ t, mg "NOWHERE" = some (.int (-1) t)
  lastStation : ∃ t, mg "LAST_STATION" = some (.int 9 t)
  mostTicks : ∃ t, mg "MOST_TICKS" = some (.int 60 t)
  mostWait : ∃ t, mg "MOST_WAIT" = some (.int 11 t)
  mostDistance : ∃ t, mg "MOST_DISTANCE" = some (.int 12 t)
  mostLong : ∃ t, mg "MOST_LONG" = some (.int 12 t)
theorem pe_gi {X : Cx} {x : Str} {i : Int} {pos : Pos} (h : ∃ t, X.mg x = some (.int i t)) (hg : Gl X x) (hd : (x == ("__debug__" : Str)) = false := by decide) : PE X (.Name x pos) (tC (.int i)) := by
  obtain ⟨t, h⟩ := h
  exact pe_glob hg h ⟨t, rfl⟩ hd
end SgW
namespace SgW
open PySem PySem.Spec PyProof.Rows L2 SgR
section
variable {P : Program} {w : World} {K : PySem.W.Frag} {mg : Str → Option Value} {base : Heap}
/-! ### is_between -/
abbrev sBetween : Stmt := topS 10
theorem scBetween : FnScope ["thing", "low", "high"] ["thing", "low", "high"] (defScope sBetween) := ⟨rfl, rfl, rfl, by decide +kernel, rfl, by decide +kernel, by decide +kernel⟩
def spBetween : Sp := fun vs H Q _ => ∃ t l h : Int, vs = [.int t, .int l, .int h] ∧ l ≤ t ∧ t ≤ h ∧ Q (.bl true) H
theorem ok_between (T : Bl mg) (A : At K mg "is_between" sBetween ["thing", "low", "high"]) : Ok P w K mg base 1 "is_between" ["thing", "low", "high"] spBetween := by
  refine A.ok (N := []) fun f fd F => F.ok scBetween (fun vs H Q E h => ?_) (fun cdv A outer s H vs Q E hr h => ?_)
  · obtain ⟨t, l, h, rfl, _⟩ := h
    rfl
  obtain ⟨t, l, h, rfl, h1, h2, q⟩ := h
  refine ⟨_, pss_one (ps_ret (pe_and (pe_callB call_isi (by rfl) T.isinstance boot_isinstance (pa_cons (pv 0) (pa_cons (pe_bltn (v := .ty "int") (by rfl) T.int boot_int rfl) pa_nil)))
    (pe_and (pe_not (pe_callB call_isi (by rfl) T.isinstance boot_isinstance (pa_cons (pv 0) (pa_cons (pe_bltn (v := .ty "bool") (by rfl) T.bool boot_bool rfl) pa_nil))))
      (pe_one (pe_chain op_le op_le (pv 1) (pv 0) (pv 2)))))), ?_⟩
  refine ⟨_, rfl, .int t, .ty "int", .type "int", .type "int", true, rfl, .ty _, .base (.int t), kit_ty (by decide +kernel), true, rfl, iteT ?_⟩
  refine ⟨_, rfl, .int t, .ty "bool", .type "int", .type "bool", false, rfl, .ty _, .base (.int t), kit_ty (by decide +kernel), false, rfl, true, rfl, iteT ?_⟩
  refine ⟨_, rfl, _, rfl, l, t, rfl, rfl, _, rfl, ?_⟩
  rw [decide_eq_true h1]
  refine iteT ⟨_, rfl, t, h, rfl, rfl, ?_⟩
  show Q (.bl (decide (t ≤ h))) H
  rw [decide_eq_true h2]
  exact q
theorem iteD {c A B : Prop} [Decidable c] (hc : c) (h : A) : if decide c = true then A else B := by
  rw [decide_eq_true hc]
  exact iteT h
theorem iteDN {c A B : Prop} [Decidable c] (hc : ¬ c) (h : B) : if decide c = true then A else B := by
  rw [decide_eq_false hc]
  exact iteF h
theorem iteNN {c A B : Prop} [Decidable c] (hc : ¬ c) (h : A) : if (!decide c) = true then A else B := by
  rw [decide_eq_false hc]
  exact iteT h
/-! ### is_work -/
abbrev sWork : Stmt := topS 11
abbrev nWork : List Str := ["thing", "one"]
theorem scWork : FnScope nWork ["thing"] (defScope sWork) := ⟨rfl, rfl, rfl, by decide +kernel, rfl, by decide +kernel, by decide +kernel⟩
def spWork : Sp := fun vs H Q _ => ∃ (a : Addr) (ns : List Int), vs = [.ref a] ∧ Tu H a ns ∧ Sg.Work ns ∧ ns.length ≤ 60 ∧ ∀ H', Same H H' → Q (.bl true) H'
theorem ok_work (T : Bl mg) (A : At K mg "is_work" sWork ["thing"]) (G : Ok P w K mg base 1 "is_between" ["thing", "low", "high"] spBetween) : Ok P w K mg base 2 "is_work" ["thing"] spWork := by
  refine A.ok (N := []) fun f fd F => F.ok scWork (fun vs H Q E h => ?_) (fun cdv A outer s H vs Q E hr h => ?_)
  · obtain ⟨a, ns, rfl, _⟩ := h
    rfl
  obtain ⟨a, ns, rfl, h, W, h60, q⟩ := h
  refine ⟨_, pss_cons (ps_if (PW.pt (pw_or (pt_not (pt_val (pe_callB call_isi (by rfl) T.isinstance boot_isinstance (pa_cons (pv 0) (pa_cons (pe_bltn (v := .ty "tuple") (by rfl) T.tuple boot_tuple rfl) pa_nil)))))
      (pw_or1 (pt_not (pt_chain op_le op_le pe_int (pe_callB call_len_seq (by rfl) T.len PySem.boot_len (pa_cons (pv 0) pa_nil)) (pe_gi T.mostTicks (by rfl)))))))
      (pss_one (ps_ret pe_bl)) pss_nil)
    (pss_cons (ps_if (pt_not (pt_val (pe_callB (cr_all rfl) (by rfl) T.all boot_all (pa_cons
        (pe_lc (own := [("one", 1)]) (g := gName 1) (tt := tYes) rfl scWork.nd (pi_tup (pv 0)) (blkOk_by (own := [("one", 1)]) (N := nWork) (sc := defScope sWork) (by decide +kernel))
          (fun _ _ _ _ _ => pg_name (i := 1) scWork.nd rfl (Or.inl rfl)) (fun _ _ _ _ _ => pts_nil)
          (fun _ _ _ _ _ => pe_ok G hr (by rfl) (pa_cons (pv 1) (pa_cons (pe_gi T.nowhere (by rfl)) (pa_cons (pe_gi T.lastStation (by rfl)) pa_nil))))) pa_nil))))
      (pss_one (ps_ret pe_bl)) pss_nil)
    (pss_one (ps_ret (pe_and (pe_cmpR op_ne (pe_ix ix_tup (pv 0) pe_int (fun _ _ => rfl)) (pe_gi T.nowhere (by rfl)) (nomark _))
      (pe_one (pe_cmpR op_ne (pe_ix ix_tup (pv 0) (pe_un un_neg pe_int) (fun _ _ => rfl)) (pe_gi T.nowhere (by rfl)) (nomark _))))))), ?_⟩
  have hl : (ns.map V.int).length = ns.length := List.length_map _
  have hp := W.pos
  refine ⟨_, rfl, .ref a, .ty "tuple", .type "tuple", .type "tuple", true, rfl, .ty _, .base (.tup h), kit_ty (by decide +kernel), true, rfl, iteF ?_⟩
  refine ⟨_, rfl, a, _, rfl, .inr (SqT.of h), _, _, rfl, rfl, _, rfl, ?_⟩
  refine iteD (by rw [hl]; omega) ⟨_, _, rfl, rfl, _, rfl, ?_⟩
  refine iteNS (by rw [hl]; omega) ?_
  refine ⟨_, rfl, a, rfl, ⟨_, SqT.of h⟩, fun D hD => ?_⟩
  refine lc_tup (xs := ns.map V.int) (fun i H' => Same H H' ∧ H' D = some (.lst (List.replicate i (.bl true)))) ⟨same_upd hD, upd_same⟩ (fun i H' _ p => SqT.of (p.1 _ _ h)) (fun i x H' hx p => ?_) (fun H' p => ?_)
  · obtain ⟨n, hn, rfl⟩ := getI' hx
    have hr := W.rng n (List.mem_of_getElem? hn)
    have hi := (List.getElem?_eq_some_iff.mp hn).1
    refine ⟨rfl, ?_⟩
    refine ⟨_, rfl, n, -1, 9, rfl, hr.1, hr.2, _, p.2, by rw [List.length_replicate]; exact small1000 (by omega), fun b o e => ?_, ?_⟩
    · have nb : b ≠ D := ne_of_none e hD
      rw [upd_ne nb]
      exact p.1 _ _ e
    · rw [upd_same, List.replicate_succ']
  · have e := p.2
    rw [hl] at e
    refine ⟨D, List.replicate ns.length true, rfl, SqL.of (by rw [List.map_replicate]; exact e), _, rfl, ?_⟩
    have ea : (List.replicate ns.length true).all id = true := by simp
    rw [ea]
    refine iteF ?_
    have h' := p.1 _ _ h
    obtain ⟨x, h0, hx⟩ := Sg.work_at W
    have hz : ns[ns.length - 1]? = some ns[ns.length - 1] := List.getElem?_eq_getElem (by omega)
    have hzn : ns[ns.length - 1] ≠ -1 := fun e => W.last (by rw [hz, e])
    have a2 : atI (ns.map V.int) (-1) = some (.int ns[ns.length - 1]) := by
      unfold atI
      have e1 : ixN (ns.map V.int).length (-1) = some (ns.length - 1) := by
        unfold ixN
        rw [hl, if_neg (by omega), if_pos (by omega)]
        congr 1
        omega
      rw [e1]
      exact getI hz
    refine ⟨_, rfl, a, _, 0, .int x, rfl, rfl, SqT.of h', atI_nat (j := 0) (getI h0), rfl, _, rfl, ?_⟩
    refine iteNN (fun e => hx (V.int.inj e)) ⟨_, rfl, 1, rfl, a, _, _, _, rfl, rfl, SqT.of h', a2, rfl, ?_⟩
    show Q (.bl (!decide (V.int ns[ns.length - 1] = V.int (-1)))) H'
    rw [decide_eq_false (fun e => hzn (V.int.inj e))]
    exact q H' p.1
/-! ### need_work -/
abbrev sNeedWork : Stmt := topS 12
theorem scNeedWork : FnScope ["thing"] ["thing"] (defScope sNeedWork) := ⟨rfl, rfl, rfl, by decide +kernel, rfl, by decide +kernel, by decide +kernel⟩
def spNeedWork : Sp := fun vs H Q _ => ∃ (a : Addr) (ns : List Int), vs = [.ref a] ∧ Tu H a ns ∧ Sg.Work ns ∧ ns.length ≤ 60 ∧ ∀ H', Same H H' → Q .non H'
theorem ok_needWork (A : At K mg "need_work" sNeedWork ["thing"]) (G : Ok P w K mg base 2 "is_work" ["thing"] spWork) : Ok P w K mg base 3 "need_work" ["thing"] spNeedWork := by
  refine A.ok (N := []) fun f fd F => F.ok scNeedWork (fun vs H Q E h => ?_) (fun cdv A outer s H vs Q E hr h => ?_)
  · obtain ⟨a, ns, rfl, _⟩ := h
    rfl
  obtain ⟨a, ns, rfl, h, W, h60, q⟩ := h
  refine ⟨_, pss_one (ps_if (pt_not (pt_val (pe_ok G hr (by rfl) (pa_cons (pv 0) pa_nil)))) pss_never pss_nil), ?_⟩
  exact ⟨_, rfl, a, ns, rfl, h, W, h60, fun H' s' => ⟨true, rfl, iteF (q H' s')⟩⟩
end
end SgW
namespace SgW
open PySem PySem.Spec PyProof.Rows L2 SgR
/-! ### data -/
theorem canInts : ∀ ns : List Int, PyData.canLayAll0 (ns.map PyData.int) = true
  | [] => rfl
  | _ :: r => by simp [PyData.canLayAll0, PyData.canLay0, canInts r]
theorem depInts : ∀ ns : List Int, PyData.depthAll (ns.map PyData.int) = 0
  | [] => rfl
  | _ :: r => by simp [PyData.depthAll, PyData.depth, depInts r]
theorem shInts (ns : List Int) : SeqAt.shaped (.tuple (ns.map PyData.int)) = true := by
  simp [SeqAt.shaped, PyData.canLay0, PyData.depth, canInts, depInts]
def prD (p : Int × Int) : PyData := .tuple [.int p.1, .int p.2]
theorem canPrs : ∀ ps : List (Int × Int), PyData.canLayAll0 (ps.map prD) = true
  | [] => rfl
  | _ :: r => by simp [prD, PyData.canLayAll0, PyData.canLay0, canPrs r]
theorem depPrs : ∀ ps : List (Int × Int), PyData.depthAll (ps.map prD) ≤ 1
  | [] => by simp [PyData.depthAll]
  | _ :: r => by
    have := depPrs r
    simp [prD, PyData.depthAll, PyData.depth]
    omega
theorem shPrsL (ps : List (Int × Int)) : SeqAt.shaped (.list (ps.map prD)) = true := by
  have := depPrs ps
  simp [SeqAt.shaped, PyData.canLay0, PyData.depth, canPrs]
  omega
theorem shPrsT (ps : List (Int × Int)) : SeqAt.shaped (.tuple (ps.map prD)) = true := by
  have := depPrs ps
  simp [SeqAt.shaped, PyData.canLay0, PyData.depth, canPrs]
  omega
theorem eqvInts : ∀ ns ms : List Int, PyData.eqvAll (ns.map PyData.int) (ms.map PyData.int) = decide (ns = ms)
  | [], [] => by simp [PyData.eqvAll]
  | [], _ :: _ => by simp [PyData.eqvAll]
  | _ :: _, [] => by simp [PyData.eqvAll]
  | a :: r, b :: t => by
    simp only [List.map_cons, PyData.eqvAll, PyData.eqv, eqvInts r t]
    by_cases h : a = b <;> by_cases h' : r = t <;> simp [h, h']
theorem eqvTu (ns ms : List Int) : PyData.eqv (.tuple (ns.map PyData.int)) (.tuple (ms.map PyData.int)) = decide (ns = ms) := by
  simp only [PyData.eqv]
  exact eqvInts ns ms
theorem eqvPrs : ∀ ps : List (Int × Int), PyData.eqvAll (ps.map prD) (ps.map prD) = true
  | [] => by simp [PyData.eqvAll]
  | p :: r => by simp [prD, PyData.eqvAll, PyData.eqv, eqvPrs r]
theorem eqvPrsT (ps : List (Int × Int)) : PyData.eqv (.tuple (ps.map prD)) (.tuple (ps.map prD)) = true := by
  simp only [PyData.eqv]
  exact eqvPrs ps
theorem eqvNil (ps : List (Int × Int)) : PyData.eqv (.list (ps.map prD)) (.list []) = ps.isEmpty := by
  cases ps <;> simp [PyData.eqv, PyData.eqvAll]
theorem dpInts {K : PySem.W.Frag} {H : Hp} : ∀ ns : List Int, DpAll K H (ns.map V.int) (ns.map PyData.int)
  | [] => .nil
  | n :: r => .cons (.int n) (dpInts r)
/-- values that are pairs of ints -/
def Prs (H : Hp) : List V → List (Int × Int) → Prop
  | [], [] => True
  | v :: vs, p :: ps => (∃ T, v = .ref T ∧ H T = some (.tup [.int p.1, .int p.2])) ∧ Prs H vs ps
  | _, _ => False
/-- every tuple stands -/
def Tups (H H' : Hp) : Prop := ∀ b xs, H b = some (.tup xs) → H' b = some (.tup xs)
theorem tups_of {H H' : Hp} (s : Same H H') : Tups H H' := fun b xs h => s _ _ h
theorem Prs.keep {H H' : Hp} (t : Tups H H') : ∀ {vs : List V} {ps : List (Int × Int)}, Prs H vs ps → Prs H' vs ps
  | [], [], h => h
  | _ :: _, _ :: _, ⟨⟨T, e, h⟩, r⟩ => ⟨⟨T, e, t _ _ h⟩, Prs.keep t r⟩
  | [], _ :: _, h => h.elim
  | _ :: _, [], h => h.elim
theorem Prs.len {H : Hp} : ∀ {vs : List V} {ps : List (Int × Int)}, Prs H vs ps → vs.length = ps.length
  | [], [], _ => rfl
  | _ :: _, _ :: _, ⟨_, r⟩ => by
    have := Prs.len r
    simp [this]
  | [], _ :: _, h => h.elim
  | _ :: _, [], h => h.elim
theorem Prs.snoc {H : Hp} {v : V} {p : Int × Int} (hv : ∃ T, v = .ref T ∧ H T = some (.tup [.int p.1, .int p.2])) : ∀ {vs : List V} {ps : List (Int × Int)}, Prs H vs ps → Prs H (vs ++ [v]) (ps ++ [p])
  | [], [], _ => ⟨hv, trivial⟩
  | _ :: _, _ :: _, ⟨h, r⟩ => ⟨h, Prs.snoc hv r⟩
  | [], _ :: _, h => h.elim
  | _ :: _, [], h => h.elim
theorem Prs.dp {K : PySem.W.Frag} {H : Hp} : ∀ {vs : List V} {ps : List (Int × Int)}, Prs H vs ps → DpAll K H vs (ps.map prD)
  | [], [], _ => .nil
  | _ :: _, _ :: _, ⟨⟨T, e, h⟩, r⟩ => by
    subst e
    exact .cons (.tup (SqT.of h) (.cons (.int _) (.cons (.int _) .nil))) (Prs.dp r)
  | [], _ :: _, h => h.elim
  | _ :: _, [], h => h.elim
theorem tups_lst {H : Hp} {p : Addr} {xs : List V} {o : HO} (h : H p = some (.lst xs)) : Tups H (upd H p o) := fun b ys e => by
  have nb : b ≠ p := ne_of e h (fun z => nomatch z)
  rw [upd_ne nb]
  exact e
section
variable {P : Program} {w : World} {K : PySem.W.Frag} {mg : Str → Option Value} {base : Heap}
/-! ### meets -/
abbrev sMeets : Stmt := topS 13
abbrev nMeets : List Str := ["one", "other", "distance", "found", "tick"]
theorem scMeets : FnScope nMeets ["one", "other", "distance"] (defScope sMeets) := ⟨rfl, rfl, rfl, by decide +kernel, rfl, by decide +kernel, by decide +kernel⟩
def spMeets : Sp := fun vs H Q _ => ∃ (a : Addr) (s : List Int) (k : Nat), vs = [.ref a, .ref a, .int k] ∧ Tu H a s ∧ 1 ≤ k ∧ k < s.length ∧ s.length ≤ 1000 ∧
  ∀ H' p xs ps, Same H H' → H' p = some (.lst xs) → Prs H' xs ps → ps.isEmpty = !Sg.meetF s s k → Q (.ref p) H'
/-- a turn's test -/
def mTest (s : List Int) (k t : Nat) : Bool := (s[t]? != some (-1)) && (s[t - k]? == s[t]?)
theorem meet_by {s : List Int} {k : Nat} (b : Bool) (h : b = true ↔ ∀ i, i < s.length - k → mTest s k (k + i) = false) : b = !Sg.meetF s s k := by
  rw [Bool.eq_iff_iff, h, Bool.not_eq_true']
  unfold Sg.meetF
  rw [List.any_eq_false]
  constructor
  · intro g t ht
    have ht' := List.mem_range.mp ht
    by_cases hk : k ≤ t
    · have := g (t - k) (by omega)
      rw [show k + (t - k) = t by omega] at this
      unfold mTest at this
      rw [decide_eq_true hk, Bool.true_and, this]
      exact Bool.false_ne_true
    · rw [decide_eq_false hk]
      simp
  · intro g i hi
    have := g (k + i) (List.mem_range.mpr (by omega))
    rw [decide_eq_true (show k ≤ k + i by omega), Bool.true_and] at this
    unfold mTest
    exact Bool.eq_false_iff.mpr this
theorem ok_meets (T : Bl mg) (A : At K mg "meets" sMeets ["one", "other", "distance"]) : Ok P w K mg base 1 "meets" ["one", "other", "distance"] spMeets := by
  refine A.ok (N := []) fun f fd F => F.ok scMeets (fun vs H Q E h => ?_) (fun cdv A outer s H vs Q E hr h => ?_)
  · obtain ⟨a, ns, k, rfl, _⟩ := h
    rfl
  obtain ⟨a, s, k, rfl, h, h1, h2, h3, q⟩ := h
  refine ⟨_, pss_cons (ps_set (i := 3) scMeets.nd rfl (.inl rfl) (pe_lst pa_nil))
    (pss_cons (ps_for PassesOwn.never rfl (pi_range2 (by rfl) T.range (pa_cons (pe_callB (call_max2 rfl) (by rfl) T.max boot_max (pa_cons pe_int (pa_cons (pv 2) pa_nil)))
        (pa_cons (pe_callB (call_min2 rfl) (by rfl) T.min boot_min (pa_cons (pe_callB call_len_seq (by rfl) T.len PySem.boot_len (pa_cons (pv 0) pa_nil)) (pa_cons (pe_op op_add (pv 2) (pe_callB call_len_seq (by rfl) T.len PySem.boot_len (pa_cons (pv 1) pa_nil))) pa_nil))) pa_nil)))
      (pg_name (i := 4) scMeets.nd rfl (.inl rfl))
      (pss_one (ps_if (PW.pt (pw_and (pt_cmpR op_ne (pe_ix ix_tup (pv 0) (pv 4) (fun _ _ => rfl)) (pe_gi T.nowhere (by rfl)) (nomark _))
          (pw_and1 (pt_cmpR op_eq (pe_ix ix_tup (pv 0) (pv 4) (fun _ _ => rfl)) (pe_ix ix_tup (pv 1) (pe_op op_sub (pv 4) (pv 2)) (fun _ _ => rfl)) (nomark _)))))
        (pss_one (ps_expr (pe_bm PySem.F.plainAttrs_list PySem.F.slot_list_append PySem.F.type_list_append mt_append (pv 3) (pa_cons (pe_tup (pa_cons (pv 4) (pa_cons (pe_ix ix_tup (pv 0) (pv 4) (fun _ _ => rfl)) pa_nil))) pa_nil)))) pss_nil)))
    (pss_one (ps_ret (pv 3)))), ?_⟩
  have hl : (s.map V.int).length = s.length := List.length_map _
  refine ⟨Nat.zero_le _, fun p np => ?_⟩
  have s1 : Same H (upd H p (.lst [])) := same_upd np
  have hA := s1 _ _ h
  refine ⟨.int k, rfl, 0, k, rfl, .ref a, rfl, a, _, rfl, .inr (SqT.of hA), .int k, rfl, .ref a, rfl, a, _, rfl, .inr (SqT.of hA), (k : Int), _, rfl, rfl, _, _, rfl, ?_⟩
  rw [if_pos (show (k : Int) > 0 by omega), hl, if_neg (show ¬ ((k : Int) + (s.length : Int) < (s.length : Int)) by omega)]
  refine ⟨(k : Int), (s.length : Int), rfl, ⟨by omega, by omega, by omega, by omega⟩, ?_⟩
  refine for_range (lo := (k : Int)) (n := ((s.length : Int) - k).toNat) (fun i σ H' => ∃ y xs ps, σ = [some (.ref a), some (.ref a), some (.int k), some (.ref p), y] ∧ Same H H' ∧ H' p = some (.lst xs) ∧ Prs H' xs ps ∧ xs.length ≤ i ∧
      (ps.isEmpty = true ↔ ∀ j, j < i → mTest s k (k + j) = false))
    ⟨none, [], [], rfl, s1, upd_same, trivial, Nat.le_refl _, ⟨fun _ j hj => absurd hj (Nat.not_lt_zero _), fun _ => rfl⟩⟩ (fun i σ H' hi g => ?_) (fun σ H' g => ?_)
  · obtain ⟨y, xs, ps, rfl, s', e, pr, hx, hp⟩ := g
    have h' := s' _ _ h
    have ht : k + i < s.length := by omega
    have gx : s[k + i]? = some s[k + i] := List.getElem?_eq_getElem ht
    have gy : s[i]? = some s[i] := List.getElem?_eq_getElem (by omega)
    have ax : atI (s.map V.int) ((k : Int) + i) = some (.int s[k + i]) := at_of (j := k + i) (by omega) (getI gx)
    have ay : atI (s.map V.int) ((k : Int) + i - k) = some (.int s[i]) := at_of (j := i) (by omega) (getI gy)
    have test : mTest s k (k + i) = (decide (s[k + i] ≠ -1) && decide (s[k + i] = s[i])) := by
      unfold mTest
      rw [show k + i - k = i by omega, gx, gy, Bool.eq_iff_iff]
      simp
      intro _
      exact eq_comm
    refine ⟨_, rfl, _, rfl, a, _, _, _, rfl, rfl, SqT.of h', ax, rfl, _, rfl, ?_⟩
    have step : mTest s k (k + i) = false → ((∀ j, j < i + 1 → mTest s k (k + j) = false) ↔ ∀ j, j < i → mTest s k (k + j) = false) := by
      intro hb
      constructor
      · exact fun g j hj => g j (by omega)
      · intro g j hj
        by_cases hji : j = i
        · rw [hji, hb]
        · exact g j (by omega)
    have neg : mTest s k (k + i) = false → ∃ y xs' ps', [some (V.ref a), some (.ref a), some (.int k), some (.ref p), some (.int ((k : Int) + i))] = [some (.ref a), some (.ref a), some (.int k), some (.ref p), y] ∧ Same H H' ∧ H' p = some (.lst xs') ∧ Prs H' xs' ps' ∧ xs'.length ≤ i + 1 ∧
        (ps'.isEmpty = true ↔ ∀ j, j < i + 1 → mTest s k (k + j) = false) := fun hf => by
      refine ⟨_, xs, ps, rfl, s', e, pr, by omega, ?_⟩
      rw [hp, step hf]
    by_cases c1 : s[k + i] = -1
    · refine iteNS (congrArg V.int c1) ?_
      exact neg (by rw [test, decide_eq_false (by simpa using c1), Bool.false_and])
    · refine iteNN (fun z => c1 (V.int.inj z)) ?_
      refine ⟨_, rfl, _, rfl, a, _, _, _, rfl, rfl, SqT.of h', ax, _, rfl, _, rfl, _, rfl, _, _, rfl, rfl, a, _, _, _, rfl, rfl, SqT.of h', ay, rfl, _, rfl, ?_⟩
      by_cases c2 : s[k + i] = s[i]
      · refine iteD (congrArg V.int c2) ?_
        refine ⟨.ref p, rfl, .inl ⟨rfl, _, SqL.of e⟩, ?_⟩
        refine ⟨_, rfl, _, rfl, _, rfl, a, _, _, _, rfl, rfl, SqT.of h', ax, (by show 2 ≤ sizeLine; decide), fun u nu => ?_⟩
        have npu : p ≠ u := ne_of_none e nu
        have e2 : upd H' u (.tup [.int ((k : Int) + i), .int s[k + i]]) p = some (.lst xs) := by
          rw [upd_ne npu]
          exact e
        refine ⟨p, xs, .ref u, rfl, rfl, e2, small1000 (by omega), ?_⟩
        refine ⟨_, xs ++ [.ref u], ps ++ [((k : Int) + i, s[k + i])], rfl, same_old (same_upd2 s' nu) np, upd_same, ?_, ?_, ?_⟩
        · refine Prs.snoc ⟨u, rfl, ?_⟩ (pr.keep fun b ys eb => ?_)
          · rw [upd_ne npu.symm, upd_same]
          · exact tups_lst e2 _ _ (tups_of (same_upd nu) _ _ eb)
        · rw [List.length_append, List.length_singleton]
          omega
        · constructor
          · intro z
            simp at z
          · intro z
            have := z i (by omega)
            rw [test, decide_eq_true c1, decide_eq_true c2] at this
            cases this
      · refine iteDN (fun z => c2 (V.int.inj z)) ?_
        exact neg (by rw [test, decide_eq_false c2, Bool.and_false])
  · obtain ⟨y, xs, ps, rfl, s', e, pr, hx, hp⟩ := g
    refine ⟨.ref p, rfl, q H' p xs ps s' e pr (meet_by _ ?_)⟩
    rw [show ((s.length : Int) - k).toNat = s.length - k by omega] at hp
    exact hp
/-! ### bars_of -/
abbrev sBars : Stmt := topS 14
abbrev nBars : List Str := ["one", "other", "distance"]
theorem scBars : FnScope nBars ["one", "other"] (defScope sBars) := ⟨rfl, rfl, rfl, by decide +kernel, rfl, by decide +kernel, by decide +kernel⟩
def spBars : Sp := fun vs H Q _ => ∃ (a : Addr) (s : List Int), vs = [.ref a, .ref a] ∧ Tu H a s ∧ 1 ≤ s.length ∧ s.length ≤ 1000 ∧ ∀ H' p, Same H H' → Tu H' p (Sg.barsF s) → Q (.ref p) H'
def barsN (s : List Int) (n : Nat) : List Int := ((List.range n).map fun i => i + 1).filterMap fun k => if Sg.meetF s s k = true then some (k : Int) else none
theorem barsN_succ (s : List Int) (n : Nat) : barsN s (n + 1) = barsN s n ++ (if Sg.meetF s s (n + 1) = true then [((n + 1 : Nat) : Int)] else []) := by
  unfold barsN
  rw [List.range_succ, List.map_append, List.filterMap_append]
  congr 1
  by_cases h : Sg.meetF s s (n + 1) = true
  · rw [if_pos h]
    simp [h]
  · rw [if_neg h]
    simp [h]
theorem barsN_len (s : List Int) : ∀ n, (barsN s n).length ≤ n
  | 0 => Nat.le_refl _
  | n + 1 => by
    have := barsN_len s n
    rw [barsN_succ, List.length_append]
    split <;> simp <;> omega
theorem ok_bars (T : Bl mg) (A : At K mg "bars_of" sBars ["one", "other"]) (G : Ok P w K mg base 1 "meets" ["one", "other", "distance"] spMeets) : Ok P w K mg base 2 "bars_of" ["one", "other"] spBars := by
  refine A.ok (N := []) fun f fd F => F.ok scBars (fun vs H Q E h => ?_) (fun cdv A outer st H vs Q E hr h => ?_)
  · obtain ⟨a, ns, rfl, _⟩ := h
    rfl
  obtain ⟨a, s, rfl, h, h1, h3, q⟩ := h
  refine ⟨_, pss_one (ps_ret (pe_callTy call_tuple_of (by rfl) T.tuple boot_tuple (pa_cons
    (pe_lc (own := [("distance", 2)]) (g := gName 2) rfl scBars.nd (pi_range2 (by rfl) T.range (pa_cons pe_int (pa_cons (pe_callB call_len_seq (by rfl) T.len PySem.boot_len (pa_cons (pv 0) pa_nil)) pa_nil)))
      (blkOk_by (own := [("distance", 2)]) (N := nBars) (sc := defScope sBars) (by decide +kernel))
      (fun _ _ _ _ _ => pg_name (i := 2) scBars.nd rfl (Or.inl rfl))
      (fun _ _ _ _ _ => pts_one (pt_cmpR (op_neDK hr.units rfl) (pe_ok G hr (by rfl) (pa_cons (pv 0) (pa_cons (pv 1) (pa_cons (pv 2) pa_nil)))) (pe_lst pa_nil) (nomark _)))
      (fun _ _ _ _ _ => pv 2)) pa_nil))), ?_⟩
  have hl : (s.map V.int).length = s.length := List.length_map _
  refine ⟨.ref a, rfl, a, _, rfl, .inr (SqT.of h), 1, _, rfl, ⟨by omega, by omega, by omega, by rw [hl]; omega⟩, fun D hD => ?_⟩
  refine lc_range (lo := 1) (n := _) (fun i H' => Same H H' ∧ H' D = some (.lst ((barsN s i).map V.int))) ⟨same_upd hD, upd_same⟩ (fun i H' hi g => ?_) (fun H' g => ?_)
  · obtain ⟨s', e⟩ := g
    rw [hl] at hi
    have hi' : i + 1 < s.length := by omega
    refine ⟨rfl, .ref a, rfl, .ref a, rfl, .int (1 + i), rfl, a, s, i + 1, by rw [show ((1 : Int) + i) = ((i + 1 : Nat) : Int) by omega], s' _ _ h, by omega, hi', h3, fun H2 p xs ps s2 e2 pr hp => ?_⟩
    refine ⟨Nat.zero_le _, fun z hz => ?_⟩
    have nz : p ≠ z := ne_of_none e2 hz
    have e3 : upd H2 z (.lst []) p = some (.lst xs) := by
      rw [upd_ne nz]
      exact e2
    refine ⟨.list (ps.map prD), .list [], .lst (SqL.of e3) (Prs.dp (pr.keep (tups_of (same_upd hz)))), .lst (SqL.of upd_same) .nil, shPrsL ps, rfl, ?_⟩
    have s3 : Same H (upd H2 z (.lst [])) := same_upd2 (s'.trans s2) hz
    have e4 : upd H2 z (.lst []) D = some (.lst ((barsN s i).map V.int)) := same_upd2 s2 hz _ _ e
    rw [eqvNil, hp, Bool.not_not]
    refine ⟨_, rfl, ?_⟩
    refine ite2 (fun c => ?_) (fun c => ?_)
    · refine ⟨_, rfl, _, e4, ?_, same_old s3 hD, ?_⟩
      · rw [List.length_map]
        have := barsN_len s i
        exact small1000 (by omega)
      · rw [upd_same, barsN_succ, if_pos c, List.map_append, show ((1 : Int) + i) = ((i + 1 : Nat) : Int) by omega]
        rfl
    · refine ⟨s3, ?_⟩
      rw [barsN_succ, if_neg c, List.append_nil]
      exact e4
  · obtain ⟨s', e⟩ := g
    rw [hl, show ((s.length : Int) - 1).toNat = s.length - 1 by omega] at e
    exact ⟨D, _, rfl, .inl ⟨SqL.of e, fun l hl => q _ l (same_upd2 s' hl) upd_same⟩⟩
/-! ### visits_of -/
abbrev sVisits : Stmt := topS 15
abbrev nVisits : List Str := ["work", "stations", "station"]
theorem scVisits : FnScope nVisits ["work"] (defScope sVisits) := ⟨rfl, rfl, rfl, by decide +kernel, rfl, by decide +kernel, by decide +kernel⟩
def spVisits : Sp := fun vs H Q _ => ∃ (a : Addr) (ns : List Int), vs = [.ref a] ∧ Tu H a ns ∧ Sg.Work ns ∧ ns.length ≤ 1000 ∧ ∀ H', Same H H' → Q (.int (Sg.visitsF ns)) H'
theorem filter_take {p : Int → Bool} {ns : List Int} {i : Nat} {n : Int} (h : ns[i]? = some n) : (ns.take (i + 1)).filter p = (ns.take i).filter p ++ (if p n = true then [n] else []) := by
  rw [List.take_add_one, h, List.filter_append]
  congr 1
  show List.filter p [n] = _
  by_cases c : p n = true
  · rw [if_pos c, List.filter_cons_of_pos c, List.filter_nil]
  · rw [if_neg c, List.filter_cons_of_neg c, List.filter_nil]
theorem ok_visits (T : Bl mg) (A : At K mg "visits_of" sVisits ["work"]) : Ok P w K mg base 1 "visits_of" ["work"] spVisits := by
  refine A.ok (N := []) fun f fd F => F.ok scVisits (fun vs H Q E h => ?_) (fun cdv A outer s H vs Q E hr h => ?_)
  · obtain ⟨a, ns, rfl, _⟩ := h
    rfl
  obtain ⟨a, ns, rfl, h, W, h3, q⟩ := h
  refine ⟨_, pss_cons (ps_set (i := 1) scVisits.nd rfl (.inr rfl)
      (pe_lc (own := [("station", 2)]) (g := gName 2) rfl scVisits.nd (pi_tup (pv 0)) (blkOk_by (own := [("station", 2)]) (N := nVisits) (sc := defScope sVisits) (by decide +kernel))
        (fun _ _ _ _ _ => pg_name (i := 2) scVisits.nd rfl (Or.inl rfl)) (fun _ _ _ _ _ => pts_one (pt_cmpR op_ne (pv 2) (pe_gi T.nowhere (by rfl)) (nomark _))) (fun _ _ _ _ _ => pv 2)))
    (pss_one (ps_ret (pe_callB (cr_max rfl) (by rfl) T.max boot_max (pa_cons
      (pe_lc (own := [("station", 2)]) (g := gName 2) (tt := tYes) rfl scVisits.nd (pi_list (pv 1)) (blkOk_by (own := [("station", 2)]) (N := nVisits) (sc := defScope sVisits) (by decide +kernel))
        (fun _ _ _ _ _ => pg_name (i := 2) scVisits.nd rfl (Or.inl rfl)) (fun _ _ _ _ _ => pts_nil)
        (fun _ _ _ _ _ => pe_bmK rfl PySem.F.plainAttrs_list PySem.F.slot_list_count PySem.F.type_list_count (mt_lcountK rfl) (pv 1) (pa_cons (pv 2) pa_nil))) pa_nil)))), ?_⟩
  have hl : (ns.map V.int).length = ns.length := List.length_map _
  refine ⟨_, rfl, a, rfl, ⟨_, SqT.of h⟩, fun D hD => ?_⟩
  refine lc_tup (xs := ns.map V.int) (fun i H' => Same H H' ∧ Li H' D ((ns.take i).filter (fun x => x != -1))) ⟨same_upd hD, upd_same⟩ (fun i H' _ p => SqT.of (p.1 _ _ h)) (fun i x H' hx g => ?_) (fun H' g => ?_)
  · obtain ⟨n, hn, rfl⟩ := getI' hx
    obtain ⟨s', e⟩ := g
    have hi := (List.getElem?_eq_some_iff.mp hn).1
    refine ⟨rfl, _, rfl, rfl, _, rfl, ?_⟩
    by_cases c : n = -1
    · refine iteNS (congrArg V.int c) ⟨s', ?_⟩
      rw [filter_take hn, if_neg (by simp [c]), List.append_nil]
      exact e
    · refine iteNN (fun z => c (V.int.inj z)) ⟨_, rfl, _, e, ?_, same_old s' hD, ?_⟩
      · rw [List.length_map]
        have := List.length_filter_le (fun x => x != -1) (ns.take i)
        have := List.length_take (i := i) (l := ns)
        exact small1000 (by omega)
      · rw [Li, upd_same, filter_take hn, if_pos (by simp [c]), List.map_append]
        rfl
  · obtain ⟨s', e⟩ := g
    rw [hl, List.take_length] at e
    have hst : ∀ x ∈ ns.filter (fun x => x != -1), x ∈ ns ∧ x ≠ -1 := fun x hx => by simpa using List.mem_filter.mp hx
    have hcount : ∀ x, x ≠ -1 → (ns.filter (fun x => x != -1)).count x = ns.count x := fun x hx => List.count_filter (by simp [hx])
    obtain ⟨x0, h0, hx0⟩ := Sg.work_at W
    have hm0 : x0 ∈ ns.filter (fun x => x != -1) := List.mem_filter.mpr ⟨List.mem_of_getElem? h0, by simp [hx0]⟩
    generalize hfs : ns.filter (fun x => x != -1) = fs at *
    have hfl : fs.length ≤ 1000 := by
      rw [← hfs]
      have := List.length_filter_le (fun x => x != -1) ns
      omega
    refine ⟨_, rfl, D, rfl, ⟨_, SqL.of e⟩, fun D2 hD2 => ?_⟩
    refine lc_list (xs := fs.map V.int) (fun i H2 => Same H' H2 ∧ Li H2 D2 ((fs.take i).map fun x => ((fs.count x : Nat) : Int))) ⟨same_upd hD2, upd_same⟩ (fun i H2 _ p => SqL.of (p.1 _ _ e)) (fun i x H2 hx g => ?_) (fun H2 g => ?_)
    · obtain ⟨n, hn, rfl⟩ := getI' hx
      obtain ⟨s2, e2⟩ := g
      have hi := (List.getElem?_eq_some_iff.mp hn).1
      have eD := s2 _ _ e
      refine ⟨rfl, .ref D, rfl, .inl ⟨rfl, _, SqL.of eD⟩, _, rfl, D, fs, n, rfl, rfl, SqL.of eD, _, e2, ?_, same_old s2 hD2, ?_⟩
      · rw [List.length_map, List.length_map, List.length_take]
        exact small1000 (by omega)
      · rw [Li, upd_same, List.take_add_one, hn, List.map_append, List.map_append]
        rfl
    · obtain ⟨s2, e2⟩ := g
      rw [List.length_map, List.take_length] at e2
      refine ⟨D2, _, rfl, SqL.of e2, ?_, fun m hm hall => ?_⟩
      · rw [List.length_map]
        exact List.length_pos_of_mem hm0
      · have em : m = Sg.visitsF ns := by
          refine Sg.visits_of W ?_ fun x hx hn => ?_
          · obtain ⟨x, hx, ex⟩ := List.mem_map.mp hm
            obtain ⟨a1, a2⟩ := hst x hx
            exact ⟨x, a1, a2, by rw [← ex, hcount x a2]⟩
          · have hxf : x ∈ fs := by
              rw [← hfs]
              exact List.mem_filter.mpr ⟨hx, by simp [hn]⟩
            have := hall _ (List.mem_map.mpr ⟨x, hxf, rfl⟩)
            rwa [hcount x hn] at this
        rw [em]
        exact q H2 (s'.trans s2)
/-! ### is_constant -/
abbrev sConst : Stmt := topS 17
abbrev nConst : List Str := ["bars", "distance", "bar"]
theorem scConst : FnScope nConst ["bars", "distance"] (defScope sConst) := ⟨rfl, rfl, rfl, by decide +kernel, rfl, by decide +kernel, by decide +kernel⟩
def spConst : Sp := fun vs H Q _ => ∃ (a : Addr) (bs : List Int) (d : Int), vs = [.ref a, .int d] ∧ Tu H a bs ∧ 0 < d ∧ bs.length ≤ 1000 ∧ ∀ H', Same H H' → Q (.bl (Sg.constF bs d)) H'
theorem ok_const (T : Bl mg) (A : At K mg "is_constant" sConst ["bars", "distance"]) : Ok P w K mg base 1 "is_constant" ["bars", "distance"] spConst := by
  refine A.ok (N := []) fun f fd F => F.ok scConst (fun vs H Q E h => ?_) (fun cdv A outer s H vs Q E hr h => ?_)
  · obtain ⟨a, ns, d, rfl, _⟩ := h
    rfl
  obtain ⟨a, bs, d, rfl, h, hd, h3, q⟩ := h
  refine ⟨_, pss_one (ps_ret (pe_callB (cr_all rfl) (by rfl) T.all boot_all (pa_cons
      (pe_lc (own := [("bar", 2)]) (g := gName 2) (tt := tYes) rfl scConst.nd (pi_tup (pv 0)) (blkOk_by (own := [("bar", 2)]) (N := nConst) (sc := defScope sConst) (by decide +kernel))
        (fun _ _ _ _ _ => pg_name (i := 2) scConst.nd rfl (Or.inl rfl)) (fun _ _ _ _ _ => pts_nil)
        (fun _ _ _ _ _ => pe_cmpR op_ne (pe_op op_mod (pv 2) (pv 1)) pe_int (nomark _))) pa_nil))), ?_⟩
  have hl : (bs.map V.int).length = bs.length := List.length_map _
  refine ⟨_, rfl, a, rfl, ⟨_, SqT.of h⟩, fun D hD => ?_⟩
  refine lc_tup (xs := bs.map V.int) (fun i H' => Same H H' ∧ H' D = some (.lst (((bs.take i).map fun b => b % d != 0).map V.bl))) ⟨same_upd hD, upd_same⟩ (fun i H' _ p => SqT.of (p.1 _ _ h)) (fun i x H' hx g => ?_) (fun H' g => ?_)
  · obtain ⟨n, hn, rfl⟩ := getI' hx
    obtain ⟨s', e⟩ := g
    have hi := (List.getElem?_eq_some_iff.mp hn).1
    refine ⟨rfl, _, rfl, _, rfl, n, d, rfl, rfl, hd, rfl, _, e, ?_, same_old s' hD, ?_⟩
    · rw [List.length_map, List.length_map, List.length_take]
      exact small1000 (by omega)
    · rw [upd_same, List.take_add_one, hn, List.map_append, List.map_append]
      have eb : (!decide (V.int (n % d) = V.int 0)) = (n % d != 0) := by
        by_cases c : n % d = 0
        · rw [c]; rfl
        · rw [decide_eq_false (fun z => c (V.int.inj z))]
          simp [c]
      rw [eb]
      rfl
  · obtain ⟨s', e⟩ := g
    rw [hl, List.take_length] at e
    refine ⟨D, _, rfl, SqL.of e, ?_⟩
    have ea : ((bs.map fun b => b % d != 0).all id) = Sg.constF bs d := by
      unfold Sg.constF
      rw [List.all_map]
      rfl
    rw [ea]
    exact q H' s'
end
end SgW
namespace SgW
open PySem PySem.Spec PyProof.Rows L2 SgR
/-! ### tuples cut and joined -/
theorem cutV_take (ns : List Int) (k : Nat) : cutV (ns.map V.int) none (some (k : Int)) = (ns.take k).map V.int := by
  unfold cutV
  rw [HT.sIx_none, HT.sIx_nat, List.drop_zero, Nat.sub_zero, List.map_take, List.length_map, List.take_eq_take_iff, List.length_map]
  omega
theorem cutV_drop (ns : List Int) (k : Nat) : cutV (ns.map V.int) (some (k : Int)) none = (ns.drop k).map V.int := by
  unfold cutV
  rw [HT.sIx_none, HT.sIx_nat, List.map_drop, List.length_map]
  have e : (ns.map V.int).drop (min k ns.length) = (ns.map V.int).drop k := by
    by_cases h : k ≤ ns.length
    · rw [Nat.min_eq_left h]
    · rw [Nat.min_eq_right (by omega), List.drop_eq_nil_of_le (by simp), List.drop_eq_nil_of_le (by simp; omega)]
  rw [e]
  refine List.take_of_length_le ?_
  rw [List.length_drop, List.length_map]
  omega
theorem slA_of {K : PySem.W.Frag} {H : Hp} {a : Addr} {xs : List V} {lo hi : Option Int} {Q : VK} (h : H a = some (.tup xs)) (q : ∀ H' p, Same H H' → H' p = some (.tup (cutV xs lo hi)) → Q (.ref p) H') : rSlA K (.ref a) lo hi H Q :=
  ⟨a, xs, rfl, SqT.of h, fun w => q H a (Same.refl H) (by
    have e : cutV xs lo hi = xs := by
      unfold cutV
      rw [w.1, w.2, List.drop_zero, Nat.sub_zero, List.take_length]
    rw [e]
    exact h), fun _ p hp => q _ p (same_upd hp) upd_same⟩
theorem slN_of {K : PySem.W.Frag} {σ : L2.St} {H : Hp} {a : Addr} {xs : List V} {lo : Option Int} {Q : VK} (h : H a = some (.tup xs)) (q : ∀ H' p, Same H H' → H' p = some (.tup (cutV xs lo none)) → Q (.ref p) H') : tNoPart σ H (fun u H3 => rSlA K (.ref a) lo u H3 Q) := slA_of h q
theorem catA_of {K : PySem.W.Frag} {H : Hp} {a b : Addr} {xs ys : List Int} {Q : VK} (h : Tu H a xs) (h' : Tu H b ys) (hz : xs.length + ys.length ≤ 1000) (q : ∀ H' p, Same H H' → Tu H' p (xs ++ ys) → Q (.ref p) H') : rCatA K (.ref a) (.ref b) H Q :=
  ⟨a, b, _, _, rfl, rfl, SqT.of h, SqT.of h', by rw [List.length_map, List.length_map]; exact small hz,
    fun e => q H b (Same.refl H) (by
      have e' : xs = [] := by simpa using e
      rw [e']
      exact h'),
    fun _ e => q H a (Same.refl H) (by
      have e' : ys = [] := by simpa using e
      rw [e', List.append_nil]
      exact h),
    fun _ _ p hp => q _ p (same_upd hp) (by rw [Tu, upd_same, List.map_append])⟩
theorem repA_of {K : PySem.W.Frag} {H : Hp} {a : Addr} {n k : Int} {Q : VK} (h : Tu H a [n]) (h0 : 0 ≤ k) (h1 : k ≤ 1000) (q : ∀ H' p, Same H H' → Tu H' p (List.replicate k.toNat n) → Q (.ref p) H') : rRepA K (.ref a) (.int k) H Q :=
  ⟨a, k, _, rfl, rfl, SqT.of h, by simp, h0, h1, by simp,
    fun e => q H a (Same.refl H) (by
      subst e
      exact h),
    fun _ p hp => q _ p (same_upd hp) (by
      rw [Tu, upd_same, List.map_replicate]
      congr 2
      generalize k.toNat = m
      induction m with
      | zero => rfl
      | succ m ih => rw [List.replicate_succ, List.flatten_cons, ih, List.replicate_succ]; rfl)⟩
/-- a comprehension over zip of two tuples of any lengths -/
theorem lc_zipT {K : PySem.W.Frag} {a b : Addr} {xs ys : List V} {g : TG} {tt : TT} {te : TE} {vs : List Nat} {σ : L2.St} {H1 : Hp} {D : Addr} {Qd : Hp → Prop} (n : Nat) (hn : n = min xs.length ys.length) (Pv : Nat → Hp → Prop) (h0 : Pv 0 (upd H1 D (.lst []))) (hq : ∀ i H, Pv i H → SqT K H a xs ∧ SqT K H b ys)
    (hs : ∀ i x y T H, xs[i]? = some x → ys[i]? = some y → Pv i H → H T = none → g (.ref T) (wipe σ vs) (upd H T (.tup [x, y])) fun σ2 H2 => wipe σ2 vs = wipe σ vs ∧ tt σ2 H2 fun b H3 =>
      if b = true then te σ2 H3 fun y H4 => ∃ acc, H4 D = some (.lst acc) ∧ acc.length < sizeLine ∧ Pv (i + 1) (upd H4 D (.lst (acc ++ [y]))) else Pv (i + 1) H3) (hd : ∀ H, Pv n H → Qd H) :
    ∃ W : Nat → Nat → Hp → Prop, (∃ m, W 0 m (upd H1 D (.lst []))) ∧ ∀ i m H, W i m H →
      ((RZ.ItzT K a b).stop i H ∧ Qd H) ∨ ((RZ.ItzT K a b).go i H ∧ ∃ Nx : Hp → Prop, (∀ H', Nx H' → ∃ m', m' < m ∧ W (i + 1) m' H') ∧ ∀ x H', (RZ.ItzT K a b).yld i H x H' → g x (wipe σ vs) H' fun σ2 H2 => wipe σ2 vs = wipe σ vs ∧ tt σ2 H2 fun b H3 =>
        if b = true then te σ2 H3 fun y H4 => ∃ acc, H4 D = some (.lst acc) ∧ acc.length < sizeLine ∧ Nx (upd H4 D (.lst (acc ++ [y]))) else Nx H3) := by
  refine ⟨fun i m H => m = n - i ∧ i ≤ n ∧ Pv i H, ⟨n, by simp, Nat.zero_le _, h0⟩, ?_⟩
  rintro i m H ⟨rfl, hi, p⟩
  obtain ⟨qx, qy⟩ := hq i H p
  by_cases hlt : i < n
  · have hx : xs[i]? = some xs[i] := List.getElem?_eq_getElem (by omega)
    have hy : ys[i]? = some ys[i] := List.getElem?_eq_getElem (by omega)
    refine .inr ⟨⟨xs, ys, _, _, qx, qy, hx, hy⟩, Pv (i + 1), fun H' p' => ⟨n - (i + 1), by omega, rfl, hlt, p'⟩, fun v H' y => ?_⟩
    obtain ⟨T, x', y', rfl, hT, rfl, f1, f2⟩ := y
    exact hs i x' y' T H (f1 xs qx) (f2 ys qy) p hT
  · have e : i = n := by omega
    subst e
    exact .inl ⟨⟨xs, ys, qx, qy, by omega⟩, hd H p⟩
section
variable {P : Program} {w : World} {K : PySem.W.Frag} {mg : Str → Option Value} {base : Heap}
/-! ### are_waits -/
abbrev sAreWaits : Stmt := topS 22
abbrev nAreWaits : List Str := ["work", "thing", "one"]
theorem scAreWaits : FnScope nAreWaits ["work", "thing"] (defScope sAreWaits) := ⟨rfl, rfl, rfl, by decide +kernel, rfl, by decide +kernel, by decide +kernel⟩
def spAreWaits : Sp := fun vs H Q _ => ∃ (a b : Addr) (ns ws : List Int), vs = [.ref a, .ref b] ∧ Tu H a ns ∧ Tu H b ws ∧ ws.length + 1 = ns.length ∧ (∀ y ∈ ws, 0 ≤ y ∧ y ≤ 11) ∧ ns.length ≤ 1000 ∧ ∀ H', Same H H' → Q (.bl true) H'
theorem ok_areWaits (T : Bl mg) (A : At K mg "are_waits" sAreWaits ["work", "thing"]) (G : Ok P w K mg base 1 "is_between" ["thing", "low", "high"] spBetween) : Ok P w K mg base 2 "are_waits" ["work", "thing"] spAreWaits := by
  refine A.ok (N := []) fun f fd F => F.ok scAreWaits (fun vs H Q E h => ?_) (fun cdv A outer s H vs Q E hr h => ?_)
  · obtain ⟨a, b, ns, ws, rfl, _⟩ := h
    rfl
  obtain ⟨a, b, ns, ws, rfl, h, h', hlen, hrng, hz, q⟩ := h
  refine ⟨_, pss_cons (ps_if (PW.pt (pw_or (pt_not (pt_val (pe_callB call_isi (by rfl) T.isinstance boot_isinstance (pa_cons (pv 1) (pa_cons (pe_bltn (v := .ty "tuple") (by rfl) T.tuple boot_tuple rfl) pa_nil)))))
      (pw_or1 (pt_cmpR op_ne (pe_callB call_len_seq (by rfl) T.len PySem.boot_len (pa_cons (pv 1) pa_nil)) (pe_op op_sub (pe_callB call_len_seq (by rfl) T.len PySem.boot_len (pa_cons (pv 0) pa_nil)) pe_int) (nomark _)))))
      (pss_one (ps_ret pe_bl)) pss_nil)
    (pss_one (ps_ret (pe_callB (cr_all rfl) (by rfl) T.all boot_all (pa_cons
        (pe_lc (own := [("one", 2)]) (g := gName 2) (tt := tYes) rfl scAreWaits.nd (pi_tup (pv 1)) (blkOk_by (own := [("one", 2)]) (N := nAreWaits) (sc := defScope sAreWaits) (by decide +kernel))
          (fun _ _ _ _ _ => pg_name (i := 2) scAreWaits.nd rfl (Or.inl rfl)) (fun _ _ _ _ _ => pts_nil)
          (fun _ _ _ _ _ => pe_ok G hr (by rfl) (pa_cons (pv 2) (pa_cons pe_int (pa_cons (pe_gi T.mostWait (by rfl)) pa_nil))))) pa_nil)))), ?_⟩
  have hl : (ns.map V.int).length = ns.length := List.length_map _
  have hl' : (ws.map V.int).length = ws.length := List.length_map _
  refine ⟨_, rfl, .ref b, .ty "tuple", .type "tuple", .type "tuple", true, rfl, .ty _, .base (.tup h'), kit_ty (by decide +kernel), true, rfl, iteF ?_⟩
  refine ⟨_, rfl, b, _, rfl, .inr (SqT.of h'), _, rfl, a, _, rfl, .inr (SqT.of h), _, _, rfl, rfl, rfl, _, rfl, ?_⟩
  refine iteNS (by rw [hl, hl']; congr 1; omega) ?_
  refine ⟨_, rfl, b, rfl, ⟨_, SqT.of h'⟩, fun D hD => ?_⟩
  refine lc_tup (xs := ws.map V.int) (fun i H' => Same H H' ∧ H' D = some (.lst (List.replicate i (.bl true)))) ⟨same_upd hD, upd_same⟩ (fun i H' _ p => SqT.of (p.1 _ _ h')) (fun i x H' hx p => ?_) (fun H' p => ?_)
  · obtain ⟨n, hn, rfl⟩ := getI' hx
    have hr := hrng n (List.mem_of_getElem? hn)
    have hi := (List.getElem?_eq_some_iff.mp hn).1
    refine ⟨rfl, ?_⟩
    refine ⟨_, rfl, n, 0, 11, rfl, hr.1, hr.2, _, p.2, by rw [List.length_replicate]; exact small1000 (by omega), same_old p.1 hD, ?_⟩
    rw [upd_same, List.replicate_succ']
  · have e := p.2
    rw [hl'] at e
    refine ⟨D, List.replicate ws.length true, rfl, SqL.of (by rw [List.map_replicate]; exact e), ?_⟩
    have ea : (List.replicate ws.length true).all id = true := by simp
    rw [ea]
    exact q H' p.1
/-! ### stretched_by -/
abbrev sStretchedBy : Stmt := topS 23
abbrev nStretchedBy : List Str := ["work", "waits", "found", "station", "wait"]
theorem scStretchedBy : FnScope nStretchedBy ["work", "waits"] (defScope sStretchedBy) := ⟨rfl, rfl, rfl, by decide +kernel, rfl, by decide +kernel, by decide +kernel⟩
def spStretchedBy : Sp := fun vs H Q _ => ∃ (a b : Addr) (ns ws : List Int), vs = [.ref a, .ref b] ∧ Tu H a ns ∧ Tu H b ws ∧ ws.length + 1 = ns.length ∧ (∀ y ∈ ws, 0 ≤ y ∧ y ≤ 11) ∧ ns.length ≤ 12 ∧ ∀ H' p, Same H H' → Tu H' p (Sg.stretchedF ns ws) → Q (.ref p) H'
theorem part_len (ns ws : List Int) (i : Nat) (hr : ∀ y ∈ ws, 0 ≤ y ∧ y ≤ 11) (hz : ns.length ≤ 12) (hlen : ws.length + 1 = ns.length) : (ns.take 1 ++ Sg.stF ((ns.drop 1).take i) (ws.take i)).length ≤ 200 := by
  have a := Sg.stF_len ((ns.drop 1).take i) (ws.take i)
  have b := Sg.toNat_sum (ws.take i) (fun y hy => (hr y (List.mem_of_mem_take hy)).2)
  rw [List.length_append]
  have c := List.length_take (i := 1) (l := ns)
  have d := List.length_take (i := i) (l := ns.drop 1)
  have e := List.length_take (i := i) (l := ws)
  have f := List.length_drop (i := 1) (l := ns)
  omega
theorem ok_stretchedBy (T : Bl mg) (A : At K mg "stretched_by" sStretchedBy ["work", "waits"]) : Ok P w K mg base 1 "stretched_by" ["work", "waits"] spStretchedBy := by
  refine A.ok (N := []) fun f fd F => F.ok scStretchedBy (fun vs H Q E h => ?_) (fun cdv A outer s H vs Q E hr h => ?_)
  · obtain ⟨a, b, ns, ws, rfl, _⟩ := h
    rfl
  obtain ⟨a, b, ns, ws, rfl, h, h', hlen, hrng, hz, q⟩ := h
  refine ⟨_, pss_cons (ps_set (i := 2) scStretchedBy.nd rfl (.inl rfl) (pe_slice sl_tupA (pv 0) po_none (po_some pe_int)))
    (pss_cons (ps_for PassesOwn.never rfl (RZ.pi_zipA (by rfl) T.zip (pa_cons (pe_slice sl_tupA (pv 0) (po_some pe_int) po_none) (pa_cons (pv 1) pa_nil)))
        (pg_tup rfl (pgs_cons (pg_name (i := 3) scStretchedBy.nd rfl (.inl rfl)) (pgs_cons (pg_name (i := 4) scStretchedBy.nd rfl (.inl rfl)) pgs_nil)))
        (pss_one (ps_set (i := 2) scStretchedBy.nd rfl (.inl rfl) (pe_op op_catA (pe_op op_catA (pv 2) (pe_op op_repA (pe_tup (pa_cons (pe_gi T.nowhere (by rfl)) pa_nil)) (pv 4))) (pe_tup (pa_cons (pv 3) pa_nil))))))
    (pss_one (ps_ret (pv 2)))), ?_⟩
  have hl : (ns.map V.int).length = ns.length := List.length_map _
  have hl' : (ws.map V.int).length = ws.length := List.length_map _
  refine ⟨_, rfl, 1, rfl, slA_of h fun H1 p s1 e1 => ?_⟩
  rw [show (some (1 : Int)) = some ((1 : Nat) : Int) from rfl, cutV_take] at e1
  refine ⟨_, rfl, 1, rfl, slN_of (s1 _ _ h) fun H2 c s2 e2 => ?_⟩
  rw [show (some (1 : Int)) = some ((1 : Nat) : Int) from rfl, cutV_drop] at e2
  have s12 := s1.trans s2
  refine ⟨_, rfl, c, b, _, _, rfl, .inr ⟨SqT.of e2, SqT.of (s12 _ _ h'), ?_⟩⟩
  refine RZ.for_zipT (xs := (ns.drop 1).map V.int) (ys := ws.map V.int) (by rw [List.length_map, List.length_map, List.length_drop]; omega) (fun i σ H' => ∃ p y z, σ = [some (.ref a), some (.ref b), some (.ref p), y, z] ∧ Same H2 H' ∧ Tu H' p (ns.take 1 ++ Sg.stF ((ns.drop 1).take i) (ws.take i)))
    ⟨p, none, none, rfl, Same.refl _, by
      have : Tu H2 p (ns.take 1) := s2 _ _ e1
      rw [List.take_zero, Sg.stF_nil, List.append_nil]
      exact this⟩
    (fun i σ H' g => by
      obtain ⟨p, y, z, rfl, s', e⟩ := g
      exact ⟨SqT.of (s' _ _ e2), SqT.of (s' _ _ (s12 _ _ h'))⟩) (fun i x y t σ H' hx hy g nt => ?_) (fun σ H' g => ?_)
  · obtain ⟨p, y0, z0, rfl, s', e⟩ := g
    obtain ⟨m, hm, rfl⟩ := getI' hx
    obtain ⟨k, hk, rfl⟩ := getI' hy
    have hkr := hrng k (List.mem_of_getElem? hk)
    have lz := part_len ns ws i hrng hz hlen
    refine ⟨t, _, rfl, SqT.of upd_same, rfl, .int m, [.int k], rfl, .int k, [], rfl, rfl, ?_⟩
    have sT : Same H' (upd H' t (.tup [.int m, .int k])) := same_upd nt
    have eT := sT _ _ e
    refine ⟨.ref p, rfl, (by show 1 ≤ sizeLine; decide), fun u nu => ?_⟩
    have eU := same_upd (o := .tup [.int (-1)]) nu _ _ eT
    refine ⟨_, rfl, repA_of (n := -1) upd_same hkr.1 (by omega) fun H3 r s3 e3 => ?_⟩
    refine catA_of (s3 _ _ eU) e3 (by rw [List.length_replicate]; omega) fun H4 r4 s4 e4 => ?_
    refine ⟨_, rfl, (by show 1 ≤ sizeLine; decide), fun v nv => ?_⟩
    have e5 := same_upd (o := .tup [.int m]) nv _ _ e4
    refine catA_of (ys := [m]) e5 upd_same (by rw [List.length_append, List.length_replicate, List.length_singleton]; omega) fun H6 r6 s6 e6 => ?_
    refine ⟨r6, some (.int m), some (.int k), rfl, s'.trans (sT.trans ((same_upd nu).trans (s3.trans (s4.trans ((same_upd nv).trans s6))))), ?_⟩
    rw [Sg.stF_take _ _ _ _ _ hm hk, ← List.append_assoc, ← List.append_assoc]
    exact e6
  · obtain ⟨p, y, z, rfl, s', e⟩ := g
    refine ⟨.ref p, rfl, q H' p (s12.trans s') ?_⟩
    rw [List.length_map, List.take_length, List.take_of_length_le (l := ws) (by rw [List.length_drop]; omega)] at e
    exact e
end
end SgW
namespace SgW
open PySem PySem.Spec PyProof.Rows L2 SgR
section
variable {P : Program} {w : World} {K : PySem.W.Frag} {mg : Str → Option Value} {base : Heap}
/-! ### is_free -/
abbrev sFree : Stmt := topS 25
abbrev nFree : List Str := ["work", "distance", "ticks", "tick", "station", "one", "before"]
theorem scFree : FnScope nFree ["work", "distance", "ticks", "tick"] (defScope sFree) := ⟨rfl, rfl, rfl, by decide +kernel, rfl, by decide +kernel, by decide +kernel⟩
def spFree : Sp := fun vs H Q _ => ∃ (a b : Addr) (ns ts : List Int) (d t : Int), vs = [.ref a, .int d, .ref b, .int t] ∧ Tu H a ns ∧ Tu H b ts ∧ ts.length < ns.length ∧ 0 < d ∧ ns.length ≤ 1000 ∧ ∀ H', Same H H' → Q (.bl (Sg.freeF ns d ts t)) H'
def clashB (d t x : Int) (p : Int × Int) : Bool := p.1 != x || (t - p.2) % d != 0
theorem ok_free (T : Bl mg) (A : At K mg "is_free" sFree ["work", "distance", "ticks", "tick"]) : Ok P w K mg base 1 "is_free" ["work", "distance", "ticks", "tick"] spFree := by
  refine A.ok (N := []) fun f fd F => F.ok scFree (fun vs H Q E h => ?_) (fun cdv A outer s H vs Q E hr h => ?_)
  · obtain ⟨a, b, ns, ts, d, t, rfl, _⟩ := h
    rfl
  obtain ⟨a, b, ns, ts, d, t, rfl, h, h', hlt, hd, hz, q⟩ := h
  refine ⟨_, pss_cons (ps_set (i := 4) scFree.nd rfl (.inr rfl) (pe_ix ix_tup (pv 0) (pe_callB call_len_seq (by rfl) T.len PySem.boot_len (pa_cons (pv 2) pa_nil)) (fun _ _ => rfl)))
    (pss_cons (ps_if (pt_cmpR op_eq (pv 4) (pe_gi T.nowhere (by rfl)) (nomark _)) (pss_one (ps_ret pe_bl)) pss_nil)
    (pss_one (ps_ret (pe_callB (cr_all rfl) (by rfl) T.all boot_all (pa_cons
      (pe_lc (own := [("one", 5), ("before", 6)]) (g := gTup K 2 (gCons (gName 5) (gCons (gName 6) gNil))) (tt := tYes) rfl scFree.nd (RZ.pi_zipA (by rfl) T.zip (pa_cons (pv 0) (pa_cons (pv 2) pa_nil)))
        (blkOk_by (own := [("one", 5), ("before", 6)]) (N := nFree) (sc := defScope sFree) (by decide +kernel))
        (fun _ _ _ _ _ => pg_tupK rfl rfl (pgs_cons (pg_name (i := 5) scFree.nd rfl (Or.inl rfl)) (pgs_cons (pg_name (i := 6) scFree.nd rfl (Or.inl rfl)) pgs_nil))) (fun _ _ _ _ _ => pts_nil)
        (fun _ _ _ _ _ => pe_or (pe_cmpR op_ne (pv 5) (pv 4) (nomark _)) (pe_one (pe_cmpR op_ne (pe_op op_mod (pe_op op_sub (pv 3) (pv 6)) (pv 1)) pe_int (nomark _))))) pa_nil))))), ?_⟩
  have hl : (ns.map V.int).length = ns.length := List.length_map _
  have hl' : (ts.map V.int).length = ts.length := List.length_map _
  have hx : ns[ts.length]? = some ns[ts.length] := List.getElem?_eq_getElem hlt
  generalize ns[ts.length] = x at hx
  refine ⟨_, rfl, _, rfl, b, _, rfl, .inr (SqT.of h'), a, _, _, _, rfl, rfl, SqT.of h, at_of (j := ts.length) (by rw [hl']) (getI hx), ?_⟩
  refine ⟨_, rfl, rfl, _, rfl, ite2 (fun c => ?_) (fun c => ?_)⟩
  · have c' : x = -1 := V.int.inj (of_decide_eq_true c)
    have e : Sg.freeF ns d ts t = true := by
      unfold Sg.freeF
      rw [hx, c']
      rfl
    have := q H (Same.refl H)
    rw [e] at this
    exact this
  · have c' : x ≠ -1 := fun z => c (decide_eq_true (congrArg V.int z))
    refine ⟨_, rfl, _, rfl, a, b, _, _, rfl, .inr ⟨SqT.of h, SqT.of h', fun D hD => ?_⟩⟩
    refine lc_zipT (xs := ns.map V.int) (ys := ts.map V.int) ts.length (by rw [hl, hl']; omega) (fun i H' => Same H H' ∧ H' D = some (.lst ((((ns.zip ts).take i).map (clashB d t x)).map V.bl))) ⟨same_upd hD, upd_same⟩
      (fun i H' g => ⟨SqT.of (g.1 _ _ h), SqT.of (g.1 _ _ h')⟩) (fun i x1 y1 u H' hx1 hy1 g nu => ?_) (fun H' g => ?_)
    · obtain ⟨m, hm, rfl⟩ := getI' hx1
      obtain ⟨k, hk, rfl⟩ := getI' hy1
      obtain ⟨s', e⟩ := g
      have hi := (List.getElem?_eq_some_iff.mp hk).1
      have hzip : (ns.zip ts)[i]? = some (m, k) := by
        rw [List.getElem?_zip_eq_some]
        exact ⟨hm, hk⟩
      have s2 : Same H (upd H' u (.tup [.int m, .int k])) := same_upd2 s' nu
      have fin : ∀ b, b = clashB d t x (m, k) → ∃ acc, (upd H' u (.tup [.int m, .int k])) D = some (.lst acc) ∧ acc.length < sizeLine ∧ Same H (upd (upd H' u (.tup [.int m, .int k])) D (.lst (acc ++ [.bl b]))) ∧
          (upd (upd H' u (.tup [.int m, .int k])) D (.lst (acc ++ [.bl b]))) D = some (.lst ((((ns.zip ts).take (i + 1)).map (clashB d t x)).map V.bl)) := fun b hb => by
        refine ⟨_, same_upd nu _ _ e, ?_, same_old s2 hD, ?_⟩
        · rw [List.length_map, List.length_map, List.length_take]
          exact small1000 (by omega)
        · rw [upd_same, List.take_add_one, hzip, List.map_append, List.map_append, hb]
          rfl
      refine ⟨u, _, rfl, SqT.of upd_same, rfl, .int m, [.int k], rfl, .int k, [], rfl, rfl, rfl, ?_⟩
      refine ⟨.int m, rfl, .int x, rfl, rfl, _, rfl, ?_⟩
      by_cases cm : m = x
      · refine iteNS (congrArg V.int cm) ⟨_, rfl, _, rfl, t, k, rfl, rfl, _, rfl, t - k, d, rfl, rfl, hd, rfl, fin _ ?_⟩
        unfold clashB
        have e1 : (m != x) = false := by simp [cm]
        show (!decide (V.int ((t - k) % d) = V.int 0)) = (m != x || (t - k) % d != 0)
        rw [e1, Bool.false_or]
        by_cases cc : (t - k) % d = 0
        · rw [cc]; rfl
        · rw [decide_eq_false (fun z => cc (V.int.inj z))]
          simp [cc]
      · refine iteNN (fun z => cm (V.int.inj z)) (fin _ ?_)
        unfold clashB
        rw [bne_iff_ne.mpr cm]
        rfl
    · obtain ⟨s', e⟩ := g
      rw [List.take_of_length_le (by rw [List.length_zip]; omega)] at e
      refine ⟨D, _, rfl, SqL.of e, ?_⟩
      have ea : (((ns.zip ts).map (clashB d t x)).all id) = Sg.freeF ns d ts t := by
        unfold Sg.freeF
        rw [hx, List.all_map]
        show (ns.zip ts).all (id ∘ clashB d t x) = (x == -1 || (ns.zip ts).all fun p => p.1 != x || (t - p.2) % d != 0)
        rw [beq_eq_false_iff_ne.mpr c', Bool.false_or]
        rfl
      rw [ea]
      exact q H' s'
/-! ### placed -/
abbrev sPlaced : Stmt := topS 24
abbrev nPlaced : List Str := ["work", "distance", "left", "ticks", "at", "wait", "tick", "rest"]
abbrev pPlaced : List Str := ["work", "distance", "left", "ticks"]
theorem scPlaced : FnScope nPlaced pPlaced (defScope sPlaced) := ⟨rfl, rfl, rfl, by decide +kernel, rfl, by decide +kernel, by decide +kernel⟩
def spPlaced (n : Nat) : Sp := fun vs H Q _ => ∃ (a b : Addr) (ns ts : List Int) (d left : Int), vs = [.ref a, .int d, .int left, .ref b] ∧ Tu H a ns ∧ Tu H b ts ∧ 0 < d ∧ 0 ≤ left ∧ ns.length = ts.length + n ∧ ts ≠ [] ∧ ns.length ≤ 900 ∧
  ∀ H' v, Same H H' → OptV H' (Sg.placedF ns d n left ts) v → Q v H'
theorem placed_zero (T : Bl mg) (A : At K mg "placed" sPlaced pPlaced) : Ok P w K mg base 2 "placed" pPlaced (spPlaced 0) := by
  refine A.ok (N := []) fun f fd F => F.ok scPlaced (fun vs H Q E h => ?_) (fun cdv A outer s H vs Q E hr h => ?_)
  · obtain ⟨a, b, ns, ts, d, t, rfl, _⟩ := h
    rfl
  obtain ⟨a, b, ns, ts, d, left, rfl, h, h', hd, h0, hlen, hne, hz, q⟩ := h
  refine ⟨_, pss_cons (ps_set (i := 4) scPlaced.nd rfl (.inl rfl) (pe_callB call_len_seq (by rfl) T.len PySem.boot_len (pa_cons (pv 3) pa_nil)))
    (pss_cons (ps_if (pt_cmpR op_eq (pv 4) (pe_callB call_len_seq (by rfl) T.len PySem.boot_len (pa_cons (pv 0) pa_nil)) (nomark _))
      (pss_one (ps_ret (pe_ifExp (pt_cmpR op_eq (pv 2) pe_int (nomark _)) (pe_tup pa_nil) pe_non))) pss_nil) pss_never), ?_⟩
  have hl : (ns.map V.int).length = ns.length := List.length_map _
  have hl' : (ts.map V.int).length = ts.length := List.length_map _
  refine ⟨_, rfl, b, _, rfl, .inr (SqT.of h'), _, rfl, _, rfl, a, _, rfl, .inr (SqT.of h), rfl, _, rfl, ?_⟩
  refine iteD (by rw [hl, hl']; congr 1; omega) ⟨_, rfl, rfl, _, rfl, ite2 (fun c => ?_) (fun c => ?_)⟩
  · have c' : left = 0 := V.int.inj (of_decide_eq_true c)
    refine ⟨Nat.zero_le _, fun p hp => q _ _ (same_upd hp) ?_⟩
    unfold Sg.placedF
    rw [if_pos c']
    exact ⟨p, rfl, upd_same⟩
  · have c' : left ≠ 0 := fun z => c (decide_eq_true (congrArg V.int z))
    refine q _ _ (Same.refl H) ?_
    unfold Sg.placedF
    rw [if_neg c']
    exact rfl
def turnF (ns : List Int) (d : Int) (n : Nat) (left : Int) (ts : List Int) (k : Nat) : Option (List Int) :=
  if Sg.freeF ns d ts (Sg.lastT ts + 1 + (k : Int)) = true then (Sg.placedF ns d n (left - k) (ts ++ [Sg.lastT ts + 1 + k])).map (fun r => (k : Int) :: r) else none
theorem placedF_succ (ns : List Int) (d : Int) (n : Nat) (left : Int) (ts : List Int) : Sg.placedF ns d (n + 1) left ts = (List.range (min left 11 + 1).toNat).findSome? (turnF ns d n left ts) := rfl
theorem last_at (ts : List Int) (hne : ts ≠ []) : atI (ts.map V.int) (-1) = some (.int (Sg.lastT ts)) := by
  have hp : 0 < ts.length := List.length_pos_iff.mpr hne
  have hz : ts[ts.length - 1]? = some (Sg.lastT ts) := by
    unfold Sg.lastT
    rw [List.getLastD_eq_getLast?, List.getLast?_eq_getElem?, List.getElem?_eq_getElem (by omega)]
    rfl
  unfold atI
  have e1 : ixN (ts.map V.int).length (-1) = some (ts.length - 1) := by
    unfold ixN
    rw [List.length_map, if_neg (by omega), if_pos (by omega)]
    congr 1
    omega
  rw [e1]
  exact getI hz
theorem placed_succ {n : Nat} (T : Bl mg) (A : At K mg "placed" sPlaced pPlaced) (GF : Ok P w K mg base 1 "is_free" ["work", "distance", "ticks", "tick"] spFree) (G : Ok P w K mg base (n + 2) "placed" pPlaced (spPlaced n)) :
    Ok P w K mg base (n + 3) "placed" pPlaced (spPlaced (n + 1)) := by
  refine A.ok (N := []) fun f fd F => F.ok scPlaced (fun vs H Q E h => ?_) (fun cdv A outer s H vs Q E hr h => ?_)
  · obtain ⟨a, b, ns, ts, d, t, rfl, _⟩ := h
    rfl
  obtain ⟨a, b, ns, ts, d, left, rfl, h, h', hd, h0, hlen, hne, hz, q⟩ := h
  refine ⟨_, pss_cons (ps_set (i := 4) scPlaced.nd rfl (.inl rfl) (pe_callB call_len_seq (by rfl) T.len PySem.boot_len (pa_cons (pv 3) pa_nil)))
    (pss_cons (ps_if (pt_cmpR op_eq (pv 4) (pe_callB call_len_seq (by rfl) T.len PySem.boot_len (pa_cons (pv 0) pa_nil)) (nomark _))
      (pss_one ps_never) pss_nil)
    (pss_cons (ps_for PassesOwn.never rfl (pi_range1 (by rfl) T.range (pa_cons (pe_op op_add (pe_callB (call_min2 rfl) (by rfl) T.min boot_min (pa_cons (pv 2) (pa_cons (pe_gi T.mostWait (by rfl)) pa_nil))) pe_int) pa_nil))
        (pg_name (i := 5) scPlaced.nd rfl (.inl rfl))
        (pss_cons (ps_set (i := 6) scPlaced.nd rfl (.inl rfl) (pe_op op_add (pe_op op_add (pe_ix ix_tup (pv 3) (pe_un un_neg pe_int) (fun _ _ => rfl)) pe_int) (pv 5)))
        (pss_one (ps_if (pt_val (pe_ok GF (hr.mono (by omega)) (by rfl) (pa_cons (pv 0) (pa_cons (pv 1) (pa_cons (pv 3) (pa_cons (pv 6) pa_nil))))))
          (pss_cons (ps_set (i := 7) scPlaced.nd rfl (.inl rfl) (pe_ok G hr (by rfl) (pa_cons (pv 0) (pa_cons (pv 1) (pa_cons (pe_op op_sub (pv 2) (pv 5)) (pa_cons (pe_tup (StX.pa_star (pv 3) (pa_cons (pv 6) pa_nil))) pa_nil))))))
          (pss_one (ps_if (pt_cmp (pc_notN (pv 7))) (pss_one (ps_ret (pe_tup (pa_cons (pv 5) (StX.pa_star (pv 7) pa_nil))))) pss_nil))) pss_nil))))
    (pss_one (ps_ret pe_non)))), ?_⟩
  have hl : (ns.map V.int).length = ns.length := List.length_map _
  have hl' : (ts.map V.int).length = ts.length := List.length_map _
  refine ⟨_, rfl, b, _, rfl, .inr (SqT.of h'), _, rfl, _, rfl, a, _, rfl, .inr (SqT.of h), rfl, _, rfl, ?_⟩
  refine iteDN (fun z => by
    have := V.int.inj z
    rw [hl, hl'] at this
    omega) ?_
  refine ⟨_, rfl, left, 11, rfl, _, _, rfl, rfl, ?_⟩
  have emin : (if (11 : Int) < left then (11 : Int) else left) = min left 11 := by omega
  rw [emin]
  refine ⟨min left 11 + 1, rfl, by omega, by omega, ?_⟩
  refine for_range (lo := 0) (n := (min left 11 + 1).toNat) (fun i σ H' => ∃ y5 y6 y7, σ = [some (.ref a), some (.int d), some (.int left), some (.ref b), some (.int ((ts.map V.int).length : Int)), y5, y6, y7] ∧ Same H H' ∧ ∀ k, k < i → turnF ns d n left ts k = none)
    ⟨none, none, none, rfl, Same.refl H, fun k hk => absurd hk (Nat.not_lt_zero _)⟩ (fun i σ H' hi g => ?_) (fun σ H' g => ?_)
  · obtain ⟨y5, y6, y7, rfl, s', hno⟩ := g
    have hh := s' _ _ h
    have hh' := s' _ _ h'
    refine ⟨.ref b, rfl, 1, rfl, b, _, _, _, rfl, rfl, SqT.of hh', last_at ts hne, Sg.lastT ts, 1, rfl, rfl, .int (0 + i), rfl, Sg.lastT ts + 1, 0 + i, rfl, rfl, ?_⟩
    have e0 : Sg.lastT ts + 1 + (0 + (i : Int)) = Sg.lastT ts + 1 + i := by omega
    refine ⟨.ref a, rfl, .int d, rfl, .ref b, rfl, _, rfl, a, b, ns, ts, d, _, rfl, hh, hh', by omega, hd, by omega, fun H1 s1 => ?_⟩
    rw [e0]
    refine ⟨_, rfl, ite2 (fun c => ?_) (fun c => ?_)⟩
    · have hh1 := s1 _ _ hh
      have hh1' := s1 _ _ hh'
      refine ⟨.ref a, rfl, .int d, rfl, .int left, rfl, .int (0 + i), rfl, left, 0 + i, rfl, rfl, .ref b, rfl, b, _, rfl, .inl (SqT.of hh1'), _, rfl, ?_, fun p hp => ?_⟩
      · rw [List.length_append, hl']
        exact small (by show ts.length + 1 ≤ 1000; omega)
      have s2 := same_upd (o := .tup (ts.map V.int ++ [V.int (Sg.lastT ts + 1 + (0 + (i : Int)))])) hp
      refine ⟨a, p, ns, ts ++ [Sg.lastT ts + 1 + i], d, left - i, by show [V.ref a, V.int d, V.int (left - (0 + (i : Int))), V.ref p] = _; rw [show left - (0 + (i : Int)) = left - i by omega], s2 _ _ hh1, ?_, hd, by omega, by rw [List.length_append, List.length_singleton]; omega, by simp, hz, fun H3 v s3 ov => ?_⟩
      · rw [Tu, upd_same, List.map_append]
        show some (HO.tup (List.map V.int ts ++ [V.int (Sg.lastT ts + 1 + (0 + (i : Int)))])) = _
        rw [e0]
        rfl
      have s13 : Same H H3 := s'.trans (s1.trans (s2.trans s3))
      cases er : Sg.placedF ns d n (left - i) (ts ++ [Sg.lastT ts + 1 + i]) with
      | none =>
        rw [er] at ov
        have ev : v = .non := ov
        subst ev
        refine ⟨_, rfl, _, rfl, iteNS rfl ⟨_, _, _, rfl, s13, fun k hk => ?_⟩⟩
        by_cases hki : k < i
        · exact hno k hki
        · have : k = i := by omega
          subst this
          unfold turnF
          rw [if_pos c, er]
          rfl
      | some rs =>
        rw [er] at ov
        obtain ⟨u, rfl, eu⟩ := ov
        have hlen' : rs.length ≤ ns.length := by
          have e := er
          have key : ∀ (n : Nat) (left : Int) (ts rs : List Int), Sg.placedF ns d n left ts = some rs → rs.length = n := by
            intro n
            induction n with
            | zero =>
              intro left ts rs e
              unfold Sg.placedF at e
              split at e
              · have := Option.some.inj e
                rw [← this]
                rfl
              · cases e
            | succ n ih =>
              intro left ts rs e
              rw [placedF_succ] at e
              obtain ⟨k, hk, e⟩ := List.exists_of_findSome?_eq_some e
              unfold turnF at e
              split at e
              · cases e2 : Sg.placedF ns d n (left - k) (ts ++ [Sg.lastT ts + 1 + k]) with
                | none => rw [e2] at e; cases e
                | some r =>
                  rw [e2] at e
                  have := Option.some.inj e
                  rw [← this, List.length_cons, ih _ _ _ e2]
              · cases e
          have := key _ _ _ _ e
          omega
        refine ⟨_, rfl, _, rfl, iteNN (fun z => nomatch z) ⟨_, rfl, _, rfl, u, _, rfl, .inl (SqT.of eu), ?_, fun p2 hp2 => ?_⟩⟩
        · rw [List.append_nil, List.length_cons, List.length_map]
          exact small (by omega)
        refine q _ _ (same_upd2 s13 hp2) ?_
        have ef : Sg.placedF ns d (n + 1) left ts = some ((i : Int) :: rs) := by
          rw [placedF_succ]
          refine Sg.find_at hi ?_ hno
          unfold turnF
          rw [if_pos c, er]
          rfl
        rw [ef]
        refine ⟨p2, rfl, ?_⟩
        rw [Tu, upd_same, List.append_nil, show (0 + (i : Int)) = i by omega]
        rfl
    · refine ⟨_, _, _, rfl, s'.trans s1, fun k hk => ?_⟩
      by_cases hki : k < i
      · exact hno k hki
      · have : k = i := by omega
        subst this
        unfold turnF
        rw [if_neg c]
  · obtain ⟨y5, y6, y7, rfl, s', hno⟩ := g
    refine q _ _ s' ?_
    have ef : Sg.placedF ns d (n + 1) left ts = none := by
      rw [placedF_succ, List.findSome?_eq_none_iff]
      exact fun k hk => hno k (List.mem_range.mp hk)
    rw [ef]
    exact rfl
theorem ok_placed (T : Bl mg) (A : At K mg "placed" sPlaced pPlaced) (GF : Ok P w K mg base 1 "is_free" ["work", "distance", "ticks", "tick"] spFree) : ∀ n : Nat, Ok P w K mg base (n + 2) "placed" pPlaced (spPlaced n)
  | 0 => placed_zero T A
  | n + 1 => placed_succ T A GF (ok_placed T A GF n)
end
end SgW
namespace SgW
open PySem PySem.Spec PyProof.Rows L2 SgR
section
variable {P : Program} {w : World} {K : PySem.W.Frag} {mg : Str → Option Value} {base : Heap}
/-! ### stretch_of -/
abbrev sStretchOf : Stmt := topS 26
abbrev nStretchOf : List Str := ["work", "distance", "many", "found"]
theorem scStretchOf : FnScope nStretchOf ["work", "distance"] (defScope sStretchOf) := ⟨rfl, rfl, rfl, by decide +kernel, rfl, by decide +kernel, by decide +kernel⟩
def spStretchOf : Sp := fun vs H Q _ => ∃ (a : Addr) (ns : List Int) (d : Int), vs = [.ref a, .int d] ∧ Tu H a ns ∧ Sg.Work ns ∧ ns.length ≤ 12 ∧ 1 ≤ d ∧ d ≤ 12 ∧ ∀ H' v, Same H H' → OptV H' (Sg.stretchF ns d) v → Q v H'
theorem ok_stretchOf (T : Bl mg) (A : At K mg "stretch_of" sStretchOf ["work", "distance"]) (GV : Ok P w K mg base 1 "visits_of" ["work"] spVisits) (G : ∀ n : Nat, Ok P w K mg base (n + 2) "placed" pPlaced (spPlaced n)) :
    Ok P w K mg base 15 "stretch_of" ["work", "distance"] spStretchOf := by
  refine A.ok (N := []) fun f fd F => F.ok scStretchOf (fun vs H Q E h => ?_) (fun cdv A outer s H vs Q E hr h => ?_)
  · obtain ⟨a, ns, d, rfl, _⟩ := h
    rfl
  obtain ⟨a, ns, d, rfl, h, W, hz, h1, h2, q⟩ := h
  have hp := W.pos
  refine ⟨_, pss_cons (ps_if (pt_cmpR op_lt (pv 1) (pe_ok GV (hr.mono (by decide)) (by rfl) (pa_cons (pv 0) pa_nil)) (nomark _)) (pss_one (ps_ret pe_non)) pss_nil)
    (pss_cons (ps_asg (pe_tup (pa_cons pe_int (pa_cons pe_non pa_nil))) (pg_tup (by rfl) (pgs_cons (pg_name (i := 2) scStretchOf.nd rfl (.inl rfl)) (pgs_cons (pg_name (i := 3) scStretchOf.nd rfl (.inl rfl)) pgs_nil))))
    (pss_cons (ps_while PassesOwn.never (pt_cmp (pc_isN (pv 3)))
      (pss_cons (ps_set (i := 3) scStretchOf.nd rfl (.inl rfl) (pe_ok (G (ns.length - 1)) (hr.mono (by omega)) (by rfl) (pa_cons (pv 0) (pa_cons (pv 1) (pa_cons (pv 2) (pa_cons (pe_tup (pa_cons pe_int pa_nil)) pa_nil))))))
      (pss_one (ps_set (i := 2) scStretchOf.nd rfl (.inl rfl) (pe_op op_add (pv 2) pe_int)))))
    (pss_one (ps_ret (pv 3))))), ?_⟩
  refine ⟨_, rfl, _, rfl, a, ns, rfl, h, W, by omega, fun H1 s1 => ?_⟩
  refine ⟨d, _, rfl, rfl, _, rfl, ite2 (fun c => ?_) (fun c => ?_)⟩
  · refine q _ _ s1 ?_
    rw [Sg.stretch_none (of_decide_eq_true c)]
    exact rfl
  · have c' : Sg.visitsF ns ≤ d := by
      have : ¬ d < Sg.visitsF ns := fun z => c (decide_eq_true z)
      omega
    obtain ⟨M, ws, hM, hst, hpl, hno, _, _⟩ := Sg.stretch_some W hz c' h2
    refine ⟨(by show 2 ≤ sizeLine; decide), fun t0 nt0 => ⟨t0, _, rfl, SqT.of upd_same, rfl, .int 0, [.non], rfl, .non, [], rfl, rfl, ?_⟩⟩
    have s1 : Same H (upd H1 t0 (.tup [.int 0, .non])) := same_upd2 s1 nt0
    refine ⟨fun m σ H' => Same H H' ∧ ((∃ k : Nat, σ = [some (.ref a), some (.int d), some (.int k), some .non] ∧ k ≤ M ∧ m = M + 1 - k) ∨ (∃ v y, σ = [some (.ref a), some (.int d), y, some v] ∧ v ≠ .non ∧ OptV H' (some ws) v)),
      ⟨M + 1, s1, .inl ⟨0, rfl, Nat.zero_le _, rfl⟩⟩, fun m σ H' g => ?_⟩
    obtain ⟨s', g⟩ := g
    rcases g with ⟨k, rfl, hk, hm⟩ | ⟨v, y, rfl, hv, ov⟩
    · refine ⟨.non, rfl, _, rfl, iteD rfl ?_⟩
      refine ⟨fun σ' H2 => Same H H2 ∧ ((∃ k' : Nat, k' = k + 1 ∧ σ' = [some (.ref a), some (.int d), some (.int k'), some .non] ∧ k' ≤ M) ∨ (∃ v y, σ' = [some (.ref a), some (.int d), y, some v] ∧ v ≠ .non ∧ OptV H2 (some ws) v)), fun σ' H2 g2 => ?_, ?_⟩
      · obtain ⟨s2, g2⟩ := g2
        rcases g2 with ⟨k', ek, e, hk'⟩ | g2
        · exact ⟨M + 1 - k', by omega, s2, .inl ⟨k', e, hk', rfl⟩⟩
        · exact ⟨0, by omega, s2, .inr g2⟩
      · refine ⟨.ref a, rfl, .int d, rfl, .int k, rfl, (by show 1 ≤ sizeLine; decide), fun p hp => ?_⟩
        have sp := same_upd (o := .tup [.int 0]) hp
        refine ⟨a, p, ns, [0], d, (k : Int), rfl, sp _ _ (s' _ _ h), upd_same, by omega, by omega, by show ns.length = 1 + (ns.length - 1); omega, by simp, by omega, fun H3 v s3 ov => ?_⟩
        refine ⟨.int k, rfl, k, 1, rfl, rfl, ?_⟩
        have s13 := s'.trans (sp.trans s3)
        by_cases hkM : k = M
        · rw [hkM, hpl] at ov
          refine ⟨s13, .inr ⟨v, _, rfl, fun z => ?_, ov⟩⟩
          subst z
          obtain ⟨u, e, _⟩ := ov
          cases e
        · rw [hno k (by omega)] at ov
          have ev : v = .non := ov
          subst ev
          exact ⟨s13, .inl ⟨k + 1, rfl, rfl, by omega⟩⟩
    · refine ⟨v, rfl, _, rfl, iteDN hv ⟨v, rfl, q H' v s' ?_⟩⟩
      rw [hst]
      exact ov
/-! ### need_short, need_distance -/
abbrev sNeedShort : Stmt := topS 27
theorem scNeedShort : FnScope ["work"] ["work"] (defScope sNeedShort) := ⟨rfl, rfl, rfl, by decide +kernel, rfl, by decide +kernel, by decide +kernel⟩
def spNeedShort : Sp := fun vs H Q _ => ∃ (a : Addr) (ns : List Int), vs = [.ref a] ∧ Tu H a ns ∧ Sg.Work ns ∧ ns.length ≤ 12 ∧ ∀ H', Same H H' → Q .non H'
theorem ok_needShort (T : Bl mg) (A : At K mg "need_short" sNeedShort ["work"]) (G : Ok P w K mg base 3 "need_work" ["thing"] spNeedWork) : Ok P w K mg base 4 "need_short" ["work"] spNeedShort := by
  refine A.ok (N := []) fun f fd F => F.ok scNeedShort (fun vs H Q E h => ?_) (fun cdv A outer s H vs Q E hr h => ?_)
  · obtain ⟨a, ns, rfl, _⟩ := h
    rfl
  obtain ⟨a, ns, rfl, h, W, hz, q⟩ := h
  refine ⟨_, pss_cons (ps_expr (pe_ok G hr (by rfl) (pa_cons (pv 0) pa_nil)))
    (pss_one (ps_if (pt_cmpR op_gt (pe_callB call_len_seq (by rfl) T.len PySem.boot_len (pa_cons (pv 0) pa_nil)) (pe_gi T.mostLong (by rfl)) (nomark _)) pss_never pss_nil)), ?_⟩
  refine ⟨_, rfl, a, ns, rfl, h, W, by omega, fun H1 s1 => ?_⟩
  refine ⟨_, rfl, a, _, rfl, .inr (SqT.of (s1 _ _ h)), _, _, rfl, rfl, _, rfl, iteDN (by rw [List.length_map]; omega) (q H1 s1)⟩
abbrev sNeedDistance : Stmt := topS 28
theorem scNeedDistance : FnScope ["thing"] ["thing"] (defScope sNeedDistance) := ⟨rfl, rfl, rfl, by decide +kernel, rfl, by decide +kernel, by decide +kernel⟩
def spNeedDistance : Sp := fun vs H Q _ => ∃ d : Int, vs = [.int d] ∧ 1 ≤ d ∧ d ≤ 12 ∧ Q .non H
theorem ok_needDistance (T : Bl mg) (A : At K mg "need_distance" sNeedDistance ["thing"]) (G : Ok P w K mg base 1 "is_between" ["thing", "low", "high"] spBetween) : Ok P w K mg base 2 "need_distance" ["thing"] spNeedDistance := by
  refine A.ok (N := []) fun f fd F => F.ok scNeedDistance (fun vs H Q E h => ?_) (fun cdv A outer s H vs Q E hr h => ?_)
  · obtain ⟨d, rfl, _⟩ := h
    rfl
  obtain ⟨d, rfl, h1, h2, q⟩ := h
  refine ⟨_, pss_one (ps_if (pt_not (pt_val (pe_ok G hr (by rfl) (pa_cons (pv 0) (pa_cons pe_int (pa_cons (pe_gi T.mostDistance (by rfl)) pa_nil)))))) pss_never pss_nil), ?_⟩
  exact ⟨_, rfl, d, 1, 12, rfl, h1, h2, true, rfl, iteF q⟩
/-! ### stretched -/
abbrev sStretched : Stmt := topS 29
theorem scStretched : FnScope ["work", "waits"] ["work", "waits"] (defScope sStretched) := ⟨rfl, rfl, rfl, by decide +kernel, rfl, by decide +kernel, by decide +kernel⟩
def spStretched : Sp := fun vs H Q _ => ∃ (a b : Addr) (ns ws : List Int), vs = [.ref a, .ref b] ∧ Tu H a ns ∧ Tu H b ws ∧ Sg.Work ns ∧ ws.length + 1 = ns.length ∧ (∀ y ∈ ws, 0 ≤ y ∧ y ≤ 11) ∧ ns.length ≤ 12 ∧ ∀ H' p, Same H H' → Tu H' p (Sg.stretchedF ns ws) → Q (.ref p) H'
theorem ok_stretched (A : At K mg "stretched" sStretched ["work", "waits"]) (GN : Ok P w K mg base 3 "need_work" ["thing"] spNeedWork) (GA : Ok P w K mg base 2 "are_waits" ["work", "thing"] spAreWaits)
    (GS : Ok P w K mg base 1 "stretched_by" ["work", "waits"] spStretchedBy) : Ok P w K mg base 4 "stretched" ["work", "waits"] spStretched := by
  refine A.ok (N := []) fun f fd F => F.ok scStretched (fun vs H Q E h => ?_) (fun cdv A outer s H vs Q E hr h => ?_)
  · obtain ⟨a, b, ns, ws, rfl, _⟩ := h
    rfl
  obtain ⟨a, b, ns, ws, rfl, h, h', W, hlen, hrng, hz, q⟩ := h
  refine ⟨_, pss_cons (ps_expr (pe_ok GN hr (by rfl) (pa_cons (pv 0) pa_nil)))
    (pss_cons (ps_if (pt_not (pt_val (pe_ok GA (hr.mono (by decide)) (by rfl) (pa_cons (pv 0) (pa_cons (pv 1) pa_nil))))) pss_never pss_nil)
    (pss_one (ps_ret (pe_ok GS (hr.mono (by decide)) (by rfl) (pa_cons (pv 0) (pa_cons (pv 1) pa_nil)))))), ?_⟩
  refine ⟨_, rfl, a, ns, rfl, h, W, by omega, fun H1 s1 => ?_⟩
  refine ⟨_, rfl, _, rfl, a, b, ns, ws, rfl, s1 _ _ h, s1 _ _ h', hlen, hrng, by omega, fun H2 s2 => ⟨true, rfl, iteF ?_⟩⟩
  have s12 := s1.trans s2
  exact ⟨_, rfl, _, rfl, a, b, ns, ws, rfl, s12 _ _ h, s12 _ _ h', hlen, hrng, hz, fun H3 p s3 e => q H3 p (s12.trans s3) e⟩
/-! ### stretch -/
abbrev sStretch : Stmt := topS 30
theorem scStretch : FnScope ["work", "distance"] ["work", "distance"] (defScope sStretch) := ⟨rfl, rfl, rfl, by decide +kernel, rfl, by decide +kernel, by decide +kernel⟩
theorem ok_stretch (A : At K mg "stretch" sStretch ["work", "distance"]) (GN : Ok P w K mg base 4 "need_short" ["work"] spNeedShort) (GD : Ok P w K mg base 2 "need_distance" ["thing"] spNeedDistance)
    (GS : Ok P w K mg base 15 "stretch_of" ["work", "distance"] spStretchOf) : Ok P w K mg base 16 "stretch" ["work", "distance"] spStretchOf := by
  refine A.ok (N := []) fun f fd F => F.ok scStretch (fun vs H Q E h => ?_) (fun cdv A outer s H vs Q E hr h => ?_)
  · obtain ⟨a, ns, d, rfl, _⟩ := h
    rfl
  obtain ⟨a, ns, d, rfl, h, W, hz, h1, h2, q⟩ := h
  refine ⟨_, pss_cons (ps_expr (pe_ok GN (hr.mono (by decide)) (by rfl) (pa_cons (pv 0) pa_nil)))
    (pss_cons (ps_expr (pe_ok GD (hr.mono (by decide)) (by rfl) (pa_cons (pv 1) pa_nil)))
    (pss_one (ps_ret (pe_ok GS hr (by rfl) (pa_cons (pv 0) (pa_cons (pv 1) pa_nil)))))), ?_⟩
  refine ⟨_, rfl, a, ns, rfl, h, W, hz, fun H1 s1 => ?_⟩
  exact ⟨_, rfl, d, rfl, h1, h2, _, rfl, _, rfl, a, ns, d, rfl, s1 _ _ h, W, hz, h1, h2, fun H2 v s2 ov => q H2 v (s1.trans s2) ov⟩
/-! ### shows_stretch -/
abbrev sShows : Stmt := topS 31
abbrev nShows : List Str := ["work", "distance", "thing", "found"]
theorem scShows : FnScope nShows ["work", "distance", "thing"] (defScope sShows) := ⟨rfl, rfl, rfl, by decide +kernel, rfl, by decide +kernel, by decide +kernel⟩
def shownF (ns ws : List Int) (d : Int) : Bool := Sg.constF (Sg.barsF (Sg.stretchedF ns ws)) d
def spShows : Sp := fun vs H Q _ => ∃ (a b : Addr) (ns ws : List Int) (d : Int), vs = [.ref a, .int d, .ref b] ∧ Tu H a ns ∧ Tu H b ws ∧ Sg.Work ns ∧ ws.length + 1 = ns.length ∧ (∀ y ∈ ws, 0 ≤ y ∧ y ≤ 11) ∧ ns.length ≤ 12 ∧ 1 ≤ d ∧ d ≤ 12 ∧
  ∀ H', Same H H' → Q (.bl (shownF ns ws d)) H'
theorem ok_shows (A : At K mg "shows_stretch" sShows ["work", "distance", "thing"]) (GN : Ok P w K mg base 4 "need_short" ["work"] spNeedShort) (GD : Ok P w K mg base 2 "need_distance" ["thing"] spNeedDistance) (GA : Ok P w K mg base 2 "are_waits" ["work", "thing"] spAreWaits)
    (GS : Ok P w K mg base 1 "stretched_by" ["work", "waits"] spStretchedBy) (GB : Ok P w K mg base 2 "bars_of" ["one", "other"] spBars) (GC : Ok P w K mg base 1 "is_constant" ["bars", "distance"] spConst) :
    Ok P w K mg base 5 "shows_stretch" ["work", "distance", "thing"] spShows := by
  refine A.ok (N := []) fun f fd F => F.ok scShows (fun vs H Q E h => ?_) (fun cdv A outer s H vs Q E hr h => ?_)
  · obtain ⟨a, b, ns, ws, d, rfl, _⟩ := h
    rfl
  obtain ⟨a, b, ns, ws, d, rfl, h, h', W, hlen, hrng, hz, h1, h2, q⟩ := h
  refine ⟨_, pss_cons (ps_expr (pe_ok GN hr (by rfl) (pa_cons (pv 0) pa_nil)))
    (pss_cons (ps_expr (pe_ok GD (hr.mono (by decide)) (by rfl) (pa_cons (pv 1) pa_nil)))
    (pss_cons (ps_if (pt_not (pt_val (pe_ok GA (hr.mono (by decide)) (by rfl) (pa_cons (pv 0) (pa_cons (pv 2) pa_nil))))) (pss_one (ps_ret pe_bl)) pss_nil)
    (pss_cons (ps_set (i := 3) scShows.nd rfl (.inl rfl) (pe_ok GS (hr.mono (by decide)) (by rfl) (pa_cons (pv 0) (pa_cons (pv 2) pa_nil))))
    (pss_one (ps_ret (pe_ok GC (hr.mono (by decide)) (by rfl) (pa_cons (pe_ok GB (hr.mono (by decide)) (by rfl) (pa_cons (pv 3) (pa_cons (pv 3) pa_nil))) (pa_cons (pv 1) pa_nil)))))))), ?_⟩
  refine ⟨_, rfl, a, ns, rfl, h, W, hz, fun H1 s1 => ?_⟩
  refine ⟨_, rfl, d, rfl, h1, h2, _, rfl, _, rfl, a, b, ns, ws, rfl, s1 _ _ h, s1 _ _ h', hlen, hrng, by omega, fun H2 s2 => ⟨true, rfl, iteF ?_⟩⟩
  have s12 := s1.trans s2
  refine ⟨_, rfl, _, rfl, a, b, ns, ws, rfl, s12 _ _ h, s12 _ _ h', hlen, hrng, hz, fun H3 p s3 e => ?_⟩
  have WS := W.stretched hlen
  have hsl := Sg.stretched_len hlen fun y hy => (hrng y hy).2
  refine ⟨_, rfl, _, rfl, p, _, rfl, e, WS.pos, by omega, fun H4 p4 s4 e4 => ?_⟩
  refine ⟨_, rfl, p4, _, d, rfl, e4, by omega, ?_, fun H5 s5 => q H5 (s12.trans (s3.trans (s4.trans s5)))⟩
  have := barsN_len (Sg.stretchedF ns ws) ((Sg.stretchedF ns ws).length - 1)
  show (barsN _ _).length ≤ 1000
  omega
/-! ### trade -/
abbrev sTrade : Stmt := topS 32
abbrev nTrade : List Str := ["work", "bars", "found", "distance"]
theorem scTrade : FnScope nTrade ["work"] (defScope sTrade) := ⟨rfl, rfl, rfl, by decide +kernel, rfl, by decide +kernel, by decide +kernel⟩
def spTrade : Sp := fun vs H Q _ => ∃ (a : Addr) (ns : List Int), vs = [.ref a] ∧ Tu H a ns ∧ Sg.Work ns ∧ ns.length ≤ 12 ∧ ∀ H' p xs, Same H H' → H' p = some (.tup xs) → Prs H' xs (Sg.tradeF ns) → Q (.ref p) H'
theorem ok_trade (T : Bl mg) (A : At K mg "trade" sTrade ["work"]) (GN : Ok P w K mg base 4 "need_short" ["work"] spNeedShort) (GB : Ok P w K mg base 2 "bars_of" ["one", "other"] spBars) (GV : Ok P w K mg base 1 "visits_of" ["work"] spVisits)
    (GC : Ok P w K mg base 1 "is_constant" ["bars", "distance"] spConst) (GS : Ok P w K mg base 15 "stretch_of" ["work", "distance"] spStretchOf) : Ok P w K mg base 16 "trade" ["work"] spTrade := by
  refine A.ok (N := []) fun f fd F => F.ok scTrade (fun vs H Q E h => ?_) (fun cdv A outer s H vs Q E hr h => ?_)
  · obtain ⟨a, ns, rfl, _⟩ := h
    rfl
  obtain ⟨a, ns, rfl, h, W, hz, q⟩ := h
  refine ⟨_, pss_cons (ps_expr (pe_ok GN (hr.mono (by decide)) (by rfl) (pa_cons (pv 0) pa_nil)))
    (pss_cons (ps_par (i := 1) (j := 2) (by rfl) scTrade.nd rfl rfl (by decide) rfl rfl (pa_cons (pe_ok GB (hr.mono (by decide)) (by rfl) (pa_cons (pv 0) (pa_cons (pv 0) pa_nil))) (pa_cons (pe_lst pa_nil) pa_nil)) (by rfl))
    (pss_cons (ps_set (i := 3) scTrade.nd rfl (.inl rfl) (pe_ok GV (hr.mono (by decide)) (by rfl) (pa_cons (pv 0) pa_nil)))
    (pss_cons (ps_while PassesOwn.never (pt_not (pt_val (pe_ok GC (hr.mono (by decide)) (by rfl) (pa_cons (pv 1) (pa_cons (pv 3) pa_nil)))))
      (pss_cons (ps_expr (pe_bm PySem.F.plainAttrs_list PySem.F.slot_list_append PySem.F.type_list_append mt_append (pv 2) (pa_cons (pe_tup (pa_cons (pv 3)
          (pa_cons (pe_callB (cr_sumT rfl) (by rfl) T.sum boot_sum (pa_cons (pe_ok GS hr (by rfl) (pa_cons (pv 0) (pa_cons (pv 3) pa_nil))) pa_nil)) pa_nil))) pa_nil)))
      (pss_one (ps_set (i := 3) scTrade.nd rfl (.inl rfl) (pe_op op_add (pv 3) pe_int)))))
    (pss_one (ps_ret (pe_tup (StX.pa_star (pv 2) (pa_cons (pe_tup (pa_cons (pv 3) (pa_cons pe_int pa_nil))) pa_nil)))))))), ?_⟩
  have hp := W.pos
  have hv := Sg.visits_pos W
  have hvl := Sg.visits_len ns
  refine ⟨_, rfl, a, ns, rfl, h, W, hz, fun H1 s1 => ?_⟩
  refine ⟨_, rfl, _, rfl, a, ns, rfl, s1 _ _ h, hp, by omega, fun H2 b s2 e2 => ?_⟩
  have s12 := s1.trans s2
  refine ⟨Nat.zero_le _, fun c nc => ⟨.ref b, .ref c, rfl, ?_⟩⟩
  have s3 : Same H (upd H2 c (.lst [])) := same_upd2 s12 nc
  have nc0 : H c = none := s12.free nc
  refine ⟨_, rfl, a, ns, rfl, s3 _ _ h, W, by omega, fun H4 s4 => ?_⟩
  have hbl : (Sg.barsF ns).length ≤ 1000 := by
    have := barsN_len ns (ns.length - 1)
    show (barsN _ _).length ≤ 1000
    omega
  refine ⟨fun m σ H' => ∃ (d : Int) (ps : List (Int × Int)) (xs : List V), σ = [some (.ref a), some (.ref b), some (.ref c), some (.int d)] ∧ Same H H' ∧ Tu H' b (Sg.barsF ns) ∧ H' c = some (.lst xs) ∧ Prs H' xs ps ∧ ps.length + m = 60 ∧
      ps ++ Sg.tradeL ns (Sg.barsF ns) (m + 1) d = Sg.tradeF ns ∧ Sg.visitsF ns ≤ d ∧ d + m = Sg.visitsF ns + 60,
    ⟨60, Sg.visitsF ns, [], [], rfl, s3.trans s4, s4 _ _ (same_upd nc _ _ e2), s4 _ _ upd_same, trivial, rfl, rfl, Int.le_refl _, rfl⟩, fun m σ H' g => ?_⟩
  obtain ⟨d, ps, xs, rfl, s', eb, ec, pr, hlen, et, hd, hdm⟩ := g
  refine ⟨_, rfl, _, rfl, b, _, d, rfl, eb, by omega, hbl, fun H5 s5 => ⟨_, rfl, ite2 (fun cc => ?_) (fun cc => ?_)⟩⟩
  · have cF : Sg.constF (Sg.barsF ns) d = false := by simpa using cc
    have hdl : d < ns.length := by
      apply Classical.byContradiction
      intro hh
      rw [Sg.const_big (by omega)] at cF
      cases cF
    have s'5 := s'.trans s5
    refine ⟨fun σ' H6 => ∃ (ps : List (Int × Int)) (xs : List V), σ' = [some (.ref a), some (.ref b), some (.ref c), some (.int (d + 1))] ∧ Same H H6 ∧ Tu H6 b (Sg.barsF ns) ∧ H6 c = some (.lst xs) ∧ Prs H6 xs ps ∧ ps.length + (m - 1) = 60 ∧
      ps ++ Sg.tradeL ns (Sg.barsF ns) (m - 1 + 1) (d + 1) = Sg.tradeF ns, fun σ' H6 g => ?_, ?_⟩
    · obtain ⟨ps', xs', e1, e2, e3, e4, e5, e6, e7⟩ := g
      exact ⟨m - 1, by omega, d + 1, ps', xs', e1, e2, e3, e4, e5, e6, e7, by omega, by omega⟩
    · have ec5 := s5 _ _ ec
      refine ⟨.ref c, rfl, .inl ⟨rfl, _, SqL.of ec5⟩, .int d, rfl, .ref a, rfl, .int d, rfl, a, ns, d, rfl, s'5 _ _ h, W, hz, by omega, by omega, fun H6 v s6 ov => ?_⟩
      obtain ⟨M, ws, _, hst, _, _, _, _⟩ := Sg.stretch_some W hz hd (show d ≤ 12 by omega)
      rw [hst] at ov
      obtain ⟨u, rfl, eu⟩ := ov
      refine ⟨u, ws, rfl, SqT.of eu, (by show 2 ≤ sizeLine; decide), fun t nt => ?_⟩
      have sT := same_upd (o := .tup [.int d, .int ws.sum]) nt
      have ecT := sT _ _ (s6 _ _ ec5)
      refine ⟨c, xs, .ref t, rfl, rfl, ecT, small1000 (by rw [pr.len]; omega), ?_⟩
      refine ⟨.int d, rfl, d, 1, rfl, rfl, ps ++ [(d, ws.sum)], xs ++ [.ref t], rfl, same_old (s'5.trans (s6.trans sT)) nc0, ?_, upd_same, ?_, ?_, ?_⟩
      · have ebT := sT _ _ (s6 _ _ (s5 _ _ eb))
        exact tups_lst ecT _ _ ebT
      · refine Prs.snoc ⟨t, rfl, ?_⟩ (pr.keep fun b' ys e => tups_lst ecT _ _ ((s5.trans (s6.trans sT)) _ _ e))
        have nct : t ≠ c := (ne_of_none (s6 _ _ ec5) nt).symm
        rw [upd_ne nct, upd_same]
      · rw [List.length_append, List.length_singleton]
        omega
      · rw [← et, List.append_assoc]
        congr 1
        obtain ⟨j, rfl⟩ : ∃ j, m = j + 1 := ⟨m - 1, by omega⟩
        have e1 : Sg.tradeL ns (Sg.barsF ns) (j + 1 + 1) d = (d, Sg.sumF ns d) :: Sg.tradeL ns (Sg.barsF ns) (j + 1) (d + 1) := by
          show (if Sg.constF (Sg.barsF ns) d = true then _ else _) = _
          rw [cF]
          rfl
        rw [e1]
        have e2 : Sg.sumF ns d = ws.sum := by
          unfold Sg.sumF
          rw [hst]
        rw [e2]
        rfl
  · have cT : Sg.constF (Sg.barsF ns) d = true := by simpa using cc
    have ec5 := s5 _ _ ec
    refine ⟨.ref c, rfl, c, xs, rfl, .inr (SqL.of ec5), .int d, rfl, (by show 2 ≤ sizeLine; decide), fun t nt => ?_⟩
    have sT := same_upd (o := .tup [.int d, .int 0]) nt
    refine ⟨?_, fun p np => ?_⟩
    · rw [List.length_append, pr.len]
      exact small (by show ps.length + 1 ≤ 1000; omega)
    have sp := same_upd (o := .tup (xs ++ [V.ref t])) np
    refine q _ p _ (s'.trans (s5.trans (sT.trans sp))) upd_same ?_
    have e1 : Sg.tradeL ns (Sg.barsF ns) (m + 1) d = [(d, 0)] := by
      show (if Sg.constF (Sg.barsF ns) d = true then _ else _) = _
      rw [cT]
      rfl
    rw [← et, e1]
    exact Prs.snoc ⟨t, rfl, sp _ _ upd_same⟩ (pr.keep fun b' ys e => (s5.trans (sT.trans sp)) _ _ e)
end
end SgW
namespace SgW
open PySem PySem.Spec PyProof.Rows L2 SgR
/-! ### the pen -/
def Pen (H : Hp) (p : Addr) : Prop := ∃ x y z : Int, H p = some (.lst [.int x, .int y, .int z]) ∧ 0 ≤ x ∧ 0 ≤ y ∧ y < 2147483648
/-- all but the pen is as it was -/
structure Dr (p : Addr) (H H' : Hp) : Prop where
  was : Pen H p
  keep : ∀ b o, b ≠ p → H b = some o → H' b = some o
  pen : Pen H' p
theorem Dr.refl {p : Addr} {H : Hp} (h : Pen H p) : Dr p H H := ⟨h, fun _ _ _ e => e, h⟩
theorem Dr.trans {p : Addr} {H H1 H2 : Hp} (a : Dr p H H1) (b : Dr p H1 H2) : Dr p H H2 := ⟨a.was, fun c o hc e => b.keep c o hc (a.keep c o hc e), b.pen⟩
theorem Pen.same {p : Addr} {H H' : Hp} (h : Pen H p) (s : Same H H') : Pen H' p := by
  obtain ⟨x, y, z, e, r⟩ := h
  exact ⟨x, y, z, s _ _ e, r⟩
theorem Dr.same {p : Addr} {H H1 H2 : Hp} (a : Dr p H H1) (s : Same H1 H2) : Dr p H H2 := ⟨a.was, fun c o hc e => s _ _ (a.keep c o hc e), a.pen.same s⟩
theorem Dr.of {p : Addr} {H H' : Hp} (h : Pen H p) (s : Same H H') : Dr p H H' := (Dr.refl h).same s
theorem Dr.tup {p a : Addr} {H H' : Hp} {xs : List V} (d : Dr p H H') (h : H a = some (.tup xs)) : H' a = some (.tup xs) := by
  obtain ⟨x, y, z, e, r⟩ := d.was
  exact d.keep _ _ (ne_of h e (fun q => nomatch q)) h
theorem Dr.lst {p a : Addr} {H H' : Hp} {xs : List V} (d : Dr p H H') (hn : a ≠ p) (h : H a = some (.lst xs)) : H' a = some (.lst xs) := d.keep _ _ hn h
theorem Dr.seq {K : PySem.W.Frag} {p a : Addr} {H H' : Hp} {xs : List V} (d : Dr p H H') (hn : a ≠ p) (h : SqL K H a xs) : SqL K H' a xs := by
  rcases h with (h | ⟨o, h⟩) | h
  · exact .inl (.inl (d.keep _ _ hn h))
  · exact .inl (.inr ⟨o, d.keep _ _ hn h⟩)
  · exact .inr h
theorem Dr.prs {p : Addr} {H H' : Hp} (d : Dr p H H') : Tups H H' := fun _ _ h => d.tup h
theorem Pen.ne {p q : Addr} {H : Hp} (h : Pen H p) (hq : H q = none) : q ≠ p := by
  obtain ⟨x, y, z, e, r⟩ := h
  exact (ne_of_none e hq).symm
theorem Pen.neT {p q : Addr} {H : Hp} {xs : List V} (h : Pen H p) (hq : H q = some (.tup xs)) : q ≠ p := by
  obtain ⟨x, y, z, e, r⟩ := h
  exact ne_of hq e (fun z => nomatch z)
/-- a new object, changed since -/
theorem Dr.old {p q : Addr} {H H' : Hp} {o : HO} (d : Dr p H H') (h : H q = none) : Dr p H (upd H' q o) := by
  have hn := d.was.ne h
  refine ⟨d.was, fun b u hb e => ?_, ?_⟩
  · rw [upd_ne (ne_of_none e h)]
    exact d.keep _ _ hb e
  · obtain ⟨x, y, z, e, r⟩ := d.pen
    exact ⟨x, y, z, by rw [upd_ne hn.symm]; exact e, r⟩
section
variable {P : Program} {w : World} {K : PySem.W.Frag} {mg : Str → Option Value} {base : Heap}
/-! ### _law_cell -/
abbrev sCell : Stmt := topS 34
theorem scCell : FnScope ["_law_script", "_law_k"] ["_law_script", "_law_k"] (defScope sCell) := ⟨rfl, rfl, rfl, by decide +kernel, rfl, by decide +kernel, by decide +kernel⟩
def spCell (K : PySem.W.Frag) : Sp := fun vs H Q _ => ∃ (a : Addr) (ns : List Int) (k : Nat), vs = [.ref a, .int k] ∧ SqL K H a (ns.map V.int) ∧ ∀ n, Q (.int n) H
theorem ok_cell (T : Bl mg) (A : At K mg "_law_cell" sCell ["_law_script", "_law_k"]) : Ok P w K mg base 1 "_law_cell" ["_law_script", "_law_k"] (spCell K) := by
  refine A.ok (N := []) fun f fd F => F.ok scCell (fun vs H Q E h => ?_) (fun cdv A outer s H vs Q E hr h => ?_)
  · obtain ⟨a, ns, k, rfl, _⟩ := h
    rfl
  obtain ⟨a, ns, k, rfl, h, q⟩ := h
  refine ⟨_, pss_one (ps_ret (pe_ifExp (pt_cmpR op_lt (pv 1) (pe_callB call_len_seq (by rfl) T.len PySem.boot_len (pa_cons (pv 0) pa_nil)) (nomark _)) (pe_ix ix_list (pv 0) (pv 1) (fun _ _ => rfl)) pe_int)), ?_⟩
  refine ⟨_, rfl, _, rfl, a, _, rfl, .inl h, _, _, rfl, rfl, _, rfl, ite2 (fun c => ?_) (fun c => ?_)⟩
  · have c' : (k : Int) < ((ns.map V.int).length : Int) := of_decide_eq_true c
    rw [List.length_map] at c'
    have hk : ns[k]? = some ns[k] := List.getElem?_eq_getElem (by omega)
    exact ⟨_, rfl, _, rfl, a, _, _, _, rfl, rfl, h, atI_nat (getI hk), q _⟩
  · exact q 0
/-! ### _law_pen -/
abbrev sPen : Stmt := topS 35
theorem scPen : FnScope ["_law_cell_here"] ["_law_cell_here"] (defScope sPen) := ⟨rfl, rfl, rfl, by decide +kernel, rfl, by decide +kernel, by decide +kernel⟩
def spPen : Sp := fun vs H Q _ => ∃ c : Int, vs = [.int c] ∧ ∀ H' p, Same H H' → H p = none → Pen H' p → Q (.ref p) H'
theorem ok_pen (T : Bl mg) (A : At K mg "_law_pen" sPen ["_law_cell_here"]) : Ok P w K mg base 1 "_law_pen" ["_law_cell_here"] spPen := by
  refine A.ok (N := []) fun f fd F => F.ok scPen (fun vs H Q E h => ?_) (fun cdv A outer s H vs Q E hr h => ?_)
  · obtain ⟨c, rfl, _⟩ := h
    rfl
  obtain ⟨c, rfl, q⟩ := h
  refine ⟨_, pss_one (ps_ret (pe_lst (pa_cons (pe_callB (call_max2 rfl) (by rfl) T.max boot_max (pa_cons pe_int (pa_cons (pe_op op_sub (pv 0) (pe_op op_pow pe_int pe_int)) pa_nil)))
    (pa_cons (pe_op op_add (pe_op op_mod (pv 0) pe_int) pe_int) (pa_cons pe_int pa_nil))))), ?_⟩
  refine ⟨_, rfl, 10, 18, rfl, rfl, ⟨by decide, by decide, by decide⟩, c, _, rfl, rfl, 0, _, rfl, ?_⟩
  have hm := Int.emod_nonneg c (show (2147483629 : Int) ≠ 0 by decide)
  have hm2 := Int.emod_lt_of_pos c (show (0 : Int) < 2147483629 by decide)
  refine ⟨.int c, rfl, c, 2147483629, rfl, rfl, (by show (0 : Int) < 2147483629; decide), _, 1, rfl, rfl, (by show 3 ≤ sizeLine; decide), fun p hp => q _ p (same_upd hp) hp ⟨_, _, _, upd_same, ?_, ?_, ?_⟩⟩
  · split <;> omega
  · omega
  · omega
/-! ### _law_draw -/
abbrev sDraw : Stmt := topS 36
abbrev nDraw : List Str := ["_law_pen_here", "_law_many", "_law_found", "_law_stirred"]
theorem scDraw : FnScope nDraw ["_law_pen_here", "_law_many"] (defScope sDraw) := ⟨rfl, rfl, rfl, by decide +kernel, rfl, by decide +kernel, by decide +kernel⟩
def spDraw : Sp := fun vs H Q _ => ∃ (p : Addr) (m : Int), vs = [.ref p, .int m] ∧ Pen H p ∧ 1 ≤ m ∧ m ≤ 1000 ∧ ∀ H' r, Dr p H H' → 0 ≤ r → r < m → Q (.int r) H'
theorem at3 (x y z : Int) : atI [V.int x, .int y, .int z] 0 = some (.int x) ∧ atI [V.int x, .int y, .int z] 1 = some (.int y) ∧ atI [V.int x, .int y, .int z] 2 = some (.int z) := ⟨rfl, rfl, rfl⟩
theorem small64 {n : Int} (h0 : 0 ≤ n) (h1 : n < 2147483648) : -(2 ^ 64) < n ∧ n < 2 ^ 64 := ⟨by omega, by omega⟩
theorem ok_draw (A : At K mg "_law_draw" sDraw ["_law_pen_here", "_law_many"]) : Ok P w K mg base 1 "_law_draw" ["_law_pen_here", "_law_many"] spDraw := by
  refine A.ok (N := []) fun f fd F => F.ok scDraw (fun vs H Q E h => ?_) (fun cdv A outer s H vs Q E hr h => ?_)
  · obtain ⟨p, m, rfl, _⟩ := h
    rfl
  obtain ⟨p, m, rfl, hpen, hm1, hm2, q⟩ := h
  refine ⟨_, pss_cons (ps_if (pt_cmpR op_gt (pe_ix ix_list (pv 0) pe_int (fun _ _ => rfl)) pe_int (nomark _))
      (pss_cons (ps_set (i := 2) scDraw.nd rfl (.inl rfl) (pe_op op_mod (pe_ix ix_list (pv 0) pe_int (fun _ _ => rfl)) (pv 1)))
      (pss_cons (ps_asg (pe_op op_fdivN (pe_ix ix_list (pv 0) pe_int (fun _ _ => rfl)) (pv 1)) (pg_sub (pv 0) pe_int set_list))
      (pss_one (ps_ret (pv 2))))) pss_nil)
    (pss_cons (ps_asg (pe_op op_add (pe_ix ix_list (pv 0) pe_int (fun _ _ => rfl)) pe_int) (pg_sub (pv 0) pe_int set_list))
    (pss_cons (ps_asg (pe_op op_mod (pe_op op_add (pe_op op_add (pe_op op_mul (pe_ix ix_list (pv 0) pe_int (fun _ _ => rfl)) pe_int) (pe_op op_mul pe_int (pe_ix ix_list (pv 0) pe_int (fun _ _ => rfl)))) pe_int) pe_int) (pg_sub (pv 0) pe_int set_list))
    (pss_cons (ps_set (i := 3) scDraw.nd rfl (.inl rfl) (pe_op op_mod (pe_op op_add (pe_op op_add (pe_op op_mul (pe_ix ix_list (pv 0) pe_int (fun _ _ => rfl)) (pe_ix ix_list (pv 0) pe_int (fun _ _ => rfl)))
        (pe_op op_mul pe_int (pe_ix ix_list (pv 0) pe_int (fun _ _ => rfl)))) pe_int) pe_int))
    (pss_cons (ps_set (i := 3) scDraw.nd rfl (.inl rfl) (pe_op op_mod (pe_op op_add (pe_op op_mul (pv 3) (pv 3)) (pe_op op_mul pe_int (pv 3))) pe_int))
    (pss_one (ps_ret (pe_op op_mod (pe_op op_fdivN (pv 3) pe_int) (pv 1)))))))), ?_⟩
  obtain ⟨x, y, z, e, hx, hy, hy2⟩ := id hpen
  have hs := SqL.of (K := K) e
  refine ⟨_, rfl, p, _, 0, _, rfl, rfl, hs, rfl, x, 0, rfl, rfl, _, rfl, ite2 (fun c => ?_) (fun c => ?_)⟩
  · refine ⟨_, rfl, p, _, 0, _, rfl, rfl, hs, rfl, .int m, rfl, x, m, rfl, rfl, (by omega), ?_⟩
    refine ⟨_, rfl, p, _, 0, _, rfl, rfl, hs, rfl, .int m, rfl, x, m, rfl, rfl, ⟨by omega, by omega⟩, ?_⟩
    refine ⟨_, rfl, p, _, 0, 0, rfl, rfl, e, rfl, ?_⟩
    have hr0 := Int.emod_nonneg x (show m ≠ 0 by omega)
    have hr1 := Int.emod_lt_of_pos x (show 0 < m by omega)
    refine ⟨_, rfl, q _ _ ⟨hpen, fun b o hb eb => by rw [upd_ne hb]; exact eb, _, _, _, upd_same, ?_, hy, hy2⟩ hr0 hr1⟩
    rw [Int.fdiv_eq_ediv_of_nonneg _ (by omega)]
    exact Int.ediv_nonneg hx (by omega)
  · refine ⟨_, rfl, p, _, 2, _, rfl, rfl, hs, rfl, z, 1, rfl, rfl, ?_⟩
    refine ⟨_, rfl, p, _, 2, 2, rfl, rfl, e, rfl, ?_⟩
    have e2 : (upd H p (.lst ([V.int x, .int y, .int z].set 2 (.int (z + 1))))) p = some (.lst [.int x, .int y, .int (z + 1)]) := upd_same
    generalize hH1 : (upd H p (.lst ([V.int x, .int y, .int z].set 2 (.int (z + 1))))) = H1 at e2
    have k1 : ∀ b o, b ≠ p → H b = some o → H1 b = some o := fun b o hb eb => by
      rw [← hH1, upd_ne hb]
      exact eb
    have hs2 := SqL.of (K := K) e2
    refine ⟨_, rfl, p, _, 1, _, rfl, rfl, hs2, rfl, y, 48271, rfl, rfl, .inl (small64 hy hy2), ?_⟩
    refine ⟨_, rfl, p, _, 2, _, rfl, rfl, hs2, rfl, 1009, _, rfl, rfl, .inl ⟨by decide, by decide⟩, _, _, rfl, rfl, _, 7, rfl, rfl, _, 2147483647, rfl, rfl, (by show (0 : Int) < 2147483647; decide), ?_⟩
    refine ⟨_, rfl, p, _, 1, 1, rfl, rfl, e2, rfl, ?_⟩
    have hn0 := Int.emod_nonneg (y * 48271 + 1009 * (z + 1) + 7) (show (2147483647 : Int) ≠ 0 by decide)
    have hn1 := Int.emod_lt_of_pos (y * 48271 + 1009 * (z + 1) + 7) (show (0 : Int) < 2147483647 by decide)
    generalize hY : (y * 48271 + 1009 * (z + 1) + 7) % 2147483647 = Y at hn0 hn1
    have e3 : (upd H1 p (.lst ([V.int x, .int y, .int (z + 1)].set 1 (.int ((y * 48271 + 1009 * (z + 1) + 7) % 2147483647))))) p = some (.lst [.int x, .int Y, .int (z + 1)]) := by
      rw [hY]
      exact upd_same
    generalize hH2 : (upd H1 p (.lst ([V.int x, .int y, .int (z + 1)].set 1 (.int ((y * 48271 + 1009 * (z + 1) + 7) % 2147483647))))) = H2 at e3
    have k2 : ∀ b o, b ≠ p → H b = some o → H2 b = some o := fun b o hb eb => by
      rw [← hH2, upd_ne hb]
      exact k1 b o hb eb
    have hs3 := SqL.of (K := K) e3
    have hY64 := small64 hn0 (by omega)
    refine ⟨_, rfl, p, _, 1, _, rfl, rfl, hs3, rfl, _, rfl, p, _, 1, _, rfl, rfl, hs3, rfl, Y, Y, rfl, rfl, .inl hY64, ?_⟩
    refine ⟨_, rfl, p, _, 1, _, rfl, rfl, hs3, rfl, 69621, Y, rfl, rfl, .inl ⟨by decide, by decide⟩, _, _, rfl, rfl, _, 11, rfl, rfl, _, 2147483629, rfl, rfl, (by show (0 : Int) < 2147483629; decide), ?_⟩
    have ht0 := Int.emod_nonneg (Y * Y + 69621 * Y + 11) (show (2147483629 : Int) ≠ 0 by decide)
    have ht1 := Int.emod_lt_of_pos (Y * Y + 69621 * Y + 11) (show (0 : Int) < 2147483629 by decide)
    refine ⟨_, rfl, _, rfl, _, _, rfl, rfl, .inl (small64 ht0 (by omega)), ?_⟩
    refine ⟨_, rfl, 40014, _, rfl, rfl, .inl ⟨by decide, by decide⟩, _, _, rfl, rfl, _, 2147483587, rfl, rfl, (by show (0 : Int) < 2147483587; decide), ?_⟩
    refine ⟨_, rfl, _, 16, rfl, rfl, ⟨by decide, by decide⟩, .int m, rfl, _, m, rfl, rfl, (by omega), ?_⟩
    exact q H2 _ ⟨hpen, k2, _, _, _, e3, hx, hn0, by omega⟩ (Int.emod_nonneg _ (by omega)) (Int.emod_lt_of_pos _ (by omega))
end
end SgW
namespace SgW
open PySem PySem.Spec PyProof.Rows L2 SgR
theorem last_atL (ts : List Int) (x : Int) (h : ts[ts.length - 1]? = some x) : atI (ts.map V.int) (-1) = some (.int x) := by
  have hp : ts.length - 1 < ts.length := (List.getElem?_eq_some_iff.mp h).1
  unfold atI
  have e1 : ixN (ts.map V.int).length (-1) = some (ts.length - 1) := by
    unfold ixN
    rw [List.length_map, if_neg (by omega), if_pos (by omega)]
    congr 1
    omega
  rw [e1]
  exact getI h
theorem mem_int {ns : List Int} {v : V} (h : v ∈ ns.map V.int) : ∃ n ∈ ns, v = .int n := by
  obtain ⟨n, hn, e⟩ := List.mem_map.mp h
  exact ⟨n, hn, e.symm⟩
section
variable {P : Program} {w : World} {K : PySem.W.Frag} {mg : Str → Option Value} {base : Heap}
/-! ### _law_pick -/
abbrev sPick : Stmt := topS 37
theorem scPick : FnScope ["_law_pen_here", "_law_values"] ["_law_pen_here", "_law_values"] (defScope sPick) := ⟨rfl, rfl, rfl, by decide +kernel, rfl, by decide +kernel, by decide +kernel⟩
def spPick : Sp := fun vs H Q _ => ∃ (p l : Addr) (xs : List V), vs = [.ref p, .ref l] ∧ Pen H p ∧ l ≠ p ∧ H l = some (.lst xs) ∧ 1 ≤ xs.length ∧ xs.length ≤ 1000 ∧ ∀ H' v, Dr p H H' → v ∈ xs → Q v H'
theorem ok_pick (T : Bl mg) (A : At K mg "_law_pick" sPick ["_law_pen_here", "_law_values"]) (G : Ok P w K mg base 1 "_law_draw" ["_law_pen_here", "_law_many"] spDraw) : Ok P w K mg base 2 "_law_pick" ["_law_pen_here", "_law_values"] spPick := by
  refine A.ok (N := []) fun f fd F => F.ok scPick (fun vs H Q E h => ?_) (fun cdv A outer s H vs Q E hr h => ?_)
  · obtain ⟨p, l, xs, rfl, _⟩ := h
    rfl
  obtain ⟨p, l, xs, rfl, hpen, hne, hl, h1, h2, q⟩ := h
  refine ⟨_, pss_one (ps_ret (pe_ix ix_list (pv 1) (pe_ok G hr (by rfl) (pa_cons (pv 0) (pa_cons (pe_callB call_len_seq (by rfl) T.len PySem.boot_len (pa_cons (pv 1) pa_nil)) pa_nil))) (fun _ _ => rfl))), ?_⟩
  refine ⟨_, rfl, _, rfl, _, rfl, l, _, rfl, .inl (SqL.of hl), p, _, rfl, hpen, by omega, by omega, fun H1 r d h3 h4 => ?_⟩
  have hr : xs[r.toNat]? = some xs[r.toNat] := List.getElem?_eq_getElem (by omega)
  exact ⟨l, xs, r, _, rfl, rfl, SqL.of (d.lst hne hl), at_of (j := r.toNat) (by omega) hr, q H1 _ d (List.mem_of_getElem? hr)⟩
/-! ### _law_mixed -/
abbrev sMixed : Stmt := topS 38
abbrev nMixed : List Str := ["_law_pen_here", "_law_values", "_law_left", "_law_found", "_law_turn"]
theorem scMixed : FnScope nMixed ["_law_pen_here", "_law_values"] (defScope sMixed) := ⟨rfl, rfl, rfl, by decide +kernel, rfl, by decide +kernel, by decide +kernel⟩
def spMixed : Sp := fun vs H Q _ => ∃ (p l : Addr) (ns : List Int), vs = [.ref p, .ref l] ∧ Pen H p ∧ l ≠ p ∧ Li H l ns ∧ ns.length ≤ 1000 ∧ ∀ H' q ms, Dr p H H' → H q = none → Li H' q ms → ms.Perm ns → Q (.ref q) H'
theorem map_eraseIdx (ns : List Int) (k : Nat) : (ns.map V.int).eraseIdx k = (ns.eraseIdx k).map V.int := by
  rw [List.eraseIdx_eq_take_drop_succ, List.eraseIdx_eq_take_drop_succ, List.map_append, List.map_take, List.map_drop]
theorem perm_erase {ls fs : List Int} {k : Nat} {x : Int} (h : ls[k]? = some x) : (ls.eraseIdx k ++ (fs ++ [x])).Perm (ls ++ fs) := by
  obtain ⟨hk, hx⟩ := List.getElem?_eq_some_iff.mp h
  have e : ls = ls.take k ++ x :: ls.drop (k + 1) := by
    rw [← hx, ← List.drop_eq_getElem_cons hk, List.take_append_drop]
  rw [List.eraseIdx_eq_take_drop_succ]
  have p1 : (ls.take k ++ ls.drop (k + 1) ++ (fs ++ [x])).Perm (x :: (ls.take k ++ ls.drop (k + 1) ++ fs)) := by
    rw [← List.append_assoc]
    exact List.perm_append_comm
  have p2 : (ls ++ fs).Perm (x :: (ls.take k ++ ls.drop (k + 1) ++ fs)) := by
    have : (ls.take k ++ x :: ls.drop (k + 1) ++ fs).Perm (x :: (ls.take k ++ ls.drop (k + 1) ++ fs)) := by
      rw [List.append_assoc, List.append_assoc]
      exact List.perm_middle
    rw [← e] at this
    exact this
  exact p1.trans p2.symm
theorem ok_mixed (T : Bl mg) (A : At K mg "_law_mixed" sMixed ["_law_pen_here", "_law_values"]) (G : Ok P w K mg base 1 "_law_draw" ["_law_pen_here", "_law_many"] spDraw) : Ok P w K mg base 2 "_law_mixed" ["_law_pen_here", "_law_values"] spMixed := by
  refine A.ok (N := []) fun f fd F => F.ok scMixed (fun vs H Q E h => ?_) (fun cdv A outer s H vs Q E hr h => ?_)
  · obtain ⟨p, l, xs, rfl, _⟩ := h
    rfl
  obtain ⟨p, l, ns, rfl, hpen, hne, hl, hz, q⟩ := h
  refine ⟨_, pss_cons (ps_par (i := 2) (j := 3) (by rfl) scMixed.nd rfl rfl (by decide) rfl rfl (pa_cons (pe_callTy call_list_of (by rfl) T.list boot_list (pa_cons (pv 1) pa_nil)) (pa_cons (pe_lst pa_nil) pa_nil)) (by rfl))
    (pss_cons (ps_for PassesOwn.never rfl (pi_range1 (by rfl) T.range (pa_cons (pe_callB call_len_seq (by rfl) T.len PySem.boot_len (pa_cons (pv 1) pa_nil)) pa_nil)) (pg_name (i := 4) scMixed.nd rfl (.inl rfl))
      (pss_one (ps_expr (pe_bm PySem.F.plainAttrs_list PySem.F.slot_list_append PySem.F.type_list_append mt_append (pv 3) (pa_cons
        (pe_bm PySem.F.plainAttrs_list PySem.F.slot_list_pop PySem.F.type_list_pop mt_popAt (pv 2) (pa_cons (pe_ok G hr (by rfl) (pa_cons (pv 0) (pa_cons (pe_callB call_len_seq (by rfl) T.len PySem.boot_len (pa_cons (pv 2) pa_nil)) pa_nil))) pa_nil)) pa_nil)))))
    (pss_one (ps_ret (pv 3)))), ?_⟩
  refine ⟨_, rfl, l, _, rfl, .inl (SqL.of hl), fun a na => ?_⟩
  have s1 := same_upd (o := .lst (ns.map V.int)) na
  refine ⟨Nat.zero_le _, fun b nb => ⟨.ref a, .ref b, rfl, ?_⟩⟩
  have s2 := same_upd (o := .lst []) nb
  have s12 := s1.trans s2
  have nab : a ≠ b := ne_of_none upd_same nb
  have nb0 : H b = none := s1.free nb
  refine ⟨_, rfl, l, _, rfl, .inl (SqL.of (s12 _ _ hl)), (ns.length : Int), by rw [List.length_map], by omega, by omega, ?_⟩
  refine for_range (lo := 0) (n := ((ns.length : Int)).toNat) (fun i σ H' => ∃ ls fs y, σ = [some (.ref p), some (.ref l), some (.ref a), some (.ref b), y] ∧ Dr p H H' ∧ Li H' a ls ∧ Li H' b fs ∧ (ls ++ fs).Perm ns ∧ ls.length + i = ns.length)
    ⟨ns, [], none, rfl, Dr.of hpen s12, s2 _ _ upd_same, upd_same, by rw [List.append_nil], rfl⟩ (fun i σ H' hi g => ?_) (fun σ H' g => ?_)
  · obtain ⟨ls, fs, y, rfl, d, ea, eb, hp, hlen⟩ := g
    have hpl := hp.length_eq
    rw [List.length_append] at hpl
    have hna := hpen.ne na
    have hnb := hpen.ne nb0
    refine ⟨_, rfl, .inl ⟨rfl, _, SqL.of eb⟩, _, rfl, .inl ⟨rfl, _, SqL.of ea⟩, _, rfl, _, rfl, a, _, rfl, .inl (SqL.of ea), p, _, rfl, d.pen, by rw [List.length_map]; omega, by rw [List.length_map]; omega, fun H2 r d2 h3 h4 => ?_⟩
    rw [List.length_map] at h4
    have ea2 := d2.lst hna ea
    have eb2 := d2.lst hnb eb
    have hk : ls[r.toNat]? = some ls[r.toNat] := List.getElem?_eq_getElem (by omega)
    have hseq : seqIndex? r (ls.map V.int).length = some r.toNat := (ixN_seq (by unfold ixN; rw [List.length_map, if_pos h3, if_pos h4])).1
    refine ⟨a, _, r, r.toNat, _, rfl, rfl, ea2, by omega, by omega, hseq, getI hk, ?_⟩
    have d3 := (d.trans d2).old (o := .lst ((ls.map V.int).eraseIdx r.toNat)) na
    have eb3 : (upd H2 a (.lst ((ls.map V.int).eraseIdx r.toNat))) b = some (.lst (fs.map V.int)) := by
      rw [upd_ne nab.symm]
      exact eb2
    refine ⟨b, _, _, rfl, rfl, eb3, small1000 (by rw [List.length_map]; omega), ?_⟩
    refine ⟨ls.eraseIdx r.toNat, fs ++ [ls[r.toNat]], _, rfl, d3.old nb0, ?_, ?_, (perm_erase hk).trans hp, ?_⟩
    · rw [Li, upd_ne nab, upd_same, map_eraseIdx]
    · rw [Li, upd_same, List.map_append]
      rfl
    · rw [List.length_eraseIdx_of_lt (by omega)]
      omega
  · obtain ⟨ls, fs, y, rfl, d, ea, eb, hp, hlen⟩ := g
    have e0 : ls = [] := List.eq_nil_of_length_eq_zero (by omega)
    subst e0
    exact ⟨_, rfl, q H' b fs d nb0 eb hp⟩
/-! ### _law_work -/
abbrev sLWork : Stmt := topS 39
abbrev nLWork : List Str := ["_law_pen_here", "_law_long", "_law_many", "_law_names", "_law_found", "_law_rare", "_law_turn"]
abbrev pLWork : List Str := ["_law_pen_here", "_law_long", "_law_many"]
theorem scLWork : FnScope nLWork pLWork (defScope sLWork) := ⟨rfl, rfl, rfl, by decide +kernel, rfl, by decide +kernel, by decide +kernel⟩
def spLWork : Sp := fun vs H Q _ => ∃ (p : Addr), vs = [.ref p, .int 8, .int 3] ∧ Pen H p ∧ ∀ H' a ns, Dr p H H' → Tu H' a ns → Sg.Work ns → ns.length ≤ 8 → Q (.ref a) H'
abbrev tens : List Int := [0, 1, 2, 3, 4, 5, 6, 7, 8, 9]
theorem rg10 : rgV 0 10 = tens.map V.int := rfl
theorem tens_rng {x : Int} (h : x ∈ tens) : 0 ≤ x ∧ x ≤ 9 := by
  simp at h
  omega
theorem ok_lwork (T : Bl mg) (A : At K mg "_law_work" sLWork pLWork) (GD : Ok P w K mg base 1 "_law_draw" ["_law_pen_here", "_law_many"] spDraw) (GP : Ok P w K mg base 2 "_law_pick" ["_law_pen_here", "_law_values"] spPick)
    (GM : Ok P w K mg base 2 "_law_mixed" ["_law_pen_here", "_law_values"] spMixed) : Ok P w K mg base 3 "_law_work" pLWork spLWork := by
  refine A.ok (N := []) fun f fd F => F.ok scLWork (fun vs H Q E h => ?_) (fun cdv A outer s H vs Q E hr h => ?_)
  · obtain ⟨p, rfl, _⟩ := h
    rfl
  obtain ⟨p, rfl, hpen, q⟩ := h
  refine ⟨_, pss_cons (ps_set (i := 3) scLWork.nd rfl (.inl rfl) (pe_slice sl_list (pe_ok GM hr (by rfl) (pa_cons (pv 0) (pa_cons (pe_listRg rfl (by rfl) T.list (prg_1 (by rfl) T.range pe_int)) pa_nil)))
      po_none (po_some (pe_op op_add pe_int (pe_ok GD (hr.mono (by decide)) (by rfl) (pa_cons (pv 0) (pa_cons (pv 2) pa_nil)))))))
    (pss_cons (ps_par (i := 4) (j := 5) (by rfl) scLWork.nd rfl rfl (by decide) rfl rfl (pa_cons (pe_lst (pa_cons (pe_ok GP hr (by rfl) (pa_cons (pv 0) (pa_cons (pv 3) pa_nil))) pa_nil))
      (pa_cons (pe_op op_add pe_int (pe_ok GD (hr.mono (by decide)) (by rfl) (pa_cons (pv 0) (pa_cons pe_int pa_nil)))) pa_nil)) (by rfl))
    (pss_cons (ps_for PassesOwn.never rfl (pi_range1 (by rfl) T.range (pa_cons (pe_ok GD (hr.mono (by decide)) (by rfl) (pa_cons (pv 0) (pa_cons (pv 1) pa_nil))) pa_nil)) (pg_name (i := 6) scLWork.nd rfl (.inl rfl))
      (pss_one (ps_expr (pe_bm PySem.F.plainAttrs_list PySem.F.slot_list_append PySem.F.type_list_append mt_append (pv 4) (pa_cons
        (pe_ifExp (pt_cmpR op_eq (pe_ok GD (hr.mono (by decide)) (by rfl) (pa_cons (pv 0) (pa_cons (pv 5) pa_nil))) pe_int (nomark _)) (pe_un un_neg pe_int) (pe_ok GP hr (by rfl) (pa_cons (pv 0) (pa_cons (pv 3) pa_nil)))) pa_nil)))))
    (pss_cons (ps_if (pt_cmpR op_eq (pe_ix ix_list (pv 4) (pe_un un_neg pe_int) (fun _ _ => rfl)) (pe_un un_neg pe_int) (nomark _))
      (pss_one (ps_asg (pe_ok GP hr (by rfl) (pa_cons (pv 0) (pa_cons (pv 3) pa_nil))) (pg_sub (pv 4) (pe_un un_neg pe_int) set_list))) pss_nil)
    (pss_one (ps_ret (pe_callTy call_tuple_of (by rfl) T.tuple boot_tuple (pa_cons (pv 4) pa_nil))))))), ?_⟩
  -- the names
  refine ⟨_, rfl, 10, rfl, RgOk.of_le (by decide) (by decide) (by decide) (by decide), fun l nl => ?_⟩
  have s1 := same_upd (o := .lst (rgV 0 10)) nl
  refine ⟨p, l, tens, rfl, hpen.same s1, hpen.ne nl, by rw [Li, upd_same, rg10], by decide, fun H1 m ms d1 nm em hperm => ?_⟩
  have d01 : Dr p H H1 := (Dr.of hpen s1).trans d1
  have nm0 : H m = none := s1.free nm
  refine ⟨_, rfl, .int 3, rfl, p, 3, rfl, d1.pen, by decide, by decide, fun H2 r d2 h0 h3 => ?_⟩
  refine ⟨1, r, rfl, rfl, 1 + r, rfl, m, _, rfl, SqL.of (d2.lst (hpen.ne nm0) em), fun a na => ?_⟩
  have hml : ms.length = 10 := hperm.length_eq
  have ecut : cutV (ms.map V.int) none (some (1 + r)) = (ms.take (1 + r).toNat).map V.int := by
    have := cutV_take ms (1 + r).toNat
    rwa [show (((1 + r).toNat : Nat) : Int) = 1 + r by omega] at this
  rw [ecut]
  have hN : ∀ x ∈ ms.take (1 + r).toNat, 0 ≤ x ∧ x ≤ 9 := fun x hx => tens_rng (hperm.mem_iff.mp (List.mem_of_mem_take hx))
  have hNl : (ms.take (1 + r).toNat).length = (1 + r).toNat := by rw [List.length_take, hml]; omega
  generalize ms.take (1 + r).toNat = N at hN hNl
  have s2 := same_upd (o := .lst (N.map V.int)) na
  have d02 : Dr p H (upd H2 a (.lst (N.map V.int))) := (d01.trans d2).same s2
  have na0 : a ≠ p := d2.pen.ne na
  have hNl1 : 1 ≤ (N.map V.int).length := by rw [List.length_map]; omega
  have hNl2 : (N.map V.int).length ≤ 1000 := by rw [List.length_map]; omega
  have eaN : (upd H2 a (.lst (N.map V.int))) a = some (.lst (N.map V.int)) := upd_same
  generalize (upd H2 a (.lst (N.map V.int))) = H3 at d02 eaN
  -- the first one, the rare
  refine ⟨_, rfl, _, rfl, p, a, _, rfl, d02.pen, na0, eaN, hNl1, hNl2, fun H4 v d4 hv => ?_⟩
  obtain ⟨n0, hn0, rfl⟩ := mem_int hv
  refine ⟨(by show 1 ≤ sizeLine; decide), fun b nb => ?_⟩
  have s4 := same_upd (o := .lst [.int n0]) nb
  have nb0 : b ≠ p := d4.pen.ne nb
  have eaN4 := d4.lst na0 eaN
  have nba : b ≠ a := (ne_of_none eaN4 nb).symm
  have d04 := (d02.trans d4).same s4
  have nbH3 : H3 b = none := by
    cases e : H3 b with
    | none => rfl
    | some o =>
      by_cases hbp : b = p
      · exact absurd hbp nb0
      · rw [d4.keep _ _ hbp e] at nb
        cases nb
  refine ⟨_, rfl, p, 3, rfl, d04.pen, by decide, by decide, fun H5 r2 d5 h50 h53 => ?_⟩
  refine ⟨2, r2, rfl, rfl, .ref b, .int (2 + r2), rfl, ?_⟩
  have ea5 := d5.lst na0 (s4 _ _ eaN4)
  have eb5 := d5.lst nb0 (show (upd H4 b (.lst [.int n0])) b = some (.lst [.int n0]) from upd_same)
  have d35 : Dr p H3 H5 := (d4.same s4).trans d5
  -- the loop
  refine ⟨_, rfl, .int 8, rfl, p, 8, rfl, d5.pen, by decide, by decide, fun H6 r3 d6 h60 h68 => ?_⟩
  refine ⟨r3, rfl, by omega, by omega, ?_⟩
  refine for_range (lo := 0) (n := r3.toNat) (fun i σ H' => ∃ fs y, σ = [some (.ref p), some (.int 8), some (.int 3), some (.ref a), some (.ref b), some (.int (2 + r2)), y] ∧ Dr p H3 H' ∧ Li H' b fs ∧ fs.length = i + 1 ∧ fs[0]? = some n0 ∧ ∀ x ∈ fs, x = -1 ∨ x ∈ N)
    ⟨[n0], none, rfl, d35.trans d6, d6.lst nb0 eb5, rfl, rfl, fun x hx => .inr (by rw [List.mem_singleton.mp hx]; exact hn0)⟩ (fun i σ H' hi g => ?_) (fun σ H' g => ?_)
  · obtain ⟨fs, y, rfl, d, eb, hfl, hf0, hfm⟩ := g
    refine ⟨_, rfl, .inl ⟨rfl, _, SqL.of eb⟩, _, rfl, _, rfl, p, _, rfl, d.pen, by omega, by omega, fun H7 r4 d7 h70 h71 => ?_⟩
    have app : ∀ (H8 : Hp) (x : Int), Dr p H7 H8 → (x = -1 ∨ x ∈ N) → rAppend (.ref b) [.int x] H8 (fun _ H9 => ∃ fs y, [some (V.ref p), some (.int 8), some (.int 3), some (.ref a), some (.ref b), some (.int (2 + r2)), some (.int (0 + (i : Int)))] =
        [some (.ref p), some (.int 8), some (.int 3), some (.ref a), some (.ref b), some (.int (2 + r2)), y] ∧ Dr p H3 H9 ∧ Li H9 b fs ∧ fs.length = i + 1 + 1 ∧ fs[0]? = some n0 ∧ ∀ x ∈ fs, x = -1 ∨ x ∈ N) := fun H8 x d8 hx => by
      have eb8 := d8.lst nb0 (d7.lst nb0 eb)
      refine ⟨b, _, _, rfl, rfl, eb8, small1000 (by rw [List.length_map]; omega), fs ++ [x], _, rfl, ((d.trans d7).trans d8).old nbH3, ?_, ?_, ?_, ?_⟩
      · rw [Li, upd_same, List.map_append]
        rfl
      · rw [List.length_append, List.length_singleton, hfl]
      · rw [List.getElem?_append_left (by omega)]
        exact hf0
      · intro z hz
        rcases List.mem_append.mp hz with hz | hz
        · exact hfm z hz
        · rw [List.mem_singleton.mp hz]
          exact hx
    refine ⟨rfl, _, rfl, ite2 (fun c => ?_) (fun c => ?_)⟩
    · exact ⟨1, rfl, app H7 (-1) (Dr.refl d7.pen) (.inl rfl)⟩
    · refine ⟨_, rfl, _, rfl, p, a, _, rfl, d7.pen, na0, d7.lst na0 (d.lst na0 eaN), hNl1, hNl2, fun H8 v d8 hv => ?_⟩
      obtain ⟨n, hn, rfl⟩ := mem_int hv
      exact app H8 n d8 (.inr hn)
  · obtain ⟨fs, y, rfl, d, eb, hfl, hf0, hfm⟩ := g
    have hz : fs[fs.length - 1]? = some fs[fs.length - 1] := List.getElem?_eq_getElem (by omega)
    have hn0r := hN n0 hn0
    have hrng : ∀ x ∈ fs, -1 ≤ x ∧ x ≤ 9 := fun x hx => by
      rcases hfm x hx with e | e
      · omega
      · have := hN x e
        omega
    generalize fs[fs.length - 1] = z at hz
    have la := last_atL fs z hz
    refine ⟨_, rfl, 1, rfl, b, _, _, _, rfl, rfl, SqL.of eb, la, 1, rfl, rfl, _, rfl, ite2 (fun c => ?_) (fun c => ?_)⟩
    · have c' : z = -1 := V.int.inj (of_decide_eq_true c)
      subst c'
      have h1 : 1 < fs.length := by
        apply Classical.byContradiction
        intro hh
        have : fs.length - 1 = 0 := by omega
        rw [this, hf0] at hz
        have := Option.some.inj hz
        omega
      refine ⟨_, rfl, _, rfl, p, a, _, rfl, d.pen, na0, d.lst na0 eaN, hNl1, hNl2, fun H8 v d8 hv => ?_⟩
      obtain ⟨n, hn, rfl⟩ := mem_int hv
      have hnr := hN n hn
      have eb8 := d8.lst nb0 eb
      have ix : ixN (fs.map V.int).length (-1) = some (fs.length - 1) := by
        unfold ixN
        rw [List.length_map, if_neg (by omega), if_pos (by omega)]
        congr 1
        omega
      refine ⟨_, rfl, 1, rfl, b, _, -1, fs.length - 1, rfl, rfl, eb8, ix, ?_⟩
      have d9 : Dr p H3 (upd H8 b (.lst ((fs.map V.int).set (fs.length - 1) (.int n)))) := (d.trans d8).old nbH3
      refine ⟨_, rfl, b, _, rfl, .inl ⟨SqL.of upd_same, fun t nt => ?_⟩⟩
      have eset : (fs.map V.int).set (fs.length - 1) (.int n) = (fs.set (fs.length - 1) n).map V.int := by
        rw [List.map_set]
      refine q _ t (fs.set (fs.length - 1) n) ((d02.trans d9).same (same_upd nt)) (by rw [Tu, upd_same, eset]) ⟨by rw [List.length_set]; omega, fun x hx => ?_, ?_, ?_⟩ (by rw [List.length_set]; omega)
      · rcases List.mem_or_eq_of_mem_set hx with hx | hx
        · exact hrng x hx
        · omega
      · rw [List.getElem?_set_ne (by omega), hf0]
        intro e
        have := Option.some.inj e
        omega
      · rw [List.length_set, List.getElem?_set_self (by omega)]
        intro e
        have := Option.some.inj e
        omega
    · have c' : z ≠ -1 := fun e => c (decide_eq_true (congrArg V.int e))
      refine ⟨_, rfl, b, _, rfl, .inl ⟨SqL.of eb, fun t nt => ?_⟩⟩
      refine q _ t fs ((d02.trans d).same (same_upd nt)) upd_same ⟨by omega, hrng, ?_, ?_⟩ (by omega)
      · rw [hf0]
        intro e
        have := Option.some.inj e
        omega
      · rw [hz]
        intro e
        exact c' (Option.some.inj e)
end
end SgW
namespace SgW
open PySem PySem.Spec PyProof.Rows L2 SgR
def optD : Option (List Int) → PyData
  | none => .none
  | some ws => .tuple (ws.map PyData.int)
theorem OptV.dp {K : PySem.W.Frag} {H : Hp} : ∀ {r : Option (List Int)} {v : V}, OptV H r v → Dp K H v (optD r)
  | none, _, h => by
    have e : _ = V.non := h
    subst e
    exact .non
  | some ws, _, ⟨a, e, h⟩ => by
    subst e
    exact .tup (SqT.of h) (dpInts ws)
theorem shOpt : ∀ r : Option (List Int), SeqAt.shaped (optD r) = true
  | none => rfl
  | some ws => shInts ws
theorem eqvOpt : ∀ r : Option (List Int), PyData.eqv (optD r) (optD r) = true
  | none => by simp [optD, PyData.eqv]
  | some ws => by
    unfold optD
    rw [eqvTu, decide_eq_true rfl]
section
variable {P : Program} {w : World} {K : PySem.W.Frag} {mg : Str → Option Value} {base : Heap}
/-! ### _law_waits -/
abbrev sLWaits : Stmt := topS 40
abbrev nLWaits : List Str := ["_law_pen_here", "_law_items", "_law_item"]
theorem scLWaits : FnScope nLWaits ["_law_pen_here", "_law_items"] (defScope sLWaits) := ⟨rfl, rfl, rfl, by decide +kernel, rfl, by decide +kernel, by decide +kernel⟩
def spLWaits : Sp := fun vs H Q _ => ∃ (p a : Addr) (ns : List Int), vs = [.ref p, .ref a] ∧ Pen H p ∧ Tu H a ns ∧ 1 ≤ ns.length ∧ ns.length ≤ 12 ∧ ∀ H' b ws, Dr p H H' → Tu H' b ws → ws.length + 1 = ns.length → (∀ y ∈ ws, 0 ≤ y ∧ y ≤ 11) → Q (.ref b) H'
theorem ok_lwaits (T : Bl mg) (A : At K mg "_law_waits" sLWaits ["_law_pen_here", "_law_items"]) (GD : Ok P w K mg base 1 "_law_draw" ["_law_pen_here", "_law_many"] spDraw) (GP : Ok P w K mg base 2 "_law_pick" ["_law_pen_here", "_law_values"] spPick) :
    Ok P w K mg base 3 "_law_waits" ["_law_pen_here", "_law_items"] spLWaits := by
  refine A.ok (N := []) fun f fd F => F.ok scLWaits (fun vs H Q E h => ?_) (fun cdv A outer s H vs Q E hr h => ?_)
  · obtain ⟨p, a, ns, rfl, _⟩ := h
    rfl
  obtain ⟨p, a, ns, rfl, hpen, h, hp1, hz, q⟩ := h
  refine ⟨_, pss_one (ps_ret (pe_callTy call_tuple_of (by rfl) T.tuple boot_tuple (pa_cons
    (pe_lc (own := [("_law_item", 2)]) (g := gName 2) (tt := tYes) rfl scLWaits.nd (pi_tup (pe_slice sl_tupA (pv 1) (po_some pe_int) po_none)) (blkOk_by (own := [("_law_item", 2)]) (N := nLWaits) (sc := defScope sLWaits) (by decide +kernel))
      (fun _ _ _ _ _ => pg_name (i := 2) scLWaits.nd rfl (Or.inl rfl)) (fun _ _ _ _ _ => pts_nil)
      (fun _ _ _ _ _ => pe_ok GP hr (by rfl) (pa_cons (pv 0) (pa_cons (pe_lst (pa_cons pe_int (pa_cons pe_int (pa_cons pe_int (pa_cons pe_int (pa_cons pe_int (pa_cons pe_int (pa_cons pe_int
        (pa_cons (pe_ok GD (hr.mono (by decide)) (by rfl) (pa_cons (pv 0) (pa_cons pe_int pa_nil))) pa_nil))))))))) pa_nil)))) pa_nil))), ?_⟩
  refine ⟨_, rfl, 1, rfl, slN_of h fun H1 c s1 e1 => ?_⟩
  rw [show (some (1 : Int)) = some ((1 : Nat) : Int) from rfl, cutV_drop] at e1
  have hpen1 := hpen.same s1
  refine ⟨c, rfl, ⟨_, SqT.of e1⟩, fun D hD => ?_⟩
  have hDp := hpen1.ne hD
  refine lc_tup (xs := (ns.drop 1).map V.int) (fun i H' => Dr p H1 H' ∧ ∃ ws, Li H' D ws ∧ ws.length = i ∧ ∀ y ∈ ws, 0 ≤ y ∧ y ≤ 11) ⟨(Dr.of hpen1 (same_upd hD)), [], upd_same, rfl, by simp⟩ (fun i H' _ g => SqT.of (g.1.tup e1)) (fun i x H' hx g => ?_) (fun H' g => ?_)
  · obtain ⟨d, ws, e, hl, hr⟩ := g
    have hi := (List.getElem?_eq_some_iff.mp hx).1
    rw [List.length_map, List.length_drop] at hi
    refine ⟨rfl, .ref p, rfl, .ref p, rfl, p, 12, rfl, d.pen, by decide, by decide, fun H2 r d2 h0 h12 => ?_⟩
    refine ⟨(by show 8 ≤ sizeLine; decide), fun l nl => ?_⟩
    have s2 := same_upd (o := .lst [.int 0, .int 0, .int 0, .int 1, .int 2, .int 5, .int 11, .int r]) nl
    refine ⟨p, l, _, rfl, d2.pen.same s2, d2.pen.ne nl, upd_same, (by show 1 ≤ 8; decide), (by show 8 ≤ 1000; decide), fun H3 v d3 hv => ?_⟩
    have hv' : ∃ y, 0 ≤ y ∧ y ≤ 11 ∧ v = .int y := by
      simp only [List.mem_cons, List.not_mem_nil, or_false] at hv
      rcases hv with e | e | e | e | e | e | e | e
      · exact ⟨0, by decide, by decide, e⟩
      · exact ⟨0, by decide, by decide, e⟩
      · exact ⟨0, by decide, by decide, e⟩
      · exact ⟨1, by decide, by decide, e⟩
      · exact ⟨2, by decide, by decide, e⟩
      · exact ⟨5, by decide, by decide, e⟩
      · exact ⟨11, by decide, by decide, e⟩
      · exact ⟨r, h0, by omega, e⟩
    obtain ⟨y, hy0, hy1, rfl⟩ := hv'
    have d13 := (d2.same s2).trans d3
    refine ⟨_, d13.lst hDp e, small1000 (by rw [List.length_map]; omega), (d.trans d13).old hD, ws ++ [y], ?_, ?_, ?_⟩
    · rw [Li, upd_same, List.map_append]
      rfl
    · rw [List.length_append, List.length_singleton, hl]
    · intro z hz
      rcases List.mem_append.mp hz with hz | hz
      · exact hr z hz
      · rw [List.mem_singleton.mp hz]
        exact ⟨hy0, hy1⟩
  · obtain ⟨d, ws, e, hl, hr⟩ := g
    rw [List.length_map, List.length_drop] at hl
    refine ⟨D, _, rfl, .inl ⟨SqL.of e, fun t nt => ?_⟩⟩
    exact q _ t ws (((Dr.of hpen s1).trans d).same (same_upd nt)) upd_same (by omega) hr
/-! ### _law_sum -/
abbrev sLSum : Stmt := topS 41
abbrev nLSum : List Str := ["_law_items", "_law_distance", "_law_found"]
theorem scLSum : FnScope nLSum ["_law_items", "_law_distance"] (defScope sLSum) := ⟨rfl, rfl, rfl, by decide +kernel, rfl, by decide +kernel, by decide +kernel⟩
def spLSum : Sp := fun vs H Q _ => ∃ (a : Addr) (ns : List Int) (d : Int), vs = [.ref a, .int d] ∧ Tu H a ns ∧ Sg.Work ns ∧ ns.length ≤ 12 ∧ 1 ≤ d ∧ d ≤ 12 ∧ ∀ H', Same H H' → Q (.int (Sg.sumF ns d)) H'
theorem ok_lsum (T : Bl mg) (A : At K mg "_law_sum" sLSum ["_law_items", "_law_distance"]) (GS : Ok P w K mg base 16 "stretch" ["work", "distance"] spStretchOf) : Ok P w K mg base 17 "_law_sum" ["_law_items", "_law_distance"] spLSum := by
  refine A.ok (N := []) fun f fd F => F.ok scLSum (fun vs H Q E h => ?_) (fun cdv A outer s H vs Q E hr h => ?_)
  · obtain ⟨a, ns, d, rfl, _⟩ := h
    rfl
  obtain ⟨a, ns, d, rfl, h, W, hz, h1, h2, q⟩ := h
  refine ⟨_, pss_cons (ps_set (i := 2) scLSum.nd rfl (.inl rfl) (pe_ok GS hr (by rfl) (pa_cons (pv 0) (pa_cons (pv 1) pa_nil))))
    (pss_one (ps_ret (pe_ifExp (pt_cmp (pc_isN (pv 2))) (pe_un un_neg pe_int) (pe_callB (cr_sumT rfl) (by rfl) T.sum boot_sum (pa_cons (pv 2) pa_nil))))), ?_⟩
  refine ⟨_, rfl, _, rfl, a, ns, d, rfl, h, W, hz, h1, h2, fun H1 v s1 ov => ?_⟩
  have qq := q H1 s1
  unfold Sg.sumF at qq
  cases e : Sg.stretchF ns d with
  | none =>
    rw [e] at ov qq
    have ev : v = .non := ov
    subst ev
    exact ⟨_, rfl, _, rfl, iteD rfl ⟨1, rfl, qq⟩⟩
  | some ws =>
    rw [e] at ov qq
    obtain ⟨u, rfl, eu⟩ := ov
    exact ⟨_, rfl, _, rfl, iteDN (fun z => nomatch z) ⟨_, rfl, u, ws, rfl, SqT.of eu, qq⟩⟩
/-! ### _law_same_sums -/
abbrev sSame : Stmt := topS 42
abbrev nSame : List Str := ["_law_pen_here", "_law_items", "_law_distance", "_law_names", "_law_other", "_law_at", "_law_one"]
abbrev pSame : List Str := ["_law_pen_here", "_law_items", "_law_distance"]
theorem scSame : FnScope nSame pSame (defScope sSame) := ⟨rfl, rfl, rfl, by decide +kernel, rfl, by decide +kernel, by decide +kernel⟩
def spSame : Sp := fun vs H Q _ => ∃ (p a : Addr) (ns : List Int) (d : Int), vs = [.ref p, .ref a, .int d] ∧ Pen H p ∧ Tu H a ns ∧ Sg.Work ns ∧ ns.length ≤ 8 ∧ 1 ≤ d ∧ d ≤ 12 ∧ ∀ H', Dr p H H' → Q (.bl true) H'
def fN (ms : List Int) (x : Int) : Int := if x = -1 then -1 else ms.getD x.toNat 0
theorem fN_at {ms : List Int} (hl : ms.length = 10) {x : Int} (h : -1 ≤ x ∧ x ≤ 9) : atI ((ms ++ [-1]).map V.int) x = some (.int (fN ms x)) := by
  by_cases e : x = -1
  · subst e
    rw [List.map_append]
    exact atI_last _ _
  · have hk : ms[x.toNat]? = some ms[x.toNat] := List.getElem?_eq_getElem (by omega)
    have ef : fN ms x = ms[x.toNat] := by
      unfold fN
      rw [if_neg e, List.getD_eq_getElem?_getD, hk]
      rfl
    rw [ef]
    refine at_of (j := x.toNat) (by omega) (getI ?_)
    rw [List.getElem?_append_left (by omega)]
    exact hk
theorem fN_ok {ms : List Int} (hp : ms.Perm tens) {x : Int} (h : -1 ≤ x ∧ x ≤ 9) (e : x ≠ -1) : ∃ k, x = (k : Nat) ∧ ms[k]? = some (fN ms x) ∧ 0 ≤ fN ms x ∧ fN ms x ≤ 9 := by
  have hl : ms.length = 10 := hp.length_eq
  have hk : ms[x.toNat]? = some ms[x.toNat] := List.getElem?_eq_getElem (by omega)
  have ef : fN ms x = ms[x.toNat] := by
    unfold fN
    rw [if_neg e, List.getD_eq_getElem?_getD, hk]
    rfl
  have := tens_rng (hp.mem_iff.mp (List.getElem_mem (l := ms) (n := x.toNat) (by omega)))
  refine ⟨x.toNat, by omega, by rw [hk, ef], ?_, ?_⟩ <;> rw [ef] <;> omega
theorem fN_m1 {ms : List Int} (hp : ms.Perm tens) {x : Int} (h : -1 ≤ x ∧ x ≤ 9) : fN ms x = -1 ↔ x = -1 := by
  constructor
  · intro e
    apply Classical.byContradiction
    intro hx
    obtain ⟨k, _, _, a, b⟩ := fN_ok hp h hx
    omega
  · intro e
    unfold fN
    rw [if_pos e]
theorem fN_inj {ms : List Int} (hp : ms.Perm tens) {x y : Int} (h : -1 ≤ x ∧ x ≤ 9) (h' : -1 ≤ y ∧ y ≤ 9) (e : fN ms x = fN ms y) : x = y := by
  by_cases hx : x = -1
  · rw [(fN_m1 hp h).mpr hx] at e
    rw [hx, (fN_m1 hp h').mp e.symm]
  · have hy : y ≠ -1 := fun z => hx ((fN_m1 hp h).mp (e.trans ((fN_m1 hp h').mpr z)))
    obtain ⟨k, rfl, ek, _⟩ := fN_ok hp h hx
    obtain ⟨j, rfl, ej, _⟩ := fN_ok hp h' hy
    have hn : ms.Nodup := hp.nodup_iff.mpr (by decide)
    rw [e] at ek
    have := nd_ix hn ek ej
    rw [this]
theorem fN_rng {ms : List Int} (hp : ms.Perm tens) {x : Int} (h : -1 ≤ x ∧ x ≤ 9) : -1 ≤ fN ms x ∧ fN ms x ≤ 9 := by
  by_cases hx : x = -1
  · rw [(fN_m1 hp h).mpr hx]
    decide
  · obtain ⟨k, _, _, a, b⟩ := fN_ok hp h hx
    omega
theorem ok_same (T : Bl mg) (A : At K mg "_law_same_sums" sSame pSame) (GD : Ok P w K mg base 1 "_law_draw" ["_law_pen_here", "_law_many"] spDraw) (GM : Ok P w K mg base 2 "_law_mixed" ["_law_pen_here", "_law_values"] spMixed)
    (GS : Ok P w K mg base 16 "stretch" ["work", "distance"] spStretchOf) (GU : Ok P w K mg base 17 "_law_sum" ["_law_items", "_law_distance"] spLSum) : Ok P w K mg base 18 "_law_same_sums" pSame spSame := by
  refine A.ok (N := []) fun f fd F => F.ok scSame (fun vs H Q E h => ?_) (fun cdv A outer s H vs Q E hr h => ?_)
  · obtain ⟨p, a, ns, d, rfl, _⟩ := h
    rfl
  obtain ⟨p, a, ns, d, rfl, hpen, h, W, hz, h1, h2, q⟩ := h
  refine ⟨_, pss_cons (ps_set (i := 3) scSame.nd rfl (.inr rfl) (pe_op op_cat (pe_ok GM (hr.mono (by decide)) (by rfl) (pa_cons (pv 0) (pa_cons (pe_listRg rfl (by rfl) T.list (prg_1 (by rfl) T.range pe_int)) pa_nil))) (pe_lst (pa_cons (pe_un un_neg pe_int) pa_nil))))
    (pss_cons (ps_set (i := 4) scSame.nd rfl (.inl rfl) (pe_callTy call_tuple_of (by rfl) T.tuple boot_tuple (pa_cons
      (pe_lc (own := [("_law_one", 6)]) (g := gName 6) (tt := tYes) rfl scSame.nd (pi_tup (pv 1)) (blkOk_by (own := [("_law_one", 6)]) (N := nSame) (sc := defScope sSame) (by decide +kernel))
        (fun _ _ _ _ _ => pg_name (i := 6) scSame.nd rfl (Or.inl rfl)) (fun _ _ _ _ _ => pts_nil)
        (fun _ _ _ _ _ => pe_ix (ix_listK (K := K) rfl) (pv 3) (pv 6) (fun _ _ => rfl))) pa_nil)))
    (pss_cons (ps_if (pt_cmpR (op_neD hr.units) (pe_ok GS (hr.mono (by decide)) (by rfl) (pa_cons (pv 4) (pa_cons (pv 2) pa_nil))) (pe_ok GS (hr.mono (by decide)) (by rfl) (pa_cons (pv 1) (pa_cons (pv 2) pa_nil))) (nomark _)) (pss_one (ps_ret pe_bl)) pss_nil)
    (pss_cons (ps_if (pt_cmpR op_ne (pe_ok GU hr (by rfl) (pa_cons (pe_revT (pv 1)) (pa_cons (pv 2) pa_nil))) (pe_ok GU hr (by rfl) (pa_cons (pv 1) (pa_cons (pv 2) pa_nil))) (nomark _)) (pss_one (ps_ret pe_bl)) pss_nil)
    (pss_cons (ps_set (i := 5) scSame.nd rfl (.inl rfl) (pe_op op_add pe_int (pe_ok GD (hr.mono (by decide)) (by rfl) (pa_cons (pv 0) (pa_cons (pe_callB call_len_seq (by rfl) T.len PySem.boot_len (pa_cons (pv 1) pa_nil)) pa_nil)))))
    (pss_cons (ps_if (PW.pt (pw_or (pt_cmpR op_eq (pe_ix ix_tup (pv 1) (pe_op op_sub (pv 5) pe_int) (fun _ _ => rfl)) (pe_un un_neg pe_int) (nomark _)) (pw_or1 (pt_cmp (pc_isN (pe_ok GS (hr.mono (by decide)) (by rfl) (pa_cons (pv 1) (pa_cons (pv 2) pa_nil))))))))
      (pss_one (ps_ret pe_bl)) pss_nil)
    (pss_one (ps_ret (pe_chain op_le op_le pe_int (pe_ok GU hr (by rfl) (pa_cons (pe_slice sl_tupA (pv 1) po_none (po_some (pv 5))) (pa_cons (pv 2) pa_nil))) (pe_ok GU hr (by rfl) (pa_cons (pv 1) (pa_cons (pv 2) pa_nil))))))))))), ?_⟩
  have hp1 := W.pos
  have hl : (ns.map V.int).length = ns.length := List.length_map _
  -- the names
  refine ⟨_, rfl, 10, rfl, RgOk.of_le (by decide) (by decide) (by decide) (by decide), fun l nl => ?_⟩
  have s1 := same_upd (o := .lst (rgV 0 10)) nl
  refine ⟨p, l, tens, rfl, hpen.same s1, hpen.ne nl, by rw [Li, upd_same, rg10], by decide, fun H1 m ms d1 nm em hperm => ?_⟩
  have d01 : Dr p H H1 := (Dr.of hpen s1).trans d1
  have hml : ms.length = 10 := hperm.length_eq
  refine ⟨1, rfl, (by show 1 ≤ sizeLine; decide), fun l2 nl2 => ?_⟩
  have s2 := same_upd (o := .lst [.int (-1)]) nl2
  refine ⟨m, l2, _, _, rfl, rfl, s2 _ _ em, upd_same, small (by rw [List.length_map, hml]; decide), fun l3 nl3 => ?_⟩
  have s3 := same_upd (o := .lst (ms.map V.int ++ [V.int (-1)])) nl3
  have d03 : Dr p H _ := (d01.same s2).same s3
  have e3 : (upd (upd H1 l2 (.lst [.int (-1)])) l3 (.lst (ms.map V.int ++ [V.int (-1)]))) l3 = some (.lst ((ms ++ [-1]).map V.int)) := by
    rw [upd_same, List.map_append]
    rfl
  have h3 := d03.tup h
  -- the other stations
  refine ⟨_, rfl, a, rfl, ⟨_, SqT.of h3⟩, fun D hD => ?_⟩
  refine lc_tup (xs := ns.map V.int) (fun i H' => Same (upd (upd H1 l2 (.lst [.int (-1)])) l3 (.lst (ms.map V.int ++ [V.int (-1)]))) H' ∧ Li H' D ((ns.take i).map (fN ms))) ⟨same_upd hD, upd_same⟩ (fun i H' _ g => SqT.of (g.1 _ _ h3)) (fun i x H' hx g => ?_) (fun H' g => ?_)
  · obtain ⟨n, hn, rfl⟩ := getI' hx
    obtain ⟨s', e⟩ := g
    have hi := (List.getElem?_eq_some_iff.mp hn).1
    have hr := W.rng n (List.mem_of_getElem? hn)
    refine ⟨rfl, _, rfl, _, rfl, l3, _, _, _, rfl, rfl, SqL.of (s' _ _ e3), fN_at hml hr, _, e, small1000 (by rw [List.length_map, List.length_map, List.length_take]; omega), same_old s' hD, ?_⟩
    rw [Li, upd_same, List.take_add_one, hn, List.map_append, List.map_append]
    rfl
  · obtain ⟨s', e⟩ := g
    rw [hl, List.take_length] at e
    refine ⟨D, _, rfl, .inl ⟨SqL.of e, fun t nt => ?_⟩⟩
    have d04 : Dr p H _ := (d03.same s').same (same_upd (o := .tup ((ns.map (fN ms)).map V.int)) nt)
    have et : (upd H' t (.tup ((ns.map (fN ms)).map V.int))) t = some (.tup ((ns.map (fN ms)).map V.int)) := upd_same
    generalize (upd H' t (.tup ((ns.map (fN ms)).map V.int))) = H4 at d04 et
    have h4 := d04.tup h
    have hinj : ∀ x ∈ ns, ∀ y ∈ ns, fN ms x = fN ms y → x = y := fun x hx y hy e => fN_inj hperm (W.rng x hx) (W.rng y hy) e
    have hm1 : ∀ x ∈ ns, fN ms x = -1 ↔ x = -1 := fun x hx => fN_m1 hperm (W.rng x hx)
    have WO : Sg.Work (ns.map (fN ms)) := W.map hm1 fun x hx => fN_rng hperm (W.rng x hx)
    have est := Sg.stretchF_map hinj hm1 d
    -- stretch(other) != stretch(items)
    refine ⟨.ref t, rfl, .int d, rfl, t, _, d, rfl, et, WO, by rw [List.length_map]; omega, h1, h2, fun H5 v5 s5 o5 => ?_⟩
    have h5 := s5 _ _ h4
    rw [est] at o5
    refine ⟨.ref a, rfl, .int d, rfl, a, ns, d, rfl, h5, W, by omega, h1, h2, fun H6 v6 s6 o6 => ?_⟩
    refine ⟨_, _, OptV.dp (o5.same s6), OptV.dp o6, shOpt _, shOpt _, ?_⟩
    rw [eqvOpt]
    refine ⟨_, rfl, iteF ?_⟩
    have d06 := (d04.same s5).same s6
    have h6 := s6 _ _ h5
    -- the sums
    refine ⟨.ref a, rfl, a, _, rfl, SqT.of h6, fun b nb => ?_⟩
    have s7 := same_upd (o := .tup (ns.map V.int).reverse) nb
    refine ⟨.int d, rfl, b, ns.reverse, d, rfl, by rw [Tu, upd_same, List.map_reverse], W.rev, by rw [List.length_reverse]; omega, h1, h2, fun H8 s8 => ?_⟩
    have h8 := s8 _ _ (s7 _ _ h6)
    refine ⟨.ref a, rfl, .int d, rfl, a, ns, d, rfl, h8, W, by omega, h1, h2, fun H9 s9 => ?_⟩
    refine ⟨rfl, _, rfl, iteNS (congrArg V.int (Sg.sumF_rev W (by omega) h2)) ?_⟩
    have d09 := ((d06.same s7).same s8).same s9
    have h9 := s9 _ _ h8
    -- at
    refine ⟨.ref p, rfl, .ref a, rfl, a, _, rfl, .inr (SqT.of h9), p, _, rfl, d09.pen, by rw [hl]; omega, by rw [hl]; omega, fun H10 r d10 h0 hr => ?_⟩
    rw [hl] at hr
    have h10 := d10.tup h9
    have dA := d09.trans d10
    refine ⟨1, r, rfl, rfl, ?_⟩
    have hk : ns[r.toNat]? = some ns[r.toNat] := List.getElem?_eq_getElem (by omega)
    generalize ns[r.toNat] = x at hk
    refine ⟨.ref a, rfl, .int (1 + r), rfl, 1 + r, 1, rfl, rfl, a, _, _, _, rfl, rfl, SqT.of h10, at_of (j := r.toNat) (by omega) (getI hk), 1, rfl, rfl, _, rfl, ?_⟩
    by_cases hx : x = -1
    · exact iteD (congrArg V.int hx) (q H10 dA)
    · refine iteDN (fun z => hx (V.int.inj z)) ?_
      refine ⟨.ref a, rfl, .int d, rfl, a, ns, d, rfl, h10, W, by omega, h1, h2, fun H11 v11 s11 o11 => ⟨_, rfl, ?_⟩⟩
      have dB := dA.same s11
      have h11 := s11 _ _ h10
      cases es : Sg.stretchF ns d with
      | none =>
        rw [es] at o11
        have ev : v11 = .non := o11
        exact iteD ev (q H11 dB)
      | some ws =>
        rw [es] at o11
        obtain ⟨u, rfl, eu⟩ := o11
        refine iteDN (fun z => nomatch z) ?_
        have hk1 : 1 ≤ (1 + r).toNat := by omega
        have WC : Sg.Work (ns.take (1 + r).toNat) := W.cut hk1 (by omega) (by
          rw [show (1 + r).toNat - 1 = r.toNat by omega, hk]
          exact fun e => hx (Option.some.inj e))
        obtain ⟨c1, c2⟩ := Sg.cut_le W (show ns.length ≤ 12 by omega) h2 hk1 (by omega) WC (fun z => by rw [es] at z; cases z)
        refine ⟨.ref a, rfl, .int (1 + r), rfl, 1 + r, rfl, slA_of h11 fun H12 c s12 e12 => ?_⟩
        have ecut := cutV_take ns (1 + r).toNat
        rw [show (((1 + r).toNat : Nat) : Int) = 1 + r by omega] at ecut
        rw [ecut] at e12
        refine ⟨.int d, rfl, c, _, d, rfl, e12, WC, by rw [List.length_take]; omega, h1, h2, fun H13 s13 => ?_⟩
        refine ⟨0, _, rfl, rfl, _, rfl, iteD c1 ?_⟩
        have s123 := s12.trans s13
        refine ⟨.ref a, rfl, .int d, rfl, a, ns, d, rfl, s123 _ _ h11, W, by omega, h1, h2, fun H14 s14 => ⟨_, _, rfl, rfl, ?_⟩⟩
        show Q (.bl (decide (Sg.sumF (ns.take (1 + r).toNat) d ≤ Sg.sumF ns d))) H14
        rw [decide_eq_true c2]
        exact q H14 (dB.same (s123.trans s14))
end
end SgW
namespace SgW
open PySem PySem.Spec PyProof.Rows L2 SgR
section
variable {P : Program} {w : World} {K : PySem.W.Frag} {mg : Str → Option Value} {base : Heap}
/-! ### _law_shown_alike -/
abbrev sAlike : Stmt := topS 43
abbrev nAlike : List Str := ["_law_pen_here", "_law_items", "_law_distance", "_law_waits_here", "_law_shown", "_law_longer"]
theorem scAlike : FnScope nAlike pSame (defScope sAlike) := ⟨rfl, rfl, rfl, by decide +kernel, rfl, by decide +kernel, by decide +kernel⟩
/-- waits of a work -/
def Wts (ns ws : List Int) : Prop := ws.length + 1 = ns.length ∧ ∀ y ∈ ws, 0 ≤ y ∧ y ≤ 11
theorem shown_rev {ns ws : List Int} (h : ws.length + 1 = ns.length) (d : Int) : shownF ns.reverse ws.reverse d = shownF ns ws d := by
  unfold shownF
  rw [Sg.stretched_rev' h, Sg.const_rev]
theorem ok_alike (T : Bl mg) (A : At K mg "_law_shown_alike" sAlike pSame) (GP : Ok P w K mg base 2 "_law_pick" ["_law_pen_here", "_law_values"] spPick) (GW : Ok P w K mg base 3 "_law_waits" ["_law_pen_here", "_law_items"] spLWaits)
    (GS : Ok P w K mg base 16 "stretch" ["work", "distance"] spStretchOf) (GH : Ok P w K mg base 5 "shows_stretch" ["work", "distance", "thing"] spShows) (GT : Ok P w K mg base 4 "stretched" ["work", "waits"] spStretched) :
    Ok P w K mg base 17 "_law_shown_alike" pSame spSame := by
  refine A.ok (N := []) fun f fd F => F.ok scAlike (fun vs H Q E h => ?_) (fun cdv A outer s H vs Q E hr h => ?_)
  · obtain ⟨p, a, ns, d, rfl, _⟩ := h
    rfl
  obtain ⟨p, a, ns, d, rfl, hpen, h, W, hz, h1, h2, q⟩ := h
  refine ⟨_, pss_cons (ps_set (i := 3) scAlike.nd rfl (.inl rfl) (pe_ok GP (hr.mono (by decide)) (by rfl) (pa_cons (pv 0) (pa_cons (pe_lst (pa_cons (pe_ok GW (hr.mono (by decide)) (by rfl) (pa_cons (pv 0) (pa_cons (pv 1) pa_nil)))
      (pa_cons (pe_orT (pe_ok GS hr (by rfl) (pa_cons (pv 1) (pa_cons (pv 2) pa_nil))) (pe_one (pe_ok GW (hr.mono (by decide)) (by rfl) (pa_cons (pv 0) (pa_cons (pv 1) pa_nil))))) pa_nil))) pa_nil))))
    (pss_cons (ps_par (i := 4) (j := 5) (by rfl) scAlike.nd rfl rfl (by decide) rfl rfl (pa_cons (pe_ok GH (hr.mono (by decide)) (by rfl) (pa_cons (pv 1) (pa_cons (pv 2) (pa_cons (pv 3) pa_nil))))
      (pa_cons (pe_ok GT (hr.mono (by decide)) (by rfl) (pa_cons (pv 1) (pa_cons (pv 3) pa_nil))) pa_nil)) (by rfl))
    (pss_cons (ps_if (pt_cmpR op_ne (pe_ok GH (hr.mono (by decide)) (by rfl) (pa_cons (pe_revT (pv 1)) (pa_cons (pv 2) (pa_cons (pe_revT (pv 3)) pa_nil)))) (pv 4) (nomark _)) (pss_one (ps_ret pe_bl)) pss_nil)
    (pss_cons (ps_if (pt_cmpR (op_neD hr.units) (pe_revT (pv 5)) (pe_ok GT (hr.mono (by decide)) (by rfl) (pa_cons (pe_revT (pv 1)) (pa_cons (pe_revT (pv 3)) pa_nil))) (nomark _)) (pss_one (ps_ret pe_bl)) pss_nil)
    (pss_one (ps_ret (pe_or (pe_cmpR op_gt (pe_callB call_len_seq (by rfl) T.len PySem.boot_len (pa_cons (pv 5) pa_nil)) pe_int (nomark _))
      (pe_one (pe_cmpR op_eq (pe_cmpR (op_eqD hr.units) (pe_ok GS hr (by rfl) (pa_cons (pv 5) (pa_cons (pv 2) pa_nil)))
        (pe_op op_repA (pe_tup (pa_cons pe_int pa_nil)) (pe_op op_sub (pe_callB call_len_seq (by rfl) T.len PySem.boot_len (pa_cons (pv 5) pa_nil)) pe_int)) (nomark _)) (pv 4) (nomark _))))))))), ?_⟩
  have hp1 := W.pos
  -- the two kinds of waits
  refine ⟨.ref p, rfl, .ref p, rfl, .ref a, rfl, p, a, ns, rfl, hpen, h, hp1, by omega, fun H1 b1 ws1 d1 e1 l1 r1 => ?_⟩
  have h1a := d1.tup h
  -- behind the pick: whatever waits
  have go : ∀ (H3 : Hp) (b : Addr) (ws : List Int), Dr p H H3 → Tu H3 b ws → Wts ns ws →
      tSeq (tPar 4 5 (tCons (tOk spShows (tCons (tVar 1) (tCons (tVar 2) (tCons (tVar 3) tNil)))) (tCons (tOk spStretched (tCons (tVar 1) (tCons (tVar 3) tNil))) tNil)))
        (tSeq (tIfS (tTest (tOp rNe (tOk spShows (tCons (tRevT K (tVar 1)) (tCons (tVar 2) (tCons (tRevT K (tVar 3)) tNil)))) (tVar 4))) (tRet (tC (.bl false))) tNext)
        (tSeq (tIfS (tTest (tOp (rNeD K) (tRevT K (tVar 5)) (tOk spStretched (tCons (tRevT K (tVar 1)) (tCons (tRevT K (tVar 3)) tNil))))) (tRet (tC (.bl false))) tNext)
        (tRet (tOrV (tOp (rI0 fun i j => .bl (decide (j < i))) (tCB (fun xs H Q => ∃ p ys, xs = [.ref p] ∧ (SqL K H p ys ∨ SqT K H p ys) ∧ Q (.int ys.length) H) (tCons (tVar 5) tNil)) (tC (.int 12)))
          (tOp rEq (tOp (rEqD K) (tOk spStretchOf (tCons (tVar 5) (tCons (tVar 2) tNil))) (tOp (rRepA K) (tTup (tCons (tC (.int 0)) tNil)) (tOp (rI0 fun i j => .int (i - j)) (tCB (fun xs H Q => ∃ p ys, xs = [.ref p] ∧ (SqL K H p ys ∨ SqT K H p ys) ∧ Q (.int ys.length) H) (tCons (tVar 5) tNil)) (tC (.int 1))))) (tVar 4))))))
        { nx := fun _ H' => Q .non H', rt := Q } [some (.ref p), some (.ref a), some (.int d), some (.ref b), none, none] H3 := by
    intro H3 b ws d3 e3 hw
    obtain ⟨hlen, hrng⟩ := hw
    have h3 := d3.tup h
    have WS := W.stretched hlen
    have hsl := Sg.stretched_len hlen fun y hy => (hrng y hy).2
    have hp2 := WS.pos
    -- shown, longer
    refine ⟨.ref a, rfl, .int d, rfl, .ref b, rfl, a, b, ns, ws, d, rfl, h3, e3, W, hlen, hrng, by omega, h1, h2, fun H4 s4 => ?_⟩
    have h4 := s4 _ _ h3
    have e4 := s4 _ _ e3
    refine ⟨.ref a, rfl, .ref b, rfl, a, b, ns, ws, rfl, h4, e4, W, hlen, hrng, by omega, fun H5 c s5 e5 => ⟨_, _, rfl, ?_⟩⟩
    have h5 := s5 _ _ h4
    have b5 := s5 _ _ e4
    have d5 := (d3.same s4).same s5
    -- backwards: shown
    refine ⟨.ref a, rfl, a, _, rfl, SqT.of h5, fun t nt => ?_⟩
    have s6 := same_upd (o := .tup (ns.map V.int).reverse) nt
    refine ⟨.int d, rfl, .ref b, rfl, b, _, rfl, SqT.of (s6 _ _ b5), fun t2 nt2 => ?_⟩
    have s7 := same_upd (o := .tup (ws.map V.int).reverse) nt2
    have hlenR : ws.reverse.length + 1 = ns.reverse.length := by rw [List.length_reverse, List.length_reverse]; exact hlen
    have hrngR : ∀ y ∈ ws.reverse, 0 ≤ y ∧ y ≤ 11 := fun y hy => hrng y (List.mem_reverse.mp hy)
    have hzR : ns.reverse.length ≤ 12 := by rw [List.length_reverse]; omega
    refine ⟨t, t2, ns.reverse, ws.reverse, d, rfl, s7 _ _ (by rw [upd_same, List.map_reverse]), by rw [Tu, upd_same, List.map_reverse], W.rev, hlenR, hrngR, hzR, h1, h2, fun H8 s8 => ?_⟩
    refine ⟨_, rfl, rfl, _, rfl, iteNS (congrArg V.bl (shown_rev hlen d)) ?_⟩
    have s58 := s6.trans (s7.trans s8)
    have h8 := s58 _ _ h5
    have b8 := s58 _ _ b5
    have c8 := s58 _ _ e5
    have d8 := d5.same s58
    -- backwards: longer
    refine ⟨.ref c, rfl, c, _, rfl, SqT.of c8, fun t3 nt3 => ?_⟩
    have s9 := same_upd (o := .tup ((Sg.stretchedF ns ws).map V.int).reverse) nt3
    have e9 : (upd H8 t3 (.tup ((Sg.stretchedF ns ws).map V.int).reverse)) t3 = some (.tup ((Sg.stretchedF ns ws).reverse.map V.int)) := by rw [upd_same, List.map_reverse]
    refine ⟨.ref a, rfl, a, _, rfl, SqT.of (s9 _ _ h8), fun t4 nt4 => ?_⟩
    have s10 := same_upd (o := .tup (ns.map V.int).reverse) nt4
    refine ⟨.ref b, rfl, b, _, rfl, SqT.of (s10 _ _ (s9 _ _ b8)), fun t5 nt5 => ?_⟩
    have s11 := same_upd (o := .tup (ws.map V.int).reverse) nt5
    refine ⟨t4, t5, ns.reverse, ws.reverse, rfl, s11 _ _ (by rw [upd_same, List.map_reverse]), by rw [Tu, upd_same, List.map_reverse], W.rev, hlenR, hrngR, hzR, fun H12 c2 s12 e12 => ?_⟩
    have s812 := s9.trans (s10.trans (s11.trans s12))
    rw [Sg.stretched_rev' hlen] at e12
    refine ⟨.tuple ((Sg.stretchedF ns ws).reverse.map PyData.int), .tuple ((Sg.stretchedF ns ws).reverse.map PyData.int), .tup (SqT.of ((s10.trans (s11.trans s12)) _ _ e9)) (dpInts _), .tup (SqT.of e12) (dpInts _), shInts _, shInts _, ?_⟩
    rw [eqvTu, decide_eq_true rfl]
    refine ⟨_, rfl, iteF ?_⟩
    have c12 := s812 _ _ c8
    have d12 := d8.same s812
    have hll : ((Sg.stretchedF ns ws).map V.int).length = (Sg.stretchedF ns ws).length := List.length_map _
    -- the last row
    refine ⟨.ref c, rfl, c, _, rfl, .inr (SqT.of c12), _, 12, rfl, rfl, _, rfl, ite2 (fun _ => q H12 d12) (fun cc => ?_)⟩
    have hle : (Sg.stretchedF ns ws).length ≤ 12 := by
      have : ¬ (12 : Int) < (((Sg.stretchedF ns ws).map V.int).length : Int) := fun z => cc (decide_eq_true z)
      rw [hll] at this
      omega
    refine ⟨.ref c, rfl, .int d, rfl, c, _, d, rfl, c12, WS, hle, h1, h2, fun H13 v s13 ov => ?_⟩
    refine ⟨(by show 1 ≤ sizeLine; decide), fun t6 nt6 => ?_⟩
    have s14 := same_upd (o := .tup [.int 0]) nt6
    refine ⟨.ref c, rfl, c, _, rfl, .inr (SqT.of (s14 _ _ (s13 _ _ c12))), _, 1, rfl, rfl, ?_⟩
    rw [hll]
    refine repA_of (n := 0) upd_same (by omega) (by omega) fun H15 t7 s15 e15 => ?_
    refine ⟨_, _, OptV.dp (ov.same (s14.trans s15)), .tup (SqT.of e15) (dpInts _), shOpt _, shInts _, .bl (shownF ns ws d), rfl, rfl, ?_⟩
    have eb : PyData.eqv (optD (Sg.stretchF (Sg.stretchedF ns ws) d)) (.tuple ((List.replicate (((Sg.stretchedF ns ws).length : Int) - 1).toNat (0 : Int)).map PyData.int)) = shownF ns ws d := by
      rw [show (((Sg.stretchedF ns ws).length : Int) - 1).toNat = (Sg.stretchedF ns ws).length - 1 by omega, Bool.eq_iff_iff]
      unfold shownF
      rw [Sg.const_iff, ← Sg.longer_iff WS hle h1 h2]
      cases Sg.stretchF (Sg.stretchedF ns ws) d with
      | none => simp [optD, PyData.eqv]
      | some us =>
        unfold optD
        rw [eqvTu, decide_eq_true_eq]
        exact ⟨fun z => by rw [z], fun z => Option.some.inj z⟩
    rw [eb, decide_eq_true rfl]
    exact q H15 (d12.same (s13.trans (s14.trans s15)))
  -- what is picked
  have pick : ∀ (H2 : Hp) (b2 : Addr) (ws2 : List Int), Dr p H H2 → Tu H2 b1 ws1 → Tu H2 b2 ws2 → Wts ns ws2 → ∀ l, H2 l = none →
      spPick [.ref p, .ref l] (upd H2 l (.lst [.ref b1, .ref b2])) (fun v H' => ∃ b ws, v = .ref b ∧ Dr p H H' ∧ Tu H' b ws ∧ Wts ns ws) E0 := by
    intro H2 b2 ws2 d2 e1' e2 hw2 l nl
    have s2 := same_upd (o := .lst [V.ref b1, .ref b2]) nl
    refine ⟨p, l, _, rfl, d2.pen.same s2, d2.pen.ne nl, upd_same, (by show 1 ≤ 2; decide), (by show 2 ≤ 1000; decide), fun H3 v d3 hv => ?_⟩
    have dd := (d2.same s2).trans d3
    simp only [List.mem_cons, List.not_mem_nil, or_false] at hv
    rcases hv with e | e
    · exact ⟨b1, ws1, e, dd, d3.tup (s2 _ _ e1'), l1, r1⟩
    · exact ⟨b2, ws2, e, dd, d3.tup (s2 _ _ e2), hw2⟩
  have fin : ∀ (H2 : Hp) (b2 : Addr) (ws2 : List Int), Dr p H H2 → Tu H2 b1 ws1 → Tu H2 b2 ws2 → Wts ns ws2 → ∀ l, H2 l = none →
      ∀ Q' : VK, (∀ v H', (∃ b ws, v = .ref b ∧ Dr p H H' ∧ Tu H' b ws ∧ Wts ns ws) → Q' v H') → spPick [.ref p, .ref l] (upd H2 l (.lst [.ref b1, .ref b2])) Q' E0 := by
    intro H2 b2 ws2 d2 e1' e2 hw2 l nl Q' hQ
    obtain ⟨p', l', xs, ev, a1, a2, a3, a4, a5, a6⟩ := pick H2 b2 ws2 d2 e1' e2 hw2 l nl
    exact ⟨p', l', xs, ev, a1, a2, a3, a4, a5, fun H3 v d3 hv => hQ v H3 (a6 H3 v d3 hv)⟩
  refine ⟨.ref a, rfl, .int d, rfl, a, ns, d, rfl, h1a, W, by omega, h1, h2, fun H2 v s2 ov => ?_⟩
  have h2a := s2 _ _ h1a
  have e12 := s2 _ _ e1
  have d2 := d1.same s2
  cases es : Sg.stretchF ns d with
  | none =>
    rw [es] at ov
    have ev : v = .non := ov
    subst ev
    refine ⟨false, rfl, iteF ⟨.ref p, rfl, .ref a, rfl, p, a, ns, rfl, d2.pen, h2a, hp1, by omega, fun H3 b3 ws3 d3 e3 l3 r3 => ?_⟩⟩
    refine ⟨(by show 2 ≤ sizeLine; decide), fun l nl => fin H3 b3 ws3 (d2.trans d3) (d3.tup e12) e3 ⟨l3, r3⟩ l nl _ fun v H' g => ?_⟩
    obtain ⟨b, ws, rfl, dd, eb, hw⟩ := g
    exact go H' b ws dd eb hw
  | some us =>
    rw [es] at ov
    obtain ⟨u, rfl, eu⟩ := ov
    obtain ⟨S, _⟩ := Sg.stretch_sol W (show ns.length ≤ 12 by omega) h2 es
    refine ⟨_, .inr (.inl ⟨_, SqT.of eu, rfl⟩), ite2 (fun cc => ?_) (fun cc => ?_)⟩
    · refine ⟨(by show 2 ≤ sizeLine; decide), fun l nl => fin H2 u us d2 e12 eu ⟨S.len, S.rng⟩ l nl _ fun v H' g => ?_⟩
      obtain ⟨b, ws, rfl, dd, eb, hw⟩ := g
      exact go H' b ws dd eb hw
    · refine ⟨.ref p, rfl, .ref a, rfl, p, a, ns, rfl, d2.pen, h2a, hp1, by omega, fun H3 b3 ws3 d3 e3 l3 r3 => ?_⟩
      refine ⟨(by show 2 ≤ sizeLine; decide), fun l nl => fin H3 b3 ws3 (d2.trans d3) (d3.tup e12) e3 ⟨l3, r3⟩ l nl _ fun v H' g => ?_⟩
      obtain ⟨b, ws, rfl, dd, eb, hw⟩ := g
      exact go H' b ws dd eb hw
end
end SgW
namespace SgW
open PySem PySem.Spec PyProof.Rows L2 SgR
/-! ### law -/
section
variable {P : Program} {w : World} {K : PySem.W.Frag} {mg : Str → Option Value} {base : Heap}
abbrev sLaw : Stmt := topS 44
abbrev nLaw : List Str := ["_law_script", "_law_k", "_law_pen_here", "_law_lap", "_law_items", "_law_distance"]
theorem scLaw : FnScope nLaw ["_law_script"] (defScope sLaw) := ⟨rfl, rfl, rfl, by decide +kernel, rfl, by decide +kernel, by decide +kernel⟩
def spLaw (K : PySem.W.Frag) : Sp := fun vs H Q _ => ∃ (a : Addr) (ns : List Int), vs = [.ref a] ∧ SqL K H a (ns.map V.int) ∧ ns.length ≤ 63 ∧ ∀ H', Q (.bl true) H'
theorem same_dr {p : Addr} {H H1 H2 : Hp} (s : Same H H1) (h : H p = none) (d : Dr p H1 H2) : Same H H2 := fun b o e => d.keep b o (ne_of_none e h) (s _ _ e)
theorem ok_law {f : Addr} {fd : FuncData} (T : Bl mg) (F : Fun K "law" "law" sLaw f fd) (GC : Ok P w K mg base 1 "_law_cell" ["_law_script", "_law_k"] (spCell K)) (GN : Ok P w K mg base 1 "_law_pen" ["_law_cell_here"] spPen) (GW : Ok P w K mg base 3 "_law_work" pLWork spLWork)
    (GT : Ok P w K mg base 16 "trade" ["work"] spTrade) (GS : Ok P w K mg base 18 "_law_same_sums" pSame spSame) (GA : Ok P w K mg base 17 "_law_shown_alike" pSame spSame) : FnOk P w K mg base CX0 19 f fd ["_law_script"] (spLaw K) := by
  refine F.ok scLaw (fun vs H Q E h => ?_) (fun cdv A outer s H vs Q E hr h => ?_)
  · obtain ⟨a, ns, rfl, _⟩ := h
    rfl
  obtain ⟨a, ns, rfl, hS, hlen, q⟩ := h
  refine ⟨_, pss_cons (ps_for PassesOwn.never rfl (pi_range1 (by rfl) T.range (pa_cons (pe_callB (call_max2 rfl) (by rfl) T.max boot_max (pa_cons pe_int (pa_cons
        (pe_callB (call_min2 rfl) (by rfl) T.min boot_min (pa_cons (pe_callB call_len_seq (by rfl) T.len PySem.boot_len (pa_cons (pv 0) pa_nil)) (pa_cons pe_int pa_nil))) pa_nil))) pa_nil)) (pg_name (i := 1) scLaw.nd rfl (.inl rfl))
      (pss_cons (ps_set (i := 2) scLaw.nd rfl (.inl rfl) (pe_ok GN (hr.mono (by decide)) (by rfl) (pa_cons (pe_ok GC (hr.mono (by decide)) (by rfl) (pa_cons (pv 0) (pa_cons (pv 1) pa_nil))) pa_nil)))
      (pss_one (ps_for PassesOwn.never rfl (pi_range1 (by rfl) T.range (pa_cons pe_int pa_nil)) (pg_name (i := 3) scLaw.nd rfl (.inl rfl))
        (pss_cons (ps_set (i := 4) scLaw.nd rfl (.inl rfl) (pe_ok GW (hr.mono (by decide)) (by rfl) (pa_cons (pv 2) (pa_cons pe_int (pa_cons pe_int pa_nil)))))
        (pss_cons (ps_if (pt_cmpR (op_neD hr.units) (pe_ok GT (hr.mono (by decide)) (by rfl) (pa_cons (pe_revT (pv 4)) pa_nil)) (pe_ok GT (hr.mono (by decide)) (by rfl) (pa_cons (pv 4) pa_nil)) (nomark _)) (pss_one (ps_ret pe_bl)) pss_nil)
        (pss_one (ps_for PassesOwn.never rfl (pi_range2 (by rfl) T.range (pa_cons pe_int (pa_cons pe_int pa_nil))) (pg_name (i := 5) scLaw.nd rfl (.inl rfl))
          (pss_one (ps_if (PW.pt (pw_or (pt_not (pt_val (pe_ok GS hr (by rfl) (pa_cons (pv 2) (pa_cons (pv 4) (pa_cons (pv 5) pa_nil))))))
              (pw_or1 (pt_not (pt_val (pe_ok GA (hr.mono (by decide)) (by rfl) (pa_cons (pv 2) (pa_cons (pv 4) (pa_cons (pv 5) pa_nil)))))))))
            (pss_one (ps_ret pe_bl)) pss_nil))))))))))
    (pss_one (ps_ret pe_bl)), ?_⟩
  refine ⟨.ref a, rfl, a, _, rfl, .inl hS, _, 3, rfl, 1, _, rfl, ?_⟩
  rw [List.length_map]
  have hj : ∃ j : Int, (if (if (3 : Int) < (ns.length : Int) then (3 : Int) else (ns.length : Int)) > 1 then (if (3 : Int) < (ns.length : Int) then (3 : Int) else (ns.length : Int)) else 1) = j ∧ -(2 ^ 62) ≤ j ∧ j < 2 ^ 62 := ⟨_, rfl, by split <;> split <;> omega, by split <;> split <;> omega⟩
  obtain ⟨j, ej, hj1, hj2⟩ := hj
  rw [ej]
  refine ⟨j, rfl, hj1, hj2, ?_⟩
  refine for_range (lo := 0) (n := j.toNat) (fun i σ H' => ∃ y1 y2 y3 y4 y5, σ = [some (.ref a), y1, y2, y3, y4, y5] ∧ SqL K H' a (ns.map V.int)) ⟨none, none, none, none, none, rfl, hS⟩ (fun i σ H1 hi g => ?_) (fun σ H' g => q H')
  obtain ⟨y1, y2, y3, y4, y5, rfl, hS1⟩ := g
  refine ⟨_, rfl, _, rfl, a, ns, i, by rw [Int.zero_add], hS1, fun n => ?_⟩
  refine ⟨n, rfl, fun H2 p s2 np pen2 => ?_⟩
  refine ⟨5, rfl, by decide, by decide, ?_⟩
  refine for_range (lo := 0) (n := (5 : Int).toNat) (fun i2 σ H' => ∃ y3 y4 y5, σ = [some (.ref a), some (.int (0 + (i : Int))), some (.ref p), y3, y4, y5] ∧ Same H1 H' ∧ Pen H' p) ⟨y3, y4, y5, rfl, s2, pen2⟩ (fun i2 σ H3 hi2 g => ?_) (fun σ H' g => ?_)
  · obtain ⟨z3, z4, z5, rfl, s3, pen3⟩ := g
    refine ⟨_, rfl, p, rfl, pen3, fun H4 u ws d4 e4 W hz => ?_⟩
    have s4 := same_dr s3 np d4
    -- trade
    refine ⟨_, rfl, u, _, rfl, SqT.of e4, fun t nt => ?_⟩
    have s5 := same_upd (o := .tup (ws.map V.int).reverse) nt
    refine ⟨t, ws.reverse, rfl, by rw [Tu, upd_same, List.map_reverse], W.rev, by rw [List.length_reverse]; omega, fun H6 p6 xs6 s6 e6 pr6 => ?_⟩
    have s56 := s5.trans s6
    refine ⟨_, rfl, u, ws, rfl, s56 _ _ e4, W, by omega, fun H7 p7 xs7 s7 e7 pr7 => ?_⟩
    have s57 := s56.trans s7
    rw [Sg.tradeF_rev W (by omega)] at pr6
    refine ⟨_, _, .tup (SqT.of (s7 _ _ e6)) (Prs.dp (pr6.keep (tups_of s7))), .tup (SqT.of e7) (Prs.dp pr7), shPrsT _, shPrsT _, ?_⟩
    rw [eqvPrsT]
    refine ⟨_, rfl, iteF ?_⟩
    refine ⟨1, 13, rfl, ⟨by decide, by decide, by decide, by decide⟩, ?_⟩
    refine for_range (lo := 1) (n := ((13 : Int) - 1).toNat) (fun i3 σ H' => ∃ y5, σ = [some (.ref a), some (.int (0 + (i : Int))), some (.ref p), some (.int (0 + (i2 : Int))), some (.ref u), y5] ∧ Same H1 H' ∧ Pen H' p ∧ Tu H' u ws)
      ⟨z5, rfl, s4.trans s57, d4.pen.same s57, s57 _ _ e4⟩ (fun i3 σ H8 hi3 g => ?_) (fun σ H' g => ?_)
    · obtain ⟨x5, rfl, s8, pen8, e8⟩ := g
      have hd1 : (1 : Int) ≤ 1 + (i3 : Int) := by omega
      have hd2 : 1 + (i3 : Int) ≤ 12 := by
        have : i3 < 12 := hi3
        omega
      refine ⟨_, rfl, _, rfl, _, rfl, p, u, ws, _, rfl, pen8, e8, W, hz, hd1, hd2, fun H9 d9 => ⟨true, rfl, iteF ?_⟩⟩
      refine ⟨_, rfl, _, rfl, _, rfl, p, u, ws, _, rfl, d9.pen, d9.tup e8, W, hz, hd1, hd2, fun H10 d10 => ⟨true, rfl, iteF ?_⟩⟩
      exact ⟨_, rfl, same_dr (same_dr s8 np d9) np d10, d10.pen, d10.tup (d9.tup e8)⟩
    · obtain ⟨x5, rfl, s8, pen8, e8⟩ := g
      exact ⟨_, _, _, rfl, s8, pen8⟩
  · obtain ⟨z3, z4, z5, rfl, s3, pen3⟩ := g
    exact ⟨_, _, _, _, _, rfl, s3.seq hS1⟩
end

/-! ### what the top has left -/
theorem at_mk {K : PySem.W.Frag} {h : Heap} {mg : Str → Option Value} {x : Str} {st : Stmt} {ps : List Str} (X : K.In h) (G : h.Ns mainGlobals mg) {f : Addr} {oc kV doc pm cdv ct : Value} {od an : Option Addr} {osl : Array (Option Value)}
    (a : PySem.W.nsIn K mainGlobals x = some (some (.ref f))) (l : K.lookup f = some ⟨oc, od, .func (PySem.W.fnOf x x (defArgs st) (defBody st) (defScope st) .none kV doc pm an cdv ct), osl⟩) (c : PySem.W.codeIn K cdv x = true) (k : PySem.W.keepIn K (.ref f) = true)
    (b : ∀ (kV doc pm : Value) (an : Option Addr) (cdv ct : Value) (us : List Value), us.length = ps.length → bindArgs (PySem.W.fnOf x x (defArgs st) (defBody st) (defScope st) .none kV doc pm an cdv ct) ⟨us, []⟩ = pure (ps.zip us)) : At K mg x st ps :=
  ⟨f, _, fun_mk l c k, PySem.W.mg_of X G a, (fun_mk (st := st) l c k).binds b⟩
theorem all_mk {l : PySem.W.OpenLaw} {w : World} {K : PySem.W.Frag} {h : Heap} {mg : Str → Option Value} {fa : Addr} (X : K.In h) (G : h.Ns mainGlobals mg) (hfa : mg "law" = some (.ref fa))
    {f0 : Addr} {od0 an0 : Option Addr} {sl0 : Array (Option Value)} {oc0 kV0 dc0 pm0 cd0 ct0 : Value}
    {f1 : Addr} {od1 an1 : Option Addr} {sl1 : Array (Option Value)} {oc1 kV1 dc1 pm1 cd1 ct1 : Value}
    {f2 : Addr} {od2 an2 : Option Addr} {sl2 : Array (Option Value)} {oc2 kV2 dc2 pm2 cd2 ct2 : Value}
    {f3 : Addr} {od3 an3 : Option Addr} {sl3 : Array (Option Value)} {oc3 kV3 dc3 pm3 cd3 ct3 : Value}
    {f4 : Addr} {od4 an4 : Option Addr} {sl4 : Array (Option Value)} {oc4 kV4 dc4 pm4 cd4 ct4 : Value}
    {f5 : Addr} {od5 an5 : Option Addr} {sl5 : Array (Option Value)} {oc5 kV5 dc5 pm5 cd5 ct5 : Value}
    {f6 : Addr} {od6 an6 : Option Addr} {sl6 : Array (Option Value)} {oc6 kV6 dc6 pm6 cd6 ct6 : Value}
    {f7 : Addr} {od7 an7 : Option Addr} {sl7 : Array (Option Value)} {oc7 kV7 dc7 pm7 cd7 ct7 : Value}
    {f8 : Addr} {od8 an8 : Option Addr} {sl8 : Array (Option Value)} {oc8 kV8 dc8 pm8 cd8 ct8 : Value}
    {f9 : Addr} {od9 an9 : Option Addr} {sl9 : Array (Option Value)} {oc9 kV9 dc9 pm9 cd9 ct9 : Value}
    {f10 : Addr} {od10 an10 : Option Addr} {sl10 : Array (Option Value)} {oc10 kV10 dc10 pm10 cd10 ct10 : Value}
    {f11 : Addr} {od11 an11 : Option Addr} {sl11 : Array (Option Value)} {oc11 kV11 dc11 pm11 cd11 ct11 : Value}
    {f12 : Addr} {od12 an12 : Option Addr} {sl12 : Array (Option Value)} {oc12 kV12 dc12 pm12 cd12 ct12 : Value}
    {f13 : Addr} {od13 an13 : Option Addr} {sl13 : Array (Option Value)} {oc13 kV13 dc13 pm13 cd13 ct13 : Value}
    {f14 : Addr} {od14 an14 : Option Addr} {sl14 : Array (Option Value)} {oc14 kV14 dc14 pm14 cd14 ct14 : Value}
    {f15 : Addr} {od15 an15 : Option Addr} {sl15 : Array (Option Value)} {oc15 kV15 dc15 pm15 cd15 ct15 : Value}
    {f16 : Addr} {od16 an16 : Option Addr} {sl16 : Array (Option Value)} {oc16 kV16 dc16 pm16 cd16 ct16 : Value}
    {f17 : Addr} {od17 an17 : Option Addr} {sl17 : Array (Option Value)} {oc17 kV17 dc17 pm17 cd17 ct17 : Value}
    {f18 : Addr} {od18 an18 : Option Addr} {sl18 : Array (Option Value)} {oc18 kV18 dc18 pm18 cd18 ct18 : Value}
    {f19 : Addr} {od19 an19 : Option Addr} {sl19 : Array (Option Value)} {oc19 kV19 dc19 pm19 cd19 ct19 : Value}
    {f20 : Addr} {od20 an20 : Option Addr} {sl20 : Array (Option Value)} {oc20 kV20 dc20 pm20 cd20 ct20 : Value}
    {f21 : Addr} {od21 an21 : Option Addr} {sl21 : Array (Option Value)} {oc21 kV21 dc21 pm21 cd21 ct21 : Value}
    {f22 : Addr} {od22 an22 : Option Addr} {sl22 : Array (Option Value)} {oc22 kV22 dc22 pm22 cd22 ct22 : Value}
    {f23 : Addr} {od23 an23 : Option Addr} {sl23 : Array (Option Value)} {oc23 kV23 dc23 pm23 cd23 ct23 : Value}
    {f24 : Addr} {od24 an24 : Option Addr} {sl24 : Array (Option Value)} {oc24 kV24 dc24 pm24 cd24 ct24 : Value}
    {f25 : Addr} {od25 an25 : Option Addr} {sl25 : Array (Option Value)} {oc25 kV25 dc25 pm25 cd25 ct25 : Value}
    {f26 : Addr} {od26 an26 : Option Addr} {sl26 : Array (Option Value)} {oc26 kV26 dc26 pm26 cd26 ct26 : Value}
    {f27 : Addr} {od27 an27 : Option Addr} {sl27 : Array (Option Value)} {oc27 kV27 dc27 pm27 cd27 ct27 : Value}
    {f28 : Addr} {od28 an28 : Option Addr} {sl28 : Array (Option Value)} {oc28 kV28 dc28 pm28 cd28 ct28 : Value}
    {t0 : Tok}
    {t1 : Tok}
    {t2 : Tok}
    {t3 : Tok}
    {t4 : Tok}
    {t5 : Tok}
    (a0 : PySem.W.nsIn K mainGlobals "is_between" = some (some (.ref f0))) (l0 : K.lookup f0 = some ⟨oc0, od0, .func (PySem.W.fnOf "is_between" "is_between" (defArgs (topS 10)) (defBody (topS 10)) (defScope (topS 10)) .none kV0 dc0 pm0 an0 cd0 ct0), sl0⟩) (c0 : PySem.W.codeIn K cd0 "is_between" = true) (k0 : PySem.W.keepIn K (.ref f0) = true)
    (a1 : PySem.W.nsIn K mainGlobals "is_work" = some (some (.ref f1))) (l1 : K.lookup f1 = some ⟨oc1, od1, .func (PySem.W.fnOf "is_work" "is_work" (defArgs (topS 11)) (defBody (topS 11)) (defScope (topS 11)) .none kV1 dc1 pm1 an1 cd1 ct1), sl1⟩) (c1 : PySem.W.codeIn K cd1 "is_work" = true) (k1 : PySem.W.keepIn K (.ref f1) = true)
    (a2 : PySem.W.nsIn K mainGlobals "need_work" = some (some (.ref f2))) (l2 : K.lookup f2 = some ⟨oc2, od2, .func (PySem.W.fnOf "need_work" "need_work" (defArgs (topS 12)) (defBody (topS 12)) (defScope (topS 12)) .none kV2 dc2 pm2 an2 cd2 ct2), sl2⟩) (c2 : PySem.W.codeIn K cd2 "need_work" = true) (k2 : PySem.W.keepIn K (.ref f2) = true)
    (a3 : PySem.W.nsIn K mainGlobals "meets" = some (some (.ref f3))) (l3 : K.lookup f3 = some ⟨oc3, od3, .func (PySem.W.fnOf "meets" "meets" (defArgs (topS 13)) (defBody (topS 13)) (defScope (topS 13)) .none kV3 dc3 pm3 an3 cd3 ct3), sl3⟩) (c3 : PySem.W.codeIn K cd3 "meets" = true) (k3 : PySem.W.keepIn K (.ref f3) = true)
    (a4 : PySem.W.nsIn K mainGlobals "bars_of" = some (some (.ref f4))) (l4 : K.lookup f4 = some ⟨oc4, od4, .func (PySem.W.fnOf "bars_of" "bars_of" (defArgs (topS 14)) (defBody (topS 14)) (defScope (topS 14)) .none kV4 dc4 pm4 an4 cd4 ct4), sl4⟩) (c4 : PySem.W.codeIn K cd4 "bars_of" = true) (k4 : PySem.W.keepIn K (.ref f4) = true)
    (a5 : PySem.W.nsIn K mainGlobals "visits_of" = some (some (.ref f5))) (l5 : K.lookup f5 = some ⟨oc5, od5, .func (PySem.W.fnOf "visits_of" "visits_of" (defArgs (topS 15)) (defBody (topS 15)) (defScope (topS 15)) .none kV5 dc5 pm5 an5 cd5 ct5), sl5⟩) (c5 : PySem.W.codeIn K cd5 "visits_of" = true) (k5 : PySem.W.keepIn K (.ref f5) = true)
    (a6 : PySem.W.nsIn K mainGlobals "is_constant" = some (some (.ref f6))) (l6 : K.lookup f6 = some ⟨oc6, od6, .func (PySem.W.fnOf "is_constant" "is_constant" (defArgs (topS 17)) (defBody (topS 17)) (defScope (topS 17)) .none kV6 dc6 pm6 an6 cd6 ct6), sl6⟩) (c6 : PySem.W.codeIn K cd6 "is_constant" = true) (k6 : PySem.W.keepIn K (.ref f6) = true)
    (a7 : PySem.W.nsIn K mainGlobals "are_waits" = some (some (.ref f7))) (l7 : K.lookup f7 = some ⟨oc7, od7, .func (PySem.W.fnOf "are_waits" "are_waits" (defArgs (topS 22)) (defBody (topS 22)) (defScope (topS 22)) .none kV7 dc7 pm7 an7 cd7 ct7), sl7⟩) (c7 : PySem.W.codeIn K cd7 "are_waits" = true) (k7 : PySem.W.keepIn K (.ref f7) = true)
    (a8 : PySem.W.nsIn K mainGlobals "stretched_by" = some (some (.ref f8))) (l8 : K.lookup f8 = some ⟨oc8, od8, .func (PySem.W.fnOf "stretched_by" "stretched_by" (defArgs (topS 23)) (defBody (topS 23)) (defScope (topS 23)) .none kV8 dc8 pm8 an8 cd8 ct8), sl8⟩) (c8 : PySem.W.codeIn K cd8 "stretched_by" = true) (k8 : PySem.W.keepIn K (.ref f8) = true)
    (a9 : PySem.W.nsIn K mainGlobals "placed" = some (some (.ref f9))) (l9 : K.lookup f9 = some ⟨oc9, od9, .func (PySem.W.fnOf "placed" "placed" (defArgs (topS 24)) (defBody (topS 24)) (defScope (topS 24)) .none kV9 dc9 pm9 an9 cd9 ct9), sl9⟩) (c9 : PySem.W.codeIn K cd9 "placed" = true) (k9 : PySem.W.keepIn K (.ref f9) = true)
    (a10 : PySem.W.nsIn K mainGlobals "is_free" = some (some (.ref f10))) (l10 : K.lookup f10 = some ⟨oc10, od10, .func (PySem.W.fnOf "is_free" "is_free" (defArgs (topS 25)) (defBody (topS 25)) (defScope (topS 25)) .none kV10 dc10 pm10 an10 cd10 ct10), sl10⟩) (c10 : PySem.W.codeIn K cd10 "is_free" = true) (k10 : PySem.W.keepIn K (.ref f10) = true)
    (a11 : PySem.W.nsIn K mainGlobals "stretch_of" = some (some (.ref f11))) (l11 : K.lookup f11 = some ⟨oc11, od11, .func (PySem.W.fnOf "stretch_of" "stretch_of" (defArgs (topS 26)) (defBody (topS 26)) (defScope (topS 26)) .none kV11 dc11 pm11 an11 cd11 ct11), sl11⟩) (c11 : PySem.W.codeIn K cd11 "stretch_of" = true) (k11 : PySem.W.keepIn K (.ref f11) = true)
    (a12 : PySem.W.nsIn K mainGlobals "need_short" = some (some (.ref f12))) (l12 : K.lookup f12 = some ⟨oc12, od12, .func (PySem.W.fnOf "need_short" "need_short" (defArgs (topS 27)) (defBody (topS 27)) (defScope (topS 27)) .none kV12 dc12 pm12 an12 cd12 ct12), sl12⟩) (c12 : PySem.W.codeIn K cd12 "need_short" = true) (k12 : PySem.W.keepIn K (.ref f12) = true)
    (a13 : PySem.W.nsIn K mainGlobals "need_distance" = some (some (.ref f13))) (l13 : K.lookup f13 = some ⟨oc13, od13, .func (PySem.W.fnOf "need_distance" "need_distance" (defArgs (topS 28)) (defBody (topS 28)) (defScope (topS 28)) .none kV13 dc13 pm13 an13 cd13 ct13), sl13⟩) (c13 : PySem.W.codeIn K cd13 "need_distance" = true) (k13 : PySem.W.keepIn K (.ref f13) = true)
    (a14 : PySem.W.nsIn K mainGlobals "stretched" = some (some (.ref f14))) (l14 : K.lookup f14 = some ⟨oc14, od14, .func (PySem.W.fnOf "stretched" "stretched" (defArgs (topS 29)) (defBody (topS 29)) (defScope (topS 29)) .none kV14 dc14 pm14 an14 cd14 ct14), sl14⟩) (c14 : PySem.W.codeIn K cd14 "stretched" = true) (k14 : PySem.W.keepIn K (.ref f14) = true)
    (a15 : PySem.W.nsIn K mainGlobals "stretch" = some (some (.ref f15))) (l15 : K.lookup f15 = some ⟨oc15, od15, .func (PySem.W.fnOf "stretch" "stretch" (defArgs (topS 30)) (defBody (topS 30)) (defScope (topS 30)) .none kV15 dc15 pm15 an15 cd15 ct15), sl15⟩) (c15 : PySem.W.codeIn K cd15 "stretch" = true) (k15 : PySem.W.keepIn K (.ref f15) = true)
    (a16 : PySem.W.nsIn K mainGlobals "shows_stretch" = some (some (.ref f16))) (l16 : K.lookup f16 = some ⟨oc16, od16, .func (PySem.W.fnOf "shows_stretch" "shows_stretch" (defArgs (topS 31)) (defBody (topS 31)) (defScope (topS 31)) .none kV16 dc16 pm16 an16 cd16 ct16), sl16⟩) (c16 : PySem.W.codeIn K cd16 "shows_stretch" = true) (k16 : PySem.W.keepIn K (.ref f16) = true)
    (a17 : PySem.W.nsIn K mainGlobals "trade" = some (some (.ref f17))) (l17 : K.lookup f17 = some ⟨oc17, od17, .func (PySem.W.fnOf "trade" "trade" (defArgs (topS 32)) (defBody (topS 32)) (defScope (topS 32)) .none kV17 dc17 pm17 an17 cd17 ct17), sl17⟩) (c17 : PySem.W.codeIn K cd17 "trade" = true) (k17 : PySem.W.keepIn K (.ref f17) = true)
    (a18 : PySem.W.nsIn K mainGlobals "_law_cell" = some (some (.ref f18))) (l18 : K.lookup f18 = some ⟨oc18, od18, .func (PySem.W.fnOf "_law_cell" "_law_cell" (defArgs (topS 34)) (defBody (topS 34)) (defScope (topS 34)) .none kV18 dc18 pm18 an18 cd18 ct18), sl18⟩) (c18 : PySem.W.codeIn K cd18 "_law_cell" = true) (k18 : PySem.W.keepIn K (.ref f18) = true)
    (a19 : PySem.W.nsIn K mainGlobals "_law_pen" = some (some (.ref f19))) (l19 : K.lookup f19 = some ⟨oc19, od19, .func (PySem.W.fnOf "_law_pen" "_law_pen" (defArgs (topS 35)) (defBody (topS 35)) (defScope (topS 35)) .none kV19 dc19 pm19 an19 cd19 ct19), sl19⟩) (c19 : PySem.W.codeIn K cd19 "_law_pen" = true) (k19 : PySem.W.keepIn K (.ref f19) = true)
    (a20 : PySem.W.nsIn K mainGlobals "_law_draw" = some (some (.ref f20))) (l20 : K.lookup f20 = some ⟨oc20, od20, .func (PySem.W.fnOf "_law_draw" "_law_draw" (defArgs (topS 36)) (defBody (topS 36)) (defScope (topS 36)) .none kV20 dc20 pm20 an20 cd20 ct20), sl20⟩) (c20 : PySem.W.codeIn K cd20 "_law_draw" = true) (k20 : PySem.W.keepIn K (.ref f20) = true)
    (a21 : PySem.W.nsIn K mainGlobals "_law_pick" = some (some (.ref f21))) (l21 : K.lookup f21 = some ⟨oc21, od21, .func (PySem.W.fnOf "_law_pick" "_law_pick" (defArgs (topS 37)) (defBody (topS 37)) (defScope (topS 37)) .none kV21 dc21 pm21 an21 cd21 ct21), sl21⟩) (c21 : PySem.W.codeIn K cd21 "_law_pick" = true) (k21 : PySem.W.keepIn K (.ref f21) = true)
    (a22 : PySem.W.nsIn K mainGlobals "_law_mixed" = some (some (.ref f22))) (l22 : K.lookup f22 = some ⟨oc22, od22, .func (PySem.W.fnOf "_law_mixed" "_law_mixed" (defArgs (topS 38)) (defBody (topS 38)) (defScope (topS 38)) .none kV22 dc22 pm22 an22 cd22 ct22), sl22⟩) (c22 : PySem.W.codeIn K cd22 "_law_mixed" = true) (k22 : PySem.W.keepIn K (.ref f22) = true)
    (a23 : PySem.W.nsIn K mainGlobals "_law_work" = some (some (.ref f23))) (l23 : K.lookup f23 = some ⟨oc23, od23, .func (PySem.W.fnOf "_law_work" "_law_work" (defArgs (topS 39)) (defBody (topS 39)) (defScope (topS 39)) .none kV23 dc23 pm23 an23 cd23 ct23), sl23⟩) (c23 : PySem.W.codeIn K cd23 "_law_work" = true) (k23 : PySem.W.keepIn K (.ref f23) = true)
    (a24 : PySem.W.nsIn K mainGlobals "_law_waits" = some (some (.ref f24))) (l24 : K.lookup f24 = some ⟨oc24, od24, .func (PySem.W.fnOf "_law_waits" "_law_waits" (defArgs (topS 40)) (defBody (topS 40)) (defScope (topS 40)) .none kV24 dc24 pm24 an24 cd24 ct24), sl24⟩) (c24 : PySem.W.codeIn K cd24 "_law_waits" = true) (k24 : PySem.W.keepIn K (.ref f24) = true)
    (a25 : PySem.W.nsIn K mainGlobals "_law_sum" = some (some (.ref f25))) (l25 : K.lookup f25 = some ⟨oc25, od25, .func (PySem.W.fnOf "_law_sum" "_law_sum" (defArgs (topS 41)) (defBody (topS 41)) (defScope (topS 41)) .none kV25 dc25 pm25 an25 cd25 ct25), sl25⟩) (c25 : PySem.W.codeIn K cd25 "_law_sum" = true) (k25 : PySem.W.keepIn K (.ref f25) = true)
    (a26 : PySem.W.nsIn K mainGlobals "_law_same_sums" = some (some (.ref f26))) (l26 : K.lookup f26 = some ⟨oc26, od26, .func (PySem.W.fnOf "_law_same_sums" "_law_same_sums" (defArgs (topS 42)) (defBody (topS 42)) (defScope (topS 42)) .none kV26 dc26 pm26 an26 cd26 ct26), sl26⟩) (c26 : PySem.W.codeIn K cd26 "_law_same_sums" = true) (k26 : PySem.W.keepIn K (.ref f26) = true)
    (a27 : PySem.W.nsIn K mainGlobals "_law_shown_alike" = some (some (.ref f27))) (l27 : K.lookup f27 = some ⟨oc27, od27, .func (PySem.W.fnOf "_law_shown_alike" "_law_shown_alike" (defArgs (topS 43)) (defBody (topS 43)) (defScope (topS 43)) .none kV27 dc27 pm27 an27 cd27 ct27), sl27⟩) (c27 : PySem.W.codeIn K cd27 "_law_shown_alike" = true) (k27 : PySem.W.keepIn K (.ref f27) = true)
    (a28 : PySem.W.nsIn K mainGlobals "law" = some (some (.ref f28))) (l28 : K.lookup f28 = some ⟨oc28, od28, .func (PySem.W.fnOf "law" "law" (defArgs (topS 44)) (defBody (topS 44)) (defScope (topS 44)) .none kV28 dc28 pm28 an28 cd28 ct28), sl28⟩) (c28 : PySem.W.codeIn K cd28 "law" = true) (k28 : PySem.W.keepIn K (.ref f28) = true)
    (z0 : PySem.W.nsIn K mainGlobals "isinstance" = some none)
    (z1 : PySem.W.nsIn K mainGlobals "int" = some none)
    (z2 : PySem.W.nsIn K mainGlobals "bool" = some none)
    (z3 : PySem.W.nsIn K mainGlobals "tuple" = some none)
    (z4 : PySem.W.nsIn K mainGlobals "len" = some none)
    (z5 : PySem.W.nsIn K mainGlobals "all" = some none)
    (z6 : PySem.W.nsIn K mainGlobals "range" = some none)
    (z7 : PySem.W.nsIn K mainGlobals "max" = some none)
    (z8 : PySem.W.nsIn K mainGlobals "min" = some none)
    (z9 : PySem.W.nsIn K mainGlobals "zip" = some none)
    (z10 : PySem.W.nsIn K mainGlobals "sum" = some none)
    (z11 : PySem.W.nsIn K mainGlobals "list" = some none)
    (n0 : PySem.W.nsIn K mainGlobals "NOWHERE" = some (some (.int (-1) t0)))
    (n1 : PySem.W.nsIn K mainGlobals "LAST_STATION" = some (some (.int 9 t1)))
    (n2 : PySem.W.nsIn K mainGlobals "MOST_TICKS" = some (some (.int 60 t2)))
    (n3 : PySem.W.nsIn K mainGlobals "MOST_WAIT" = some (some (.int 11 t3)))
    (n4 : PySem.W.nsIn K mainGlobals "MOST_DISTANCE" = some (some (.int 12 t4)))
    (n5 : PySem.W.nsIn K mainGlobals "MOST_LONG" = some (some (.int 12 t5)))
    : ∃ fd : FuncData, (∀ (s : Shared) (v : Value), BindsTo s fd ⟨[v], []⟩ [("_law_script", v)]) ∧ ∀ base : Heap, K.In base → base.Ns mainGlobals mg → FnOk l.prog w K mg base CX0 19 fa fd ["_law_script"] (spLaw K) := by
  have e := hfa.symm.trans (PySem.W.mg_of X G a28)
  cases e
  have A0 : At K mg "is_between" (topS 10) ["thing", "low", "high"] := at_mk X G a0 l0 c0 k0 fun _ _ _ _ _ _ us hl => match us, hl with | [_, _, _], _ => rfl
  have A1 : At K mg "is_work" (topS 11) ["thing"] := at_mk X G a1 l1 c1 k1 fun _ _ _ _ _ _ us hl => match us, hl with | [_], _ => rfl
  have A2 : At K mg "need_work" (topS 12) ["thing"] := at_mk X G a2 l2 c2 k2 fun _ _ _ _ _ _ us hl => match us, hl with | [_], _ => rfl
  have A3 : At K mg "meets" (topS 13) ["one", "other", "distance"] := at_mk X G a3 l3 c3 k3 fun _ _ _ _ _ _ us hl => match us, hl with | [_, _, _], _ => rfl
  have A4 : At K mg "bars_of" (topS 14) ["one", "other"] := at_mk X G a4 l4 c4 k4 fun _ _ _ _ _ _ us hl => match us, hl with | [_, _], _ => rfl
  have A5 : At K mg "visits_of" (topS 15) ["work"] := at_mk X G a5 l5 c5 k5 fun _ _ _ _ _ _ us hl => match us, hl with | [_], _ => rfl
  have A6 : At K mg "is_constant" (topS 17) ["bars", "distance"] := at_mk X G a6 l6 c6 k6 fun _ _ _ _ _ _ us hl => match us, hl with | [_, _], _ => rfl
  have A7 : At K mg "are_waits" (topS 22) ["work", "thing"] := at_mk X G a7 l7 c7 k7 fun _ _ _ _ _ _ us hl => match us, hl with | [_, _], _ => rfl
  have A8 : At K mg "stretched_by" (topS 23) ["work", "waits"] := at_mk X G a8 l8 c8 k8 fun _ _ _ _ _ _ us hl => match us, hl with | [_, _], _ => rfl
  have A9 : At K mg "placed" (topS 24) ["work", "distance", "left", "ticks"] := at_mk X G a9 l9 c9 k9 fun _ _ _ _ _ _ us hl => match us, hl with | [_, _, _, _], _ => rfl
  have A10 : At K mg "is_free" (topS 25) ["work", "distance", "ticks", "tick"] := at_mk X G a10 l10 c10 k10 fun _ _ _ _ _ _ us hl => match us, hl with | [_, _, _, _], _ => rfl
  have A11 : At K mg "stretch_of" (topS 26) ["work", "distance"] := at_mk X G a11 l11 c11 k11 fun _ _ _ _ _ _ us hl => match us, hl with | [_, _], _ => rfl
  have A12 : At K mg "need_short" (topS 27) ["work"] := at_mk X G a12 l12 c12 k12 fun _ _ _ _ _ _ us hl => match us, hl with | [_], _ => rfl
  have A13 : At K mg "need_distance" (topS 28) ["thing"] := at_mk X G a13 l13 c13 k13 fun _ _ _ _ _ _ us hl => match us, hl with | [_], _ => rfl
  have A14 : At K mg "stretched" (topS 29) ["work", "waits"] := at_mk X G a14 l14 c14 k14 fun _ _ _ _ _ _ us hl => match us, hl with | [_, _], _ => rfl
  have A15 : At K mg "stretch" (topS 30) ["work", "distance"] := at_mk X G a15 l15 c15 k15 fun _ _ _ _ _ _ us hl => match us, hl with | [_, _], _ => rfl
  have A16 : At K mg "shows_stretch" (topS 31) ["work", "distance", "thing"] := at_mk X G a16 l16 c16 k16 fun _ _ _ _ _ _ us hl => match us, hl with | [_, _, _], _ => rfl
  have A17 : At K mg "trade" (topS 32) ["work"] := at_mk X G a17 l17 c17 k17 fun _ _ _ _ _ _ us hl => match us, hl with | [_], _ => rfl
  have A18 : At K mg "_law_cell" (topS 34) ["_law_script", "_law_k"] := at_mk X G a18 l18 c18 k18 fun _ _ _ _ _ _ us hl => match us, hl with | [_, _], _ => rfl
  have A19 : At K mg "_law_pen" (topS 35) ["_law_cell_here"] := at_mk X G a19 l19 c19 k19 fun _ _ _ _ _ _ us hl => match us, hl with | [_], _ => rfl
  have A20 : At K mg "_law_draw" (topS 36) ["_law_pen_here", "_law_many"] := at_mk X G a20 l20 c20 k20 fun _ _ _ _ _ _ us hl => match us, hl with | [_, _], _ => rfl
  have A21 : At K mg "_law_pick" (topS 37) ["_law_pen_here", "_law_values"] := at_mk X G a21 l21 c21 k21 fun _ _ _ _ _ _ us hl => match us, hl with | [_, _], _ => rfl
  have A22 : At K mg "_law_mixed" (topS 38) ["_law_pen_here", "_law_values"] := at_mk X G a22 l22 c22 k22 fun _ _ _ _ _ _ us hl => match us, hl with | [_, _], _ => rfl
  have A23 : At K mg "_law_work" (topS 39) ["_law_pen_here", "_law_long", "_law_many"] := at_mk X G a23 l23 c23 k23 fun _ _ _ _ _ _ us hl => match us, hl with | [_, _, _], _ => rfl
  have A24 : At K mg "_law_waits" (topS 40) ["_law_pen_here", "_law_items"] := at_mk X G a24 l24 c24 k24 fun _ _ _ _ _ _ us hl => match us, hl with | [_, _], _ => rfl
  have A25 : At K mg "_law_sum" (topS 41) ["_law_items", "_law_distance"] := at_mk X G a25 l25 c25 k25 fun _ _ _ _ _ _ us hl => match us, hl with | [_, _], _ => rfl
  have A26 : At K mg "_law_same_sums" (topS 42) ["_law_pen_here", "_law_items", "_law_distance"] := at_mk X G a26 l26 c26 k26 fun _ _ _ _ _ _ us hl => match us, hl with | [_, _, _], _ => rfl
  have A27 : At K mg "_law_shown_alike" (topS 43) ["_law_pen_here", "_law_items", "_law_distance"] := at_mk X G a27 l27 c27 k27 fun _ _ _ _ _ _ us hl => match us, hl with | [_, _, _], _ => rfl
  have T : Bl mg := ⟨PySem.W.mg_none_of X G z0, PySem.W.mg_none_of X G z1, PySem.W.mg_none_of X G z2, PySem.W.mg_none_of X G z3, PySem.W.mg_none_of X G z4, PySem.W.mg_none_of X G z5, PySem.W.mg_none_of X G z6, PySem.W.mg_none_of X G z7, PySem.W.mg_none_of X G z8, PySem.W.mg_none_of X G z9, PySem.W.mg_none_of X G z10, PySem.W.mg_none_of X G z11, ⟨_, PySem.W.mg_of X G n0⟩, ⟨_, PySem.W.mg_of X G n1⟩, ⟨_, PySem.W.mg_of X G n2⟩, ⟨_, PySem.W.mg_of X G n3⟩, ⟨_, PySem.W.mg_of X G n4⟩, ⟨_, PySem.W.mg_of X G n5⟩⟩
  have FL := fun_mk (st := topS 44) l28 c28 k28
  refine ⟨PySem.W.fnOf "law" "law" (defArgs (topS 44)) (defBody (topS 44)) (defScope (topS 44)) .none kV28 dc28 pm28 an28 cd28 ct28, fun s v => .of_eq rfl, fun base _ _ => ?_⟩
  have Gbetween := ok_between (P := l.prog) (w := w) (base := base) T A0
  have Gwork := ok_work (P := l.prog) (w := w) (base := base) T A1 Gbetween
  have Gneed := ok_needWork (P := l.prog) (w := w) (base := base) A2 Gwork
  have Gmeets := ok_meets (P := l.prog) (w := w) (base := base) T A3
  have Gbars := ok_bars (P := l.prog) (w := w) (base := base) T A4 Gmeets
  have Gvisits := ok_visits (P := l.prog) (w := w) (base := base) T A5
  have Gconst := ok_const (P := l.prog) (w := w) (base := base) T A6
  have Gare := ok_areWaits (P := l.prog) (w := w) (base := base) T A7 Gbetween
  have Gby := ok_stretchedBy (P := l.prog) (w := w) (base := base) T A8
  have Gfree := ok_free (P := l.prog) (w := w) (base := base) T A10
  have Gplaced := ok_placed (P := l.prog) (w := w) (base := base) T A9 Gfree
  have Gof := ok_stretchOf (P := l.prog) (w := w) (base := base) T A11 Gvisits Gplaced
  have Gshort := ok_needShort (P := l.prog) (w := w) (base := base) T A12 Gneed
  have Gdist := ok_needDistance (P := l.prog) (w := w) (base := base) T A13 Gbetween
  have Gstretched := ok_stretched (P := l.prog) (w := w) (base := base) A14 Gneed Gare Gby
  have Gstretch := ok_stretch (P := l.prog) (w := w) (base := base) A15 Gshort Gdist Gof
  have Gshows := ok_shows (P := l.prog) (w := w) (base := base) A16 Gshort Gdist Gare Gby Gbars Gconst
  have Gtrade := ok_trade (P := l.prog) (w := w) (base := base) T A17 Gshort Gbars Gvisits Gconst Gof
  have Gcell := ok_cell (P := l.prog) (w := w) (base := base) T A18
  have Gpen := ok_pen (P := l.prog) (w := w) (base := base) T A19
  have Gdraw := ok_draw (P := l.prog) (w := w) (base := base) A20
  have Gpick := ok_pick (P := l.prog) (w := w) (base := base) T A21 Gdraw
  have Gmixed := ok_mixed (P := l.prog) (w := w) (base := base) T A22 Gdraw
  have Glwork := ok_lwork (P := l.prog) (w := w) (base := base) T A23 Gdraw Gpick Gmixed
  have Glwaits := ok_lwaits (P := l.prog) (w := w) (base := base) T A24 Gdraw Gpick
  have Glsum := ok_lsum (P := l.prog) (w := w) (base := base) T A25 Gstretch
  have Gsame := ok_same (P := l.prog) (w := w) (base := base) T A26 Gdraw Gmixed Gstretch Glsum
  have Galike := ok_alike (P := l.prog) (w := w) (base := base) T A27 Gpick Glwaits Gstretch Gshows Gstretched
  exact ok_law T FL Gcell Gpen Glwork Gtrade Gsame Galike
end SgW
open PySem PySem.W PyProof.Rows
set_option maxRecDepth 100000 in
set_option maxHeartbeats 0 in
theorem PySem.Challenge.cw_startgaps_k48_whole_waits_from_the_end_holds : PySem.Challenge.rw_startgaps_k48_whole_waits_from_the_end.Holds := by
  w_on; o_law; k_head; (case hw => w_witness2)
  k_fill
  refine L2.walk_of (l := PySem.Challenge.rw_startgaps_k48_whole_waits_from_the_end) (n := 63) (k := 19) (x := "_law_script") (CX := fun _ => L2.CX0) (sp := fun w => SgW.spLaw _) rfl (by decide) rfl ⟨rfl, by decide, by decide⟩ (fun w h Y => PySem.W.kIn_of Y) ?F (fun _ _ a ns hl _ hS => ⟨a, ns, rfl, hS, hl, fun _ => rfl⟩) (fun _ _ _ _ _ h => h)
  case F =>
    intro w mg fa h KX G hmg
    refine' SgW.all_mk KX G hmg ?a0 ?l0 ?c0 ?k0 ?a1 ?l1 ?c1 ?k1 ?a2 ?l2 ?c2 ?k2 ?a3 ?l3 ?c3 ?k3 ?a4 ?l4 ?c4 ?k4 ?a5 ?l5 ?c5 ?k5 ?a6 ?l6 ?c6 ?k6 ?a7 ?l7 ?c7 ?k7 ?a8 ?l8 ?c8 ?k8 ?a9 ?l9 ?c9 ?k9 ?a10 ?l10 ?c10 ?k10 ?a11 ?l11 ?c11 ?k11 ?a12 ?l12 ?c12 ?k12 ?a13 ?l13 ?c13 ?k13 ?a14 ?l14 ?c14 ?k14 ?a15 ?l15 ?c15 ?k15 ?a16 ?l16 ?c16 ?k16 ?a17 ?l17 ?c17 ?k17 ?a18 ?l18 ?c18 ?k18 ?a19 ?l19 ?c19 ?k19 ?a20 ?l20 ?c20 ?k20 ?a21 ?l21 ?c21 ?k21 ?a22 ?l22 ?c22 ?k22 ?a23 ?l23 ?c23 ?k23 ?a24 ?l24 ?c24 ?k24 ?a25 ?l25 ?c25 ?k25 ?a26 ?l26 ?c26 ?k26 ?a27 ?l27 ?c27 ?k27 ?a28 ?l28 ?c28 ?k28 ?z0 ?z1 ?z2 ?z3 ?z4 ?z5 ?z6 ?z7 ?z8 ?z9 ?z10 ?z11 ?n0 ?n1 ?n2 ?n3 ?n4 ?n5
    (case a0 => k_is)
    (case l0 => k_is)
    (case c0 => k_is)
    (case k0 => k_is)
    (case a1 => k_is)
    (case l1 => k_is)
    (case c1 => k_is)
    (case k1 => k_is)
    (case a2 => k_is)
    (case l2 => k_is)
    (case c2 => k_is)
    (case k2 => k_is)
    (case a3 => k_is)
    (case l3 => k_is)
    (case c3 => k_is)
    (case k3 => k_is)
    (case a4 => k_is)
    (case l4 => k_is)
    (case c4 => k_is)
    (case k4 => k_is)
    (case a5 => k_is)
    (case l5 => k_is)
    (case c5 => k_is)
    (case k5 => k_is)
    (case a6 => k_is)
    (case l6 => k_is)
    (case c6 => k_is)
    (case k6 => k_is)
    (case a7 => k_is)
    (case l7 => k_is)
    (case c7 => k_is)
    (case k7 => k_is)
    (case a8 => k_is)
    (case l8 => k_is)
    (case c8 => k_is)
    (case k8 => k_is)
    (case a9 => k_is)
    (case l9 => k_is)
    (case c9 => k_is)
    (case k9 => k_is)
    (case a10 => k_is)
    (case l10 => k_is)
    (case c10 => k_is)
    (case k10 => k_is)
    (case a11 => k_is)
    (case l11 => k_is)
    (case c11 => k_is)
    (case k11 => k_is)
    (case a12 => k_is)
    (case l12 => k_is)
    (case c12 => k_is)
    (case k12 => k_is)
    (case a13 => k_is)
    (case l13 => k_is)
    (case c13 => k_is)
    (case k13 => k_is)
    (case a14 => k_is)
    (case l14 => k_is)
    (case c14 => k_is)
    (case k14 => k_is)
    (case a15 => k_is)
    (case l15 => k_is)
    (case c15 => k_is)
    (case k15 => k_is)
    (case a16 => k_is)
    (case l16 => k_is)
    (case c16 => k_is)
    (case k16 => k_is)
    (case a17 => k_is)
    (case l17 => k_is)
    (case c17 => k_is)
    (case k17 => k_is)
    (case a18 => k_is)
    (case l18 => k_is)
    (case c18 => k_is)
    (case k18 => k_is)
    (case a19 => k_is)
    (case l19 => k_is)
    (case c19 => k_is)
    (case k19 => k_is)
    (case a20 => k_is)
    (case l20 => k_is)
    (case c20 => k_is)
    (case k20 => k_is)
    (case a21 => k_is)
    (case l21 => k_is)
    (case c21 => k_is)
    (case k21 => k_is)
    (case a22 => k_is)
    (case l22 => k_is)
    (case c22 => k_is)
    (case k22 => k_is)
    (case a23 => k_is)
    (case l23 => k_is)
    (case c23 => k_is)
    (case k23 => k_is)
    (case a24 => k_is)
    (case l24 => k_is)
    (case c24 => k_is)
    (case k24 => k_is)
    (case a25 => k_is)
    (case l25 => k_is)
    (case c25 => k_is)
    (case k25 => k_is)
    (case a26 => k_is)
    (case l26 => k_is)
    (case c26 => k_is)
    (case k26 => k_is)
    (case a27 => k_is)
    (case l27 => k_is)
    (case c27 => k_is)
    (case k27 => k_is)
    (case a28 => k_is)
    (case l28 => k_is)
    (case c28 => k_is)
    (case k28 => k_is)
    (case z0 => k_is)
    (case z1 => k_is)
    (case z2 => k_is)
    (case z3 => k_is)
    (case z4 => k_is)
    (case z5 => k_is)
    (case z6 => k_is)
    (case z7 => k_is)
    (case z8 => k_is)
    (case z9 => k_is)
    (case z10 => k_is)
    (case z11 => k_is)
    (case n0 => k_is)
    (case n1 => k_is)
    (case n2 => k_is)
    (case n3 => k_is)
    (case n4 => k_is)
    (case n5 => k_is)
