import PyProof.Rows.All
import Wide.All
import OpenK.AllK
import Wide.FinOn
import HandS.ForMost
import HandS.TupAny
import HandS.Evl
import HandS.IsInst
import HandS.Deep
import KE.GoesEnum
import PySem.Challenge.RW_everyflow_k65_whole_value_bounds
import HandS.DictComp
import KE.KExcSuper
import KE.RegKSuper
import HandS.Exc
import HandS.ExcInit
import HandS.Words
import HandS.WordsExc
import KE.KExcIs
import HandS.ExcOwn
import HandS.ExcField
import HandS.ExcIs
import PyProof.EqAt
import PyProof.EqKinds
import PyProof.TupleCall
import KE.SortData
import HandS.Base
import HandS.Call
import HandS.List
import HandS.More
import HandS.Set
import HandS.SetFor
import HandS.Strs
import HandS.Zip
import HandS.Wide
import HandS.WideBits
import HandS.EndBits
import PyProof.ReprRoads
import PyProof.ReprBulk
import PyProof.Rows.ReprShort
import HandS.Ends
import HandS.TupMul
import HandS.Conv
/-! part KMath -/
set_option linter.all false
/-! Plain mathematics: sums over an index, excess, cuts, augmenting, Hoffman's theorem, what an arrow's integer may be. No program here. -/
namespace KM

/-! ### sums -/
def S : Nat → (Nat → Int) → Int
  | 0, _ => 0
  | m + 1, f => S m f + f m
theorem S_congr {m : Nat} {f g : Nat → Int} (h : ∀ k, k < m → f k = g k) : S m f = S m g := by
  induction m with
  | zero => rfl
  | succ m ih =>
    show S m f + f m = S m g + g m
    rw [ih fun k hk => h k (by omega), h m (by omega)]
theorem S_add (m : Nat) (f g : Nat → Int) : S m (fun k => f k + g k) = S m f + S m g := by
  induction m with
  | zero => rfl
  | succ m ih =>
    show S m (fun k => f k + g k) + (f m + g m) = (S m f + f m) + (S m g + g m)
    rw [ih]; omega
theorem S_sub (m : Nat) (f g : Nat → Int) : S m (fun k => f k - g k) = S m f - S m g := by
  induction m with
  | zero => rfl
  | succ m ih =>
    show S m (fun k => f k - g k) + (f m - g m) = (S m f + f m) - (S m g + g m)
    rw [ih]; omega
theorem S_zero (m : Nat) : S m (fun _ => 0) = 0 := by
  induction m with
  | zero => rfl
  | succ m ih =>
    show S m (fun _ => 0) + 0 = 0
    rw [ih]; rfl
theorem S_le {m : Nat} {f g : Nat → Int} (h : ∀ k, k < m → f k ≤ g k) : S m f ≤ S m g := by
  induction m with
  | zero => exact Int.le_refl _
  | succ m ih =>
    show S m f + f m ≤ S m g + g m
    have h1 := ih fun k hk => h k (by omega)
    have h2 := h m (by omega)
    omega
theorem S_lt {m : Nat} {f g : Nat → Int} (h : ∀ k, k < m → f k ≤ g k) {j : Nat} (hj : j < m) (hl : f j < g j) : S m f < S m g := by
  induction m with
  | zero => omega
  | succ m ih =>
    show S m f + f m < S m g + g m
    by_cases e : j = m
    · subst e
      have h1 := S_le fun k (hk : k < j) => h k (by omega)
      omega
    · have h1 := ih (fun k hk => h k (by omega)) (by omega)
      have h2 := h m (by omega)
      omega
/-- one place alone -/
theorem S_one {m j : Nat} (hj : j < m) (c : Int) : S m (fun k => if k = j then c else 0) = c := by
  induction m with
  | zero => omega
  | succ m ih =>
    show S m (fun k => if k = j then c else 0) + (if m = j then c else 0) = c
    by_cases e : j = m
    · subst e
      rw [S_congr (g := fun _ => 0) fun k hk => if_neg (by omega), S_zero, if_pos rfl]; omega
    · rw [ih (by omega), if_neg (by omega)]; omega
theorem S_upd {m j : Nat} (hj : j < m) (f g : Nat → Int) (h : ∀ k, k < m → k ≠ j → f k = g k) : S m f = S m g + (f j - g j) := by
  have e : S m f = S m (fun k => g k + (if k = j then f j - g j else 0)) := S_congr fun k hk => by
    by_cases c : k = j
    · subst c; rw [if_pos rfl]; omega
    · rw [if_neg c, h k hk c]; omega
  rw [e, S_add, S_one hj]
theorem S_comm (m n : Nat) (f : Nat → Nat → Int) : S m (fun i => S n (fun j => f i j)) = S n (fun j => S m (fun i => f i j)) := by
  induction m with
  | zero => exact (S_zero n).symm
  | succ m ih =>
    show S m (fun i => S n (fun j => f i j)) + S n (fun j => f m j) = S n (fun j => S m (fun i => f i j) + f m j)
    rw [ih, S_add]

/-! ### webs -/
section
variable (n m : Nat) (x y : Nat → Int)
/-- the ends are places -/
def Ends : Prop := ∀ k, k < m → (0 ≤ x k ∧ x k < n) ∧ (0 ≤ y k ∧ y k < n)
/-- the excess of a place -/
def exc (a : Nat → Int) (v : Int) : Int := S m fun k => (if x k = v then a k else 0) - (if y k = v then a k else 0)
/-- what goes out of T less what comes in -/
def net (a : Nat → Int) (T : Int → Bool) : Int := S m fun k => (if (T (x k) && !T (y k)) = true then a k else 0) - (if (T (y k) && !T (x k)) = true then a k else 0)
/-- the least ones that leave less the most ones that enter -/
def need (lo hi : Nat → Int) (T : Int → Bool) : Int := S m fun k => (if (T (x k) && !T (y k)) = true then lo k else 0) - (if (T (y k) && !T (x k)) = true then hi k else 0)
def Within (lo hi a : Nat → Int) : Prop := ∀ k, k < m → lo k ≤ a k ∧ a k ≤ hi k
def Flow (a : Nat → Int) : Prop := ∀ v : Nat, v < n → exc m x y a v = 0
end

section
variable {n m : Nat} {x y lo hi a : Nat → Int} {T : Int → Bool}
/-- the sum over the places of T of what stands at one place -/
theorem S_at {u : Int} (h0 : 0 ≤ u) (h1 : u < n) (c : Int) : S n (fun v => if T v = true then (if u = (v : Int) then c else 0) else 0) = if T u = true then c else 0 := by
  obtain ⟨j, rfl⟩ := Int.eq_ofNat_of_zero_le h0
  have hj : j < n := by omega
  have e : S n (fun v => if T v = true then (if ((j : Nat) : Int) = (v : Int) then c else 0) else 0) = S n (fun v => if v = j then (if T j = true then c else 0) else 0) := S_congr fun v hv => by
    by_cases q : v = j
    · subst q
      rw [if_pos rfl, if_pos rfl]
    · rw [if_neg q]
      have q' : ¬ ((j : Nat) : Int) = (v : Int) := fun z => q (by omega)
      rw [if_neg q']
      split <;> rfl
  rw [e, S_one hj]
/-- the excesses of T's places sum to what leaves less what enters -/
theorem cut (he : Ends n m x y) (a : Nat → Int) (T : Int → Bool) : S n (fun v => if T v = true then exc m x y a v else 0) = net m x y a T := by
  have e1 : S n (fun v => if T v = true then exc m x y a v else 0) = S n (fun v => S m fun k => (if T v = true then (if x k = (v : Int) then a k else 0) else 0) - (if T v = true then (if y k = (v : Int) then a k else 0) else 0)) := S_congr fun v hv => by
    by_cases c : T v = true
    · rw [if_pos c]
      exact S_congr fun k hk => by rw [if_pos c, if_pos c]
    · rw [if_neg c]
      rw [S_congr (g := fun _ => 0) fun k hk => by rw [if_neg c, if_neg c]; rfl]
      exact (S_zero m).symm
  rw [e1, S_comm]
  refine S_congr fun k hk => ?_
  obtain ⟨⟨a1, a2⟩, ⟨b1, b2⟩⟩ := he k hk
  rw [S_sub, S_at a1 a2, S_at b1 b2]
  cases T (x k) <;> cases T (y k) <;> simp
theorem net_all (a : Nat → Int) : net m x y a (fun _ => true) = 0 := by
  unfold net
  rw [S_congr (g := fun _ => 0) fun k hk => by simp]
  exact S_zero m
theorem exc_all (he : Ends n m x y) (a : Nat → Int) : S n (fun v => exc m x y a v) = 0 := by
  have h := cut he a fun _ => true
  rw [net_all] at h
  exact h
theorem net_flow (he : Ends n m x y) (hf : Flow n m x y a) (T : Int → Bool) : net m x y a T = 0 := by
  rw [← cut he a T, S_congr (g := fun _ => 0) fun v hv => by rw [hf v hv]; split <;> rfl]
  exact S_zero n
theorem need_le_net (hw : Within m lo hi a) (T : Int → Bool) : need m x y lo hi T ≤ net m x y a T := S_le fun k hk => by
  have := hw k hk
  cases T (x k) <;> cases T (y k) <;> simp <;> omega
/-- a flow within the bounds: no lot bars -/
theorem weak (he : Ends n m x y) (hw : Within m lo hi a) (hf : Flow n m x y a) (T : Int → Bool) : need m x y lo hi T ≤ 0 := by
  have h := need_le_net (x := x) (y := y) hw T
  rw [net_flow he hf] at h
  exact h
theorem weakHi (he : Ends n m x y) (hw : Within m lo hi a) (hf : Flow n m x y a) {k : Nat} (hk : k < m) (h1 : T (x k) = true) (h2 : T (y k) = false) : a k ≤ lo k - need m x y lo hi T := by
  have e : need m x y (fun j => if j = k then a k else lo j) hi T = need m x y lo hi T + (a k - lo k) := by
    unfold need
    rw [S_upd (j := k) hk (g := fun j => (if (T (x j) && !T (y j)) = true then lo j else 0) - (if (T (y j) && !T (x j)) = true then hi j else 0)) _ fun j hj c => by simp only [if_neg c]]
    simp [h1, h2]
  have w : Within m (fun j => if j = k then a k else lo j) hi a := fun j hj => by
    have := hw j hj
    by_cases c : j = k
    · subst c; simp; omega
    · simp only [if_neg c]; exact this
  have h := weak he w hf T
  omega
theorem weakLo (he : Ends n m x y) (hw : Within m lo hi a) (hf : Flow n m x y a) {k : Nat} (hk : k < m) (h1 : T (y k) = true) (h2 : T (x k) = false) : need m x y lo hi T + hi k ≤ a k := by
  have e : need m x y lo (fun j => if j = k then a k else hi j) T = need m x y lo hi T - (a k - hi k) := by
    unfold need
    rw [S_upd (j := k) hk (g := fun j => (if (T (x j) && !T (y j)) = true then lo j else 0) - (if (T (y j) && !T (x j)) = true then hi j else 0)) _ fun j hj c => by simp only [if_neg c]]
    simp [h1, h2]; omega
  have w : Within m lo (fun j => if j = k then a k else hi j) a := fun j hj => by
    have := hw j hj
    by_cases c : j = k
    · subst c; simp; omega
    · simp only [if_neg c]; exact this
  have h := weak he w hf T
  omega
end
end KM
namespace KM
/-! ### steps with room, ways, paths -/
section
variable (m : Nat) (x y lo hi a : Nat → Int)
/-- from p along the arrow k (s = 1), or against it (s = -1), to q -/
def Step (p : Int) (k : Nat) (s : Int) (q : Int) : Prop := k < m ∧ ((s = 1 ∧ x k = p ∧ y k = q ∧ a k < hi k) ∨ (s = -1 ∧ y k = p ∧ x k = q ∧ lo k < a k))
end
/-- places found, each with its last step (arrow, sign, the place ahead) -/
abbrev Ways := List (Int × Option (Nat × Int × Int))
def Keys (ws : Ways) : List Int := ws.map (·.1)
structure WaysOk (n m : Nat) (x y lo hi a : Nat → Int) (start : Int → Prop) (ws : Ways) : Prop where
  nd : (Keys ws).Nodup
  inn : ∀ v ∈ Keys ws, 0 ≤ v ∧ v < n
  st : ∀ v, (v, none) ∈ ws → start v
  back : ∀ (i : Nat) v k s q, ws[i]? = some (v, some (k, s, q)) → Step m x y lo hi a q k s v ∧ ∃ (j : Nat) (o : Option (Nat × Int × Int)), j < i ∧ ws[j]? = some (q, o)
def Closed (m : Nat) (x y lo hi a : Nat → Int) (ws : Ways) : Prop := ∀ p ∈ Keys ws, ∀ k s q, Step m x y lo hi a p k s q → q ∈ Keys ws
/-- the way to a place, last step first, and where it begins -/
inductive Path (ws : Ways) : List (Nat × Int) → Int → Int → Prop
  | nil {v : Int} : (v, none) ∈ ws → Path ws [] v v
  | cons {v q r : Int} {k : Nat} {s : Int} {st : List (Nat × Int)} : (v, some (k, s, q)) ∈ ws → Path ws st q r → Path ws ((k, s) :: st) v r

section
variable {n m : Nat} {x y lo hi a : Nat → Int} {start : Int → Prop} {ws : Ways}
theorem key_inj (nd : (Keys ws).Nodup) {i j : Nat} {v : Int} {o o' : Option (Nat × Int × Int)} (h : ws[i]? = some (v, o)) (h' : ws[j]? = some (v, o')) : i = j := by
  have e1 : (Keys ws)[i]? = some v := by unfold Keys; rw [List.getElem?_map, h]; rfl
  have e2 : (Keys ws)[j]? = some v := by unfold Keys; rw [List.getElem?_map, h']; rfl
  obtain ⟨l1, q1⟩ := List.getElem?_eq_some_iff.mp e1
  obtain ⟨l2, q2⟩ := List.getElem?_eq_some_iff.mp e2
  exact (List.getElem_inj nd).mp (q1.trans q2.symm)
theorem entry_inj (nd : (Keys ws).Nodup) {v : Int} {o o' : Option (Nat × Int × Int)} (h : (v, o) ∈ ws) (h' : (v, o') ∈ ws) : o = o' := by
  obtain ⟨i, hi⟩ := List.mem_iff_getElem?.mp h
  obtain ⟨j, hj⟩ := List.mem_iff_getElem?.mp h'
  have := key_inj nd hi hj
  subst this
  rw [hi] at hj
  exact (Prod.mk.inj (Option.some.inj hj)).2
theorem mem_keys {v : Int} {o : Option (Nat × Int × Int)} (h : (v, o) ∈ ws) : v ∈ Keys ws := List.mem_map.mpr ⟨_, h, rfl⟩
theorem of_keys {v : Int} (h : v ∈ Keys ws) : ∃ o, (v, o) ∈ ws := by
  obtain ⟨⟨v', o⟩, hm, e⟩ := List.mem_map.mp h
  have e : v' = v := e
  subst e
  exact ⟨o, hm⟩
/-- each place found has its way -/
theorem path_of (W : WaysOk n m x y lo hi a start ws) : ∀ (i : Nat) (v : Int) (o : Option (Nat × Int × Int)), ws[i]? = some (v, o) → ∃ st r, Path ws st v r := by
  intro i
  induction i using Nat.strongRecOn with
  | _ i ih =>
    intro v o h
    have hm : (v, o) ∈ ws := List.mem_iff_getElem?.mpr ⟨i, h⟩
    cases o with
    | none => exact ⟨[], v, .nil hm⟩
    | some t =>
      obtain ⟨k, s, q⟩ := t
      obtain ⟨_, j, o', hj, e⟩ := W.back i v k s q h
      obtain ⟨st, r, p⟩ := ih j hj q o' e
      exact ⟨(k, s) :: st, r, .cons hm p⟩
theorem path_key (W : WaysOk n m x y lo hi a start ws) {v : Int} (h : v ∈ Keys ws) : ∃ st r, Path ws st v r := by
  obtain ⟨o, h⟩ := of_keys h
  obtain ⟨i, hi⟩ := List.mem_iff_getElem?.mp h
  exact path_of W i v o hi
theorem Path.begins (W : WaysOk n m x y lo hi a start ws) {st : List (Nat × Int)} {v r : Int} (p : Path ws st v r) : start r ∧ r ∈ Keys ws := by
  induction p with
  | nil h => exact ⟨W.st _ h, mem_keys h⟩
  | cons _ _ ih => exact ih
theorem Path.key {st : List (Nat × Int)} {v r : Int} (p : Path ws st v r) : v ∈ Keys ws := by
  cases p with
  | nil h => exact mem_keys h
  | cons h _ => exact mem_keys h
theorem Path.step (W : WaysOk n m x y lo hi a start ws) {st : List (Nat × Int)} {v r : Int} (p : Path ws st v r) : ∀ k s, (k, s) ∈ st → ∃ u q, Step m x y lo hi a u k s q := by
  induction p with
  | nil _ => intro k s h; cases h
  | @cons v q r k' s' st' h _ ih =>
    intro k s hm
    rcases List.mem_cons.mp hm with e | hm
    · cases e
      obtain ⟨i, hi⟩ := List.mem_iff_getElem?.mp h
      exact ⟨q, v, (W.back i _ _ _ _ hi).1⟩
    · exact ih k s hm
/-- the steps of a way stem from entries no further than its end's -/
theorem Path.stems (W : WaysOk n m x y lo hi a start ws) {st : List (Nat × Int)} {v r : Int} (p : Path ws st v r) : ∀ (i : Nat) o, ws[i]? = some (v, o) → ∀ k s, (k, s) ∈ st → ∃ (i' : Nat) (v' q' : Int), i' ≤ i ∧ ws[i']? = some (v', some (k, s, q')) := by
  induction p with
  | nil _ => intro i o _ k s h; cases h
  | @cons v q r k' s' st' h _ ih =>
    intro i o e k s hm
    have h1 := entry_inj W.nd h (List.mem_iff_getElem?.mpr ⟨i, e⟩)
    subst h1
    rcases List.mem_cons.mp hm with e2 | hm
    · cases e2
      exact ⟨i, v, q, Nat.le_refl _, e⟩
    · obtain ⟨_, j, o', hj, e'⟩ := W.back i v k' s' q e
      obtain ⟨i', v', q', l, z⟩ := ih j o' e' k s hm
      exact ⟨i', v', q', by omega, z⟩
/-- no arrow lies twice on a way -/
theorem Path.nodup (W : WaysOk n m x y lo hi a start ws) {st : List (Nat × Int)} {v r : Int} (p : Path ws st v r) : (st.map (·.1)).Nodup := by
  induction p with
  | nil _ => exact List.nodup_nil
  | @cons v q r k s st' h p' ih =>
    rw [List.map_cons, List.nodup_cons]
    refine ⟨fun hm0 => ?_, ih⟩
    obtain ⟨⟨k', s'⟩, hm, e⟩ := List.mem_map.mp hm0
    have e : k' = k := e
    subst e
    obtain ⟨i, hi⟩ := List.mem_iff_getElem?.mp h
    obtain ⟨st1, j, o, hj, ej⟩ := W.back i v k' s q hi
    obtain ⟨i', v', q', l, z⟩ := p'.stems W j o ej k' s' hm
    obtain ⟨st2, j', o', hj', ej'⟩ := W.back i' v' k' s' q' z
    obtain ⟨_, c1⟩ := st1
    obtain ⟨_, c2⟩ := st2
    rcases c1 with ⟨rfl, a1, a2, _⟩ | ⟨rfl, a1, a2, _⟩ <;> rcases c2 with ⟨rfl, b1, b2, _⟩ | ⟨rfl, b1, b2, _⟩
    · have e : v = v' := a2.symm.trans b2
      subst e
      have := key_inj W.nd hi z
      omega
    · have e : v = q' := a2.symm.trans b1
      subst e
      have := key_inj W.nd hi ej'
      omega
    · have e : v = q' := a2.symm.trans b1
      subst e
      have := key_inj W.nd hi ej'
      omega
    · have e : v = v' := a2.symm.trans b2
      subst e
      have := key_inj W.nd hi z
      omega
end

/-! ### leading an amount along a way -/
def upd1 (a : Nat → Int) (k : Nat) (d : Int) : Nat → Int := fun j => if j = k then a j + d else a j
def led : (Nat → Int) → List (Nat × Int) → Int → (Nat → Int)
  | a, [], _ => a
  | a, (k, s) :: st, r => led (upd1 a k (s * r)) st r
section
variable {n m : Nat} {x y lo hi a : Nat → Int} {start : Int → Prop} {ws : Ways}
theorem led_off : ∀ (st : List (Nat × Int)) (a : Nat → Int) (r : Int) (j : Nat), j ∉ st.map (·.1) → led a st r j = a j
  | [], _, _, _, _ => rfl
  | (k, s) :: st, a, r, j, h => by
    show led (upd1 a k (s * r)) st r j = a j
    rw [List.map_cons, List.mem_cons] at h
    rw [led_off st _ r j fun z => h (.inr z)]
    exact if_neg fun z => h (.inl z)
theorem led_on : ∀ (st : List (Nat × Int)) (a : Nat → Int) (r : Int) (j : Nat) (s : Int), (st.map (·.1)).Nodup → (j, s) ∈ st → led a st r j = a j + s * r
  | [], _, _, _, _, _, h => nomatch h
  | (k, s') :: st, a, r, j, s, nd, h => by
    show led (upd1 a k (s' * r)) st r j = a j + s * r
    rw [List.map_cons, List.nodup_cons] at nd
    rcases List.mem_cons.mp h with e | h
    · cases e
      rw [led_off st _ r _ nd.1]
      exact if_pos rfl
    · rw [led_on st _ r j s nd.2 h]
      have hk : j ≠ k := fun z => nd.1 (List.mem_map.mpr ⟨_, h, z⟩)
      show (if j = k then _ else _) + _ = _
      rw [if_neg hk]
/-- the room of a step -/
def roomAt (lo hi a : Nat → Int) (k : Nat) (s : Int) : Int := if s = 1 then hi k - a k else a k - lo k
theorem led_within (W : WaysOk n m x y lo hi a start ws) (hw : Within m lo hi a) {st : List (Nat × Int)} {v u : Int} (p : Path ws st v u) {r : Int} (h0 : 0 ≤ r) (hr : ∀ k s, (k, s) ∈ st → r ≤ roomAt lo hi a k s) : Within m lo hi (led a st r) := by
  intro k hk
  have w := hw k hk
  by_cases h : k ∈ st.map (·.1)
  · obtain ⟨⟨k', s⟩, hm, e⟩ := List.mem_map.mp h
    have e : k' = k := e
    subst e
    rw [led_on st a r k' s (p.nodup W) hm]
    have q := hr k' s hm
    obtain ⟨_, _, _, c⟩ := p.step W k' s hm
    unfold roomAt at q
    rcases c with ⟨rfl, _⟩ | ⟨rfl, _⟩
    · rw [if_pos rfl] at q; omega
    · rw [if_neg (by decide)] at q; omega
  · rw [led_off st a r k h]; exact w
theorem exc_upd (a : Nat → Int) {k : Nat} (hk : k < m) (d v : Int) : exc m x y (upd1 a k d) v = exc m x y a v + ((if x k = v then d else 0) - (if y k = v then d else 0)) := by
  unfold exc
  rw [S_upd (j := k) hk (g := fun j => (if x j = v then a j else 0) - (if y j = v then a j else 0)) _ fun j hj c => by simp only [upd1, if_neg c]]
  simp only [upd1, if_true]
  split <;> split <;> omega
/-- behind it the start has so much more, the end so much less -/
theorem led_exc (W : WaysOk n m x y lo hi a start ws) {st : List (Nat × Int)} {v u : Int} (p : Path ws st v u) (r w : Int) : ∀ b : Nat → Int, exc m x y (led b st r) w = exc m x y b w + ((if u = w then r else 0) - (if v = w then r else 0)) := by
  induction p with
  | nil _ => intro b; show exc m x y b w = _; omega
  | @cons v q u k s st' h _ ih =>
    intro b
    show exc m x y (led (upd1 b k (s * r)) st' r) w = _
    obtain ⟨i, hi⟩ := List.mem_iff_getElem?.mp h
    obtain ⟨⟨hk, c⟩, _⟩ := W.back i v k s q hi
    rw [ih, exc_upd b hk]
    rcases c with ⟨rfl, rfl, rfl, _⟩ | ⟨rfl, rfl, rfl, _⟩
    · rw [Int.one_mul]; split <;> split <;> split <;> omega
    · have e : -1 * r = -r := by omega
      rw [e]
      split <;> split <;> split <;> omega
theorem room_pos (W : WaysOk n m x y lo hi a start ws) {st : List (Nat × Int)} {v u : Int} (p : Path ws st v u) : ∀ k s, (k, s) ∈ st → 1 ≤ roomAt lo hi a k s := by
  intro k s h
  obtain ⟨_, _, _, c⟩ := p.step W k s h
  unfold roomAt
  rcases c with ⟨rfl, _, _, c⟩ | ⟨rfl, _, _, c⟩
  · rw [if_pos rfl]; omega
  · rw [if_neg (by decide)]; omega
end

/-! ### where no way leads further -/
section
variable {n m : Nat} {x y lo hi a : Nat → Int} {start : Int → Prop} {ws : Ways}
/-- the places that are not found -/
def Out (ws : Ways) : Int → Bool := fun v => !decide (v ∈ Keys ws)
theorem out_true {v : Int} : Out ws v = true ↔ v ∉ Keys ws := by unfold Out; simp
theorem out_false {v : Int} : Out ws v = false ↔ v ∈ Keys ws := by unfold Out; simp
/-- an arrow that leaves what is not found has its least, one that enters it its most -/
theorem out_leave (C : Closed m x y lo hi a ws) {k : Nat} (hk : k < m) (h1 : Out ws (x k) = true) (h2 : Out ws (y k) = false) : a k ≤ lo k := by
  rcases Int.lt_or_le (lo k) (a k) with h | h
  · exact absurd (C _ (out_false.mp h2) k (-1) (x k) ⟨hk, .inr ⟨rfl, rfl, rfl, h⟩⟩) (out_true.mp h1)
  · exact h
theorem out_enter (C : Closed m x y lo hi a ws) {k : Nat} (hk : k < m) (h1 : Out ws (y k) = true) (h2 : Out ws (x k) = false) : hi k ≤ a k := by
  rcases Int.lt_or_le (a k) (hi k) with h | h
  · exact absurd (C _ (out_false.mp h2) k 1 (y k) ⟨hk, .inl ⟨rfl, rfl, rfl, h⟩⟩) (out_true.mp h1)
  · exact h
theorem out_net (C : Closed m x y lo hi a ws) (hw : Within m lo hi a) : net m x y a (Out ws) = need m x y lo hi (Out ws) := S_congr fun k hk => by
  have w := hw k hk
  cases h1 : Out ws (x k) <;> cases h2 : Out ws (y k)
  · simp
  · have := out_enter C hk h2 h1; simp; omega
  · have := out_leave C hk h1 h2; simp; omega
  · simp
/-- nothing above 0 is found, all below 0 is: it bars -/
theorem bars (he : Ends n m x y) (C : Closed m x y lo hi a ws) (hw : Within m lo hi a) (neg : ∀ v : Nat, v < n → exc m x y a v < 0 → (v : Int) ∈ Keys ws) (pos : ∀ v : Nat, v < n → (v : Int) ∈ Keys ws → exc m x y a v ≤ 0)
    (some0 : ∃ v : Nat, v < n ∧ exc m x y a v ≠ 0) : 0 < need m x y lo hi (Out ws) := by
  rw [← out_net C hw, ← cut he a (Out ws)]
  have ge : ∀ v, v < n → (0 : Int) ≤ (if Out ws (v : Int) = true then exc m x y a v else 0) := fun v hv => by
    split
    · rename_i h
      rcases Int.lt_or_le (exc m x y a v) 0 with c | c
      · exact absurd (neg v hv c) (out_true.mp h)
      · exact c
    · exact Int.le_refl _
  have ex : ∃ v : Nat, v < n ∧ 0 < exc m x y a v := by
    refine Classical.byContradiction fun hn => ?_
    have le : ∀ v : Nat, v < n → exc m x y a v ≤ 0 := fun v hv => by
      rcases Int.lt_or_le 0 (exc m x y a v) with c | c
      · exact absurd ⟨v, hv, c⟩ hn
      · exact c
    obtain ⟨v, hv, hne⟩ := some0
    have l := S_lt (f := fun v : Nat => exc m x y a v) (g := fun _ => 0) le hv (by have := le v hv; omega)
    rw [exc_all he, S_zero] at l
    omega
  obtain ⟨v, hv, hp⟩ := ex
  have ho : Out ws (v : Int) = true := out_true.mpr fun h => by have := pos v hv h; omega
  have l := S_lt (f := fun _ => 0) (g := fun v : Nat => if Out ws (v : Int) = true then exc m x y a v else 0) ge hv (by rw [if_pos ho]; exact hp)
  rw [S_zero] at l
  exact l
end

/-! ### what is left to be led -/
section
variable {n m : Nat} {x y lo hi a : Nat → Int} {start : Int → Prop} {ws : Ways}
def left (n m : Nat) (x y a : Nat → Int) : Int := S n fun v => max (exc m x y a v) 0
theorem left_nonneg : 0 ≤ left n m x y a := by
  have := S_le (m := n) (f := fun _ => 0) (g := fun v : Nat => max (exc m x y a v) 0) fun v _ => by omega
  rw [S_zero] at this
  exact this
theorem left_less {b : Nat → Int} {r : Int} {u v : Int} (hu : 0 ≤ u ∧ u < n) (hv : 0 ≤ v ∧ v < n) (hr : 0 < r) (h1 : r ≤ -(exc m x y a u)) (h2 : r ≤ exc m x y a v)
    (e : ∀ w, exc m x y b w = exc m x y a w + ((if u = w then r else 0) - (if v = w then r else 0))) : left n m x y b < left n m x y a := by
  obtain ⟨j, rfl⟩ := Int.eq_ofNat_of_zero_le hv.1
  have huv : ¬ u = (j : Int) := fun z => by rw [z] at h1; omega
  refine S_lt (j := j) (fun w hw => ?_) (by omega) ?_
  · rw [e]
    by_cases c : u = (w : Int)
    · rw [if_pos c]
      rw [c] at h1
      split <;> omega
    · rw [if_neg c]
      split <;> omega
  · rw [e, if_neg huv, if_pos rfl]
    omega
end
end KM
namespace KM
/-! ### Hoffman's theorem -/
section
variable {n m : Nat} {x y lo hi a : Nat → Int} {start : Int → Prop} {ws : Ways}
theorem nodup_sub : ∀ (l r : List Nat), l.Nodup → l ⊆ r → l.length ≤ r.length
  | [], _, _, _ => Nat.zero_le _
  | a :: l, r, nd, s => by
    rw [List.nodup_cons] at nd
    have ha : a ∈ r := s List.mem_cons_self
    have s2 : l ⊆ r.erase a := fun b hb => by
      have hne : b ≠ a := fun z => nd.1 (z ▸ hb)
      exact (List.mem_erase_of_ne hne).mpr (s (List.mem_cons_of_mem _ hb))
    have h := nodup_sub l (r.erase a) nd.2 s2
    rw [List.length_erase_of_mem ha] at h
    have : 0 < r.length := List.length_pos_of_mem ha
    rw [List.length_cons]
    omega
theorem nodup_len {l : List Int} (nd : l.Nodup) (h : ∀ v ∈ l, 0 ≤ v ∧ v < (n : Int)) : l.length ≤ n := by
  have nd2 : (l.map Int.toNat).Nodup := by
    rw [List.nodup_iff_pairwise_ne, List.pairwise_map]
    refine List.Pairwise.imp_of_mem (fun {u v} hu hv ne e => ne ?_) (List.nodup_iff_pairwise_ne.mp nd)
    have := h u hu
    have := h v hv
    omega
  have sub : l.map Int.toNat ⊆ List.range n := fun k hk => by
    obtain ⟨v, hv, e⟩ := List.mem_map.mp hk
    have := h v hv
    exact List.mem_range.mpr (by omega)
  have l2 : (l.map Int.toNat).length ≤ (List.range n).length := nodup_sub _ _ nd2 sub
  rw [List.length_map, List.length_range] at l2
  exact l2
/-- a further place is found -/
theorem ways_more (he : Ends n m x y) (W : WaysOk n m x y lo hi a start ws) {p q : Int} {k : Nat} {s : Int} (hp : p ∈ Keys ws) (st : Step m x y lo hi a p k s q) (hq : q ∉ Keys ws) : WaysOk n m x y lo hi a start (ws ++ [(q, some (k, s, p))]) where
  nd := by
    unfold Keys
    rw [List.map_append, List.map_singleton]
    exact List.nodup_append.mpr ⟨W.nd, by simp, fun u hu v hv => by
      have e : v = q := by simpa using hv
      subst e
      exact fun z => hq (z ▸ hu)⟩
  inn := fun v hv => by
    unfold Keys at hv
    rw [List.map_append, List.mem_append] at hv
    rcases hv with hv | hv
    · exact W.inn v hv
    · have e : v = q := by simpa using hv
      subst e
      obtain ⟨hk, c⟩ := st
      obtain ⟨a1, a2⟩ := he k hk
      rcases c with ⟨_, _, e, _⟩ | ⟨_, _, e, _⟩
      · rw [← e]; exact a2
      · rw [← e]; exact a1
  st := fun v hv => by
    rcases List.mem_append.mp hv with hv | hv
    · exact W.st v hv
    · simp at hv
  back := fun i v k' s' q' hi' => by
    by_cases c : i < ws.length
    · rw [List.getElem?_append_left c] at hi'
      obtain ⟨st', j, o, hj, e⟩ := W.back i v k' s' q' hi'
      exact ⟨st', j, o, hj, by rw [List.getElem?_append_left (by omega)]; exact e⟩
    · rw [List.getElem?_append_right (by omega)] at hi'
      have hi0 : i - ws.length = 0 := by
        rcases Nat.eq_zero_or_pos (i - ws.length) with z | z
        · exact z
        · rw [List.getElem?_eq_none (by simp; omega)] at hi'
          cases hi'
      rw [hi0] at hi'
      have e := Option.some.inj hi'
      cases e
      obtain ⟨o, hm⟩ := of_keys hp
      obtain ⟨j, hj⟩ := List.mem_iff_getElem?.mp hm
      have hl : j < ws.length := (List.getElem?_eq_some_iff.mp hj).1
      exact ⟨st, j, o, by omega, by rw [List.getElem?_append_left hl]; exact hj⟩
theorem ways_closed (he : Ends n m x y) : ∀ (d : Nat) (ws : Ways), n - ws.length = d → WaysOk n m x y lo hi a start ws → ∃ ws', WaysOk n m x y lo hi a start ws' ∧ Closed m x y lo hi a ws' ∧ ∀ v ∈ Keys ws, v ∈ Keys ws' := by
  intro d
  induction d using Nat.strongRecOn with
  | _ d ih =>
    intro ws hd W
    by_cases C : Closed m x y lo hi a ws
    · exact ⟨ws, W, C, fun _ h => h⟩
    · have C' : ∃ p q k s, p ∈ Keys ws ∧ Step m x y lo hi a p k s q ∧ q ∉ Keys ws := Classical.byContradiction fun hn => C fun p hp k s q st => Classical.byContradiction fun hq => hn ⟨p, q, k, s, hp, st, hq⟩
      obtain ⟨p, q, k, s, hp, st, hq⟩ := C'
      have W' := ways_more he W hp st hq
      have len := nodup_len W'.nd W'.inn
      have e1 : (Keys (ws ++ [(q, some (k, s, p))])).length = ws.length + 1 := by unfold Keys; simp
      have e2 : (ws ++ [(q, some (k, s, p))]).length = ws.length + 1 := by simp
      rw [e1] at len
      obtain ⟨ws', a1, a2, a3⟩ := ih (n - (ws.length + 1)) (by omega) _ (by rw [e2]) W'
      refine ⟨ws', a1, a2, fun v hv => a3 v ?_⟩
      unfold Keys at hv ⊢
      rw [List.map_append]
      exact List.mem_append_left _ hv
def starts (n : Nat) (f : Int → Bool) : Ways := ((List.range n).filter fun v : Nat => f (v : Int)).map fun v : Nat => ((v : Int), none)
theorem keys_starts {f : Int → Bool} : Keys (starts n f) = ((List.range n).filter fun v : Nat => f (v : Int)).map fun v => ((v : Nat) : Int) := by
  unfold Keys starts
  rw [List.map_map]
  rfl
theorem cast_nodup {l : List Nat} (h : l.Nodup) : (l.map fun v => ((v : Nat) : Int)).Nodup := by
  rw [List.nodup_iff_pairwise_ne, List.pairwise_map]
  exact List.Pairwise.imp (fun ne e => ne (by omega)) (List.nodup_iff_pairwise_ne.mp h)
theorem starts_ok (f : Int → Bool) : WaysOk n m x y lo hi a (fun v => f v = true) (starts n f) where
  nd := by
    rw [keys_starts]
    exact cast_nodup (List.Nodup.sublist List.filter_sublist List.nodup_range)
  inn := fun v hv => by
    rw [keys_starts] at hv
    obtain ⟨u, hu, rfl⟩ := List.mem_map.mp hv
    have := List.mem_range.mp (List.mem_filter.mp hu).1
    omega
  st := fun v hv => by
    obtain ⟨u, hu, e⟩ := List.mem_map.mp hv
    have e : ((u : Nat) : Int) = v := (Prod.mk.inj e).1
    rw [← e]
    exact (List.mem_filter.mp hu).2
  back := fun i v k s q h => by
    have hm := List.mem_iff_getElem?.mpr ⟨i, h⟩
    obtain ⟨u, _, e⟩ := List.mem_map.mp hm
    cases (Prod.mk.inj e).2
theorem starts_key {f : Int → Bool} {v : Nat} (hv : v < n) (h : f (v : Int) = true) : (v : Int) ∈ Keys (starts n f) := by
  rw [keys_starts]
  exact List.mem_map.mpr ⟨v, List.mem_filter.mpr ⟨List.mem_range.mpr hv, h⟩, rfl⟩
/-- the least of amounts along a way -/
theorem room_ex : ∀ (st : List (Nat × Int)) (most : Int) (f : Nat → Int → Int), 1 ≤ most → (∀ k s, (k, s) ∈ st → 1 ≤ f k s) → ∃ r, 1 ≤ r ∧ r ≤ most ∧ ∀ k s, (k, s) ∈ st → r ≤ f k s
  | [], most, f, h, _ => ⟨most, h, Int.le_refl _, fun _ _ z => nomatch z⟩
  | (k, s) :: st, most, f, h, hf => by
    obtain ⟨r, h1, h2, h3⟩ := room_ex st most f h fun k s z => hf k s (List.mem_cons_of_mem _ z)
    have h4 := hf k s List.mem_cons_self
    refine ⟨min r (f k s), by omega, by omega, fun k' s' z => ?_⟩
    rcases List.mem_cons.mp z with e | z
    · cases e; omega
    · have := h3 k' s' z; omega
/-- one more leading: what is left gets less -/
theorem led_less (he : Ends n m x y) (W : WaysOk n m x y lo hi a (fun v => exc m x y a v < 0) ws) {st : List (Nat × Int)} {v u r : Int} (p : Path ws st v u) (hr : 1 ≤ r) (h1 : r ≤ -(exc m x y a u)) (h2 : r ≤ exc m x y a v) :
    left n m x y (led a st r) < left n m x y a := by
  have ku := (p.begins W).2
  exact left_less (W.inn u ku) (W.inn v p.key) (by omega) h1 h2 fun w => led_exc W p r w a
theorem hoffman_from (he : Ends n m x y) (nb : ∀ T : Int → Bool, need m x y lo hi T ≤ 0) : ∀ (d : Nat) (a : Nat → Int), (left n m x y a).toNat = d → Within m lo hi a → ∃ b, Within m lo hi b ∧ Flow n m x y b := by
  intro d
  induction d using Nat.strongRecOn with
  | _ d ih =>
    intro a hd hw
    by_cases hf : Flow n m x y a
    · exact ⟨a, hw, hf⟩
    · have some0 : ∃ v : Nat, v < n ∧ exc m x y a v ≠ 0 := Classical.byContradiction fun hn => hf fun v hv => Classical.byContradiction fun z => hn ⟨v, hv, z⟩
      obtain ⟨ws, W, C, sub⟩ := ways_closed (lo := lo) (hi := hi) (a := a) he _ _ rfl (starts_ok (n := n) (m := m) (x := x) (y := y) (lo := lo) (hi := hi) (a := a) fun v => decide (exc m x y a v < 0))
      have W : WaysOk n m x y lo hi a (fun v => exc m x y a v < 0) ws := ⟨W.nd, W.inn, fun v hv => of_decide_eq_true (W.st v hv), W.back⟩
      by_cases e : ∃ v : Nat, v < n ∧ (v : Int) ∈ Keys ws ∧ 0 < exc m x y a v
      · obtain ⟨v, hv, kv, pv⟩ := e
        obtain ⟨st, u, p⟩ := path_key W kv
        have nu : exc m x y a u < 0 := (p.begins W).1
        obtain ⟨r, r1, r2, r3⟩ := room_ex st (min (-(exc m x y a u)) (exc m x y a v)) (roomAt lo hi a) (by omega) (room_pos W p)
        have less := led_less he W p r1 (by omega) (by omega)
        have nn : 0 ≤ left n m x y (led a st r) := left_nonneg
        exact ih _ (by omega) (led a st r) rfl (led_within W hw p (by omega) r3)
      · have b := bars he C hw (fun v hv hn => sub _ (starts_key hv (decide_eq_true hn))) (fun v hv kv => by
          rcases Int.lt_or_le 0 (exc m x y a v) with c | c
          · exact absurd ⟨v, hv, kv, c⟩ e
          · exact c) some0
        have := nb (Out ws)
        omega
/-- no lot bars: there is a flow -/
theorem hoffman (he : Ends n m x y) (hb : ∀ k, k < m → lo k ≤ hi k) (nb : ∀ T : Int → Bool, need m x y lo hi T ≤ 0) : ∃ b, Within m lo hi b ∧ Flow n m x y b :=
  hoffman_from he nb _ lo rfl fun k hk => ⟨Int.le_refl _, hb k hk⟩

/-! ### what an arrow's integer may be -/
/-- v is the greatest, by the arrow's own most or a lot that it leaves -/
def IsHi (m : Nat) (x y lo hi : Nat → Int) (k : Nat) (T : Int → Bool) (v : Int) : Prop := v = hi k ∨ (T (x k) = true ∧ T (y k) = false ∧ v = lo k - need m x y lo hi T)
def IsLo (m : Nat) (x y lo hi : Nat → Int) (k : Nat) (T : Int → Bool) (v : Int) : Prop := v = lo k ∨ (T (y k) = true ∧ T (x k) = false ∧ v = need m x y lo hi T + hi k)
theorem isHi_most {k : Nat} (hk : k < m) (he : Ends n m x y) {v : Int} (h : IsHi m x y lo hi k T v) (hw : Within m lo hi a) (hf : Flow n m x y a) : a k ≤ v := by
  rcases h with rfl | ⟨h1, h2, rfl⟩
  · exact (hw k hk).2
  · exact weakHi he hw hf hk h1 h2
theorem isLo_least {k : Nat} (hk : k < m) (he : Ends n m x y) {v : Int} (h : IsLo m x y lo hi k T v) (hw : Within m lo hi a) (hf : Flow n m x y a) : v ≤ a k := by
  rcases h with rfl | ⟨h1, h2, rfl⟩
  · exact (hw k hk).1
  · exact weakLo he hw hf hk h1 h2
/-- each integer between -/
theorem between (he : Ends n m x y) {k : Nat} (hk : k < m) {f g : Nat → Int} (hwf : Within m lo hi f) (hff : Flow n m x y f) (hwg : Within m lo hi g) (hfg : Flow n m x y g) {v : Int} (h1 : f k ≤ v) (h2 : v ≤ g k) :
    ∃ b, Within m lo hi b ∧ Flow n m x y b ∧ b k = v := by
  have q : ∃ b, Within m (fun j => if j = k then v else lo j) (fun j => if j = k then v else hi j) b ∧ Flow n m x y b := by
    refine hoffman he (fun j hj => ?_) fun T => ?_
    · have := hwf j hj
      show (if j = k then v else lo j) ≤ (if j = k then v else hi j)
      split <;> omega
    · have e : need m x y (fun j => if j = k then v else lo j) (fun j => if j = k then v else hi j) T = need m x y lo hi T + ((if (T (x k) && !T (y k)) = true then v - lo k else 0) - (if (T (y k) && !T (x k)) = true then v - hi k else 0)) := by
        unfold need
        rw [S_upd (j := k) hk (g := fun j => (if (T (x j) && !T (y j)) = true then lo j else 0) - (if (T (y j) && !T (x j)) = true then hi j else 0)) _ fun j hj c => by simp only [if_neg c]]
        simp only [if_true]
        split <;> split <;> omega
      rw [e]
      have w := weak he hwf hff T
      cases c1 : T (x k) <;> cases c2 : T (y k)
      · simp; exact w
      · have := weakLo he hwf hff (T := T) hk c2 c1; simp; omega
      · have := weakHi he hwg hfg (T := T) hk c1 c2; simp; omega
      · simp; exact w
  obtain ⟨b, hb, hf⟩ := q
  refine ⟨b, fun j hj => ?_, hf, ?_⟩
  · have z := hb j hj
    have := hwf k hk
    have := hwg k hk
    dsimp only at z
    by_cases c : j = k
    · subst c; rw [if_pos rfl, if_pos rfl] at z; omega
    · rw [if_neg c, if_neg c] at z; exact z
  · have z := hb k hk
    dsimp only at z
    rw [if_pos rfl, if_pos rfl] at z
    omega

/-! ### leading round an arrow -/
/-- amounts that are a flow but for what is led from u to v -/
structure Round (n m : Nat) (x y lo hi f : Nat → Int) (k : Nat) (u v : Int) (a : Nat → Int) (d : Int) : Prop where
  win : ∀ j, j < m → j ≠ k → lo j ≤ a j ∧ a j ≤ hi j
  at_ : a k = f k
  ex : ∀ w : Nat, w < n → exc m x y a w = (if u = (w : Int) then d else 0) - (if v = (w : Int) then d else 0)
/-- bounds in which the arrow is fixed -/
def fixB (lo f : Nat → Int) (k : Nat) : Nat → Int := fun j => if j = k then f k else lo j
theorem round_start {f : Nat → Int} (hw : Within m lo hi f) (hf : Flow n m x y f) (k : Nat) (u v : Int) : Round n m x y lo hi f k u v f 0 :=
  ⟨fun j hj _ => hw j hj, rfl, fun w hw => by rw [hf w hw]; split <;> split <;> omega⟩
theorem round_within {f : Nat → Int} {k : Nat} {u v d : Int} (R : Round n m x y lo hi f k u v a d) : Within m (fixB lo f k) (fixB hi f k) a := fun j hj => by
  unfold fixB
  by_cases c : j = k
  · subst c
    rw [if_pos rfl, if_pos rfl, R.at_]
    exact ⟨Int.le_refl _, Int.le_refl _⟩
  · rw [if_neg c, if_neg c]
    exact R.win j hj c
theorem round_led {f : Nat → Int} {k : Nat} {u v d r : Int} (hk : k < m) (R : Round n m x y lo hi f k u v a d) (W : WaysOk n m x y (fixB lo f k) (fixB hi f k) a (fun w => w = u) ws) {st : List (Nat × Int)} {u' : Int} (p : Path ws st v u') (h0 : 0 ≤ r)
    (hr : ∀ j s, (j, s) ∈ st → r ≤ roomAt (fixB lo f k) (fixB hi f k) a j s) : Round n m x y lo hi f k u v (led a st r) (d + r) := by
  have w := led_within W (round_within R) p h0 hr
  have hu : u' = u := (p.begins W).1
  subst hu
  refine ⟨fun j hj c => ?_, ?_, fun z hz => ?_⟩
  · have := w j hj
    unfold fixB at this
    rw [if_neg c, if_neg c] at this
    exact this
  · have := w k hk
    unfold fixB at this
    rw [if_pos rfl, if_pos rfl] at this
    omega
  · rw [led_exc W p r z a, R.ex z hz]
    split <;> split <;> omega
/-- the flow that it is when the arrow takes it back; along the arrow (from y to x it was led) -/
theorem round_flow1 {f : Nat → Int} {k : Nat} {d : Int} (hk : k < m) (R : Round n m x y lo hi f k (y k) (x k) a d) (h1 : lo k ≤ f k + d) (h2 : f k + d ≤ hi k) : Within m lo hi (upd1 a k d) ∧ Flow n m x y (upd1 a k d) := by
  refine ⟨fun j hj => ?_, fun w hw => ?_⟩
  · unfold upd1
    by_cases c : j = k
    · subst c; rw [if_pos rfl, R.at_]; exact ⟨h1, h2⟩
    · rw [if_neg c]; exact R.win j hj c
  · rw [exc_upd a hk, R.ex w hw]
    split <;> split <;> omega
theorem round_flow2 {f : Nat → Int} {k : Nat} {d : Int} (hk : k < m) (R : Round n m x y lo hi f k (x k) (y k) a d) (h1 : lo k ≤ f k - d) (h2 : f k - d ≤ hi k) : Within m lo hi (upd1 a k (-d)) ∧ Flow n m x y (upd1 a k (-d)) := by
  refine ⟨fun j hj => ?_, fun w hw => ?_⟩
  · unfold upd1
    by_cases c : j = k
    · subst c; rw [if_pos rfl, R.at_]; exact ⟨by omega, by omega⟩
    · rw [if_neg c]; exact R.win j hj c
  · rw [exc_upd a hk, R.ex w hw]
    split <;> split <;> omega
/-- where no way leads on: the greatest, the least -/
theorem round_hi {f : Nat → Int} {k : Nat} {d : Int} (he : Ends n m x y) (hk : k < m) (R : Round n m x y lo hi f k (y k) (x k) a d) (h1 : lo k ≤ f k + d) (h2 : f k + d ≤ hi k) (C : Closed m x y (fixB lo f k) (fixB hi f k) a ws)
    (ku : y k ∈ Keys ws) (kv : x k ∉ Keys ws) : IsHi m x y lo hi k (Out ws) (f k + d) := by
  have o1 := out_true.mpr kv
  have o2 := out_false.mpr ku
  refine .inr ⟨o1, o2, ?_⟩
  obtain ⟨w, fl⟩ := round_flow1 hk R h1 h2
  have z := net_flow he fl (Out ws)
  have e : net m x y (upd1 a k d) (Out ws) = need m x y lo hi (Out ws) + (f k + d - lo k) := by
    unfold net need
    rw [S_upd (j := k) hk (g := fun j => (if (Out ws (x j) && !Out ws (y j)) = true then lo j else 0) - (if (Out ws (y j) && !Out ws (x j)) = true then hi j else 0)) _ fun j hj c => ?_]
    · simp [o1, o2, upd1, R.at_]
    · have l := R.win j hj c
      simp only [upd1, if_neg c]
      cases c1 : Out ws (x j) <;> cases c2 : Out ws (y j)
      · simp
      · have := out_enter C hj c2 c1; simp only [fixB, if_neg c] at this; simp; omega
      · have := out_leave C hj c1 c2; simp only [fixB, if_neg c] at this; simp; omega
      · simp
  omega
theorem round_lo {f : Nat → Int} {k : Nat} {d : Int} (he : Ends n m x y) (hk : k < m) (R : Round n m x y lo hi f k (x k) (y k) a d) (h1 : lo k ≤ f k - d) (h2 : f k - d ≤ hi k) (C : Closed m x y (fixB lo f k) (fixB hi f k) a ws)
    (ku : x k ∈ Keys ws) (kv : y k ∉ Keys ws) : IsLo m x y lo hi k (Out ws) (f k - d) := by
  have o1 := out_true.mpr kv
  have o2 := out_false.mpr ku
  refine .inr ⟨o1, o2, ?_⟩
  obtain ⟨w, fl⟩ := round_flow2 hk R h1 h2
  have z := net_flow he fl (Out ws)
  have e : net m x y (upd1 a k (-d)) (Out ws) = need m x y lo hi (Out ws) - (f k - d - hi k) := by
    unfold net need
    rw [S_upd (j := k) hk (g := fun j => (if (Out ws (x j) && !Out ws (y j)) = true then lo j else 0) - (if (Out ws (y j) && !Out ws (x j)) = true then hi j else 0)) _ fun j hj c => ?_]
    · simp [o1, o2, upd1, R.at_]; omega
    · have l := R.win j hj c
      simp only [upd1, if_neg c]
      cases c1 : Out ws (x j) <;> cases c2 : Out ws (y j)
      · simp
      · have := out_enter C hj c2 c1; simp only [fixB, if_neg c] at this; simp; omega
      · have := out_leave C hj c1 c2; simp only [fixB, if_neg c] at this; simp; omega
      · simp
  omega
end
end KM

/-! part KEv -/
set_option Elab.async false
set_option linter.all false
set_option maxRecDepth 100000
set_option maxHeartbeats 4000000
/-! An evaluation layer over HandS's readings: what an expression gives, as data; a heap that only grows, but for one mutable list (the mill). -/
namespace KP
open PySem L2
abbrev Ex := Evl.Ex

/-! ### what may change -/
abbrev MM := Addr → HO → Prop
def Mt (u : HO) : Prop := (∃ xs, u = .lst xs) ∨ ∃ kvs, u = .dK kvs
/-- all stays, but for what M names: that stays of M's form -/
def R (M : MM) (H H' : Hp) : Prop := ∀ b u, H b = some u → ∃ u', H' b = some u' ∧ (u' = u ∨ (Mt u ∧ Mt u' ∧ M b u ∧ M b u'))
def Non : MM := fun _ _ => False
/-- the mill: a list of two whole numbers -/
def Mil (a : Addr) : MM := fun b u => b = a ∧ ∃ g x : Int, u = .lst [.int g, .int x]
def Also (M : MM) (p : Addr) : MM := fun b u => M b u ∨ b = p
theorem R.refl {M : MM} (H : Hp) : R M H H := fun _ u h => ⟨u, h, .inl rfl⟩
theorem R.trans {M : MM} {H H1 H2 : Hp} (a : R M H H1) (b : R M H1 H2) : R M H H2 := fun c u h => by
  obtain ⟨u1, h1, d1⟩ := a c u h
  obtain ⟨u2, h2, d2⟩ := b c u1 h1
  refine ⟨u2, h2, ?_⟩
  rcases d1 with rfl | ⟨m1, m2, p1, p2⟩
  · exact d2
  · rcases d2 with rfl | ⟨n1, n2, q1, q2⟩
    · exact .inr ⟨m1, m2, p1, p2⟩
    · exact .inr ⟨m1, n2, p1, q2⟩
theorem R.of {M : MM} {H H' : Hp} (e : Ex H H') : R M H H' := fun b u h => ⟨u, e b u h, .inl rfl⟩
theorem R.ex {H H' : Hp} (r : R Non H H') : Ex H H' := fun b u h => by
  obtain ⟨u', h', d⟩ := r b u h
  rcases d with rfl | ⟨_, _, z, _⟩
  · exact h'
  · exact z.elim
theorem R.wide {M M' : MM} {H H' : Hp} (f : ∀ b u, M b u → M' b u) (r : R M H H') : R M' H H' := fun b u h => by
  obtain ⟨u', h', d⟩ := r b u h
  refine ⟨u', h', ?_⟩
  rcases d with rfl | ⟨m1, m2, z, z'⟩
  · exact .inl rfl
  · exact .inr ⟨m1, m2, f _ _ z, f _ _ z'⟩
theorem R.non {M : MM} {H H' : Hp} (r : R Non H H') : R M H H' := R.of r.ex
theorem R.also {M : MM} {p : Addr} {H H' : Hp} (r : R M H H') : R (Also M p) H H' := r.wide fun _ _ => .inl
/-- what is not M's stays -/
theorem R.keep {M : MM} {H H' : Hp} {b : Addr} {u : HO} (r : R M H H') (hm : ¬ M b u) (h : H b = some u) : H' b = some u := by
  obtain ⟨u', h', d⟩ := r b u h
  rcases d with rfl | ⟨_, _, z, _⟩
  · exact h'
  · exact absurd z hm
theorem R.hard {M : MM} {H H' : Hp} {b : Addr} {u : HO} (r : R M H H') (hm : ¬ Mt u) (h : H b = some u) : H' b = some u := by
  obtain ⟨u', h', d⟩ := r b u h
  rcases d with rfl | ⟨z, _⟩
  · exact h'
  · exact absurd z hm
theorem R.new {M : MM} {H H1 : Hp} {p : Addr} {u : HO} (r : R M H H1) (h : H1 p = none) : R M H (upd H1 p u) := r.trans (R.of (Evl.Ex.new h))
theorem R.free {M : MM} {H H1 : Hp} {p : Addr} (r : R M H H1) (h : H1 p = none) : H p = none := by
  cases e : H p with
  | none => rfl
  | some u =>
    obtain ⟨u', h', _⟩ := r p u e
    rw [h] at h'; cases h'
/-- what H does not know may change -/
theorem R.mut {M : MM} {H H1 : Hp} {p : Addr} {u : HO} (r : R M H H1) (h : H p = none) : R M H (upd H1 p u) := fun b w e => by
  rw [upd_ne (ne_of_none e h)]; exact r b w e
/-- a list that changes, named -/
theorem R.chg {M : MM} {H H1 : Hp} {p : Addr} {u w : HO} (r : R M H H1) (h : H1 p = some w) (m1 : Mt w) (m2 : Mt u) (q1 : M p w) (q2 : M p u) : R M H (upd H1 p u) := r.trans fun b v e => by
  by_cases c : b = p
  · subst c
    rw [h] at e; cases e
    exact ⟨u, upd_same, .inr ⟨m1, m2, q1, q2⟩⟩
  · exact ⟨v, by rw [upd_ne c]; exact e, .inl rfl⟩
theorem R.chgA {M : MM} {H H1 : Hp} {p : Addr} {u w : HO} (r : R (Also M p) H H1) (h : H1 p = some w) (m1 : Mt w) (m2 : Mt u) : R (Also M p) H (upd H1 p u) := r.chg h m1 m2 (.inr rfl) (.inr rfl)
theorem mt_l {xs : List V} : Mt (.lst xs) := .inl ⟨_, rfl⟩
theorem mt_d {kvs : List (Key × V)} : Mt (.dK kvs) := .inr ⟨_, rfl⟩
/-- from H1 on p changes; H does not know p -/
theorem R.drop {M : MM} {H H1 H2 : Hp} {p : Addr} (r : R M H H1) (h : H p = none) (r2 : R (Also M p) H1 H2) : R M H H2 := fun b u e => by
  obtain ⟨u1, h1, d1⟩ := r b u e
  obtain ⟨u2, h2, d2⟩ := r2 b u1 h1
  have hb : b ≠ p := ne_of_none e h
  refine ⟨u2, h2, ?_⟩
  rcases d2 with rfl | ⟨n1, n2, q1, q2⟩
  · exact d1
  · have q1' : M b u1 := q1.resolve_right hb
    have q2' : M b u2 := q2.resolve_right hb
    rcases d1 with rfl | ⟨m1, m2, p1, p2⟩
    · exact .inr ⟨n1, n2, q1', q2'⟩
    · exact .inr ⟨m1, n2, p1, q2'⟩
theorem R.mill {a : Addr} {H H' : Hp} (r : R (Mil a) H H') {g x : Int} (h : H a = some (.lst [.int g, .int x])) : ∃ g' x' : Int, H' a = some (.lst [.int g', .int x']) := by
  obtain ⟨u', h', d⟩ := r a _ h
  rcases d with rfl | ⟨_, _, _, ⟨_, g', x', rfl⟩⟩
  · exact ⟨g, x, h'⟩
  · exact ⟨g', x', h'⟩

/-! ### data at a value: whole numbers, truths, None, texts and tuples of these -/
mutual
inductive It (K : PySem.W.Frag) (H : Hp) : V → PyData → Prop
  | non : It K H .non .none
  | bl (b : Bool) : It K H (.bl b) (.bool b)
  | int (i : Int) : It K H (.int i) (.int i)
  | str (x : PySem.Str) : It K H (.str x) (.str x)
  | tup {a : Addr} {xs : List V} {ds : List PyData} : SqT K H a xs → ItAll K H xs ds → It K H (.ref a) (.tuple ds)
inductive ItAll (K : PySem.W.Frag) (H : Hp) : List V → List PyData → Prop
  | nil : ItAll K H [] []
  | cons {v : V} {vs : List V} {d : PyData} {ds : List PyData} : It K H v d → ItAll K H vs ds → ItAll K H (v :: vs) (d :: ds)
end
section
variable {K : PySem.W.Frag} {M : MM} {H H' : Hp} {v : V} {d : PyData} {xs ys : List V} {ds es : List PyData}
theorem nm_t {xs : List V} : ¬ Mt (.tup xs) := fun h => by rcases h with ⟨_, h⟩ | ⟨_, h⟩ <;> cases h
theorem nm_f {ob : Obj} {u : HO} : ¬ Mt (.frz ob u) := fun h => by rcases h with ⟨_, h⟩ | ⟨_, h⟩ <;> cases h
theorem sqt_mono (r : R M H H') {a : Addr} (h : SqT K H a xs) : SqT K H' a xs := by
  rcases h with h | h
  · rcases h with h | ⟨ob, h⟩
    · exact Or.inl (Or.inl (r.hard nm_t h))
    · exact Or.inl (Or.inr ⟨ob, r.hard nm_f h⟩)
  · exact Or.inr h
theorem sql_mono (r : R M H H') {a : Addr} (ha : ∀ u, ¬ M a u) (h : SqL K H a xs) : SqL K H' a xs := by
  rcases h with h | h
  · rcases h with h | ⟨ob, h⟩
    · exact Or.inl (Or.inl (r.keep (ha _) h))
    · exact Or.inl (Or.inr ⟨ob, r.keep (ha _) h⟩)
  · exact Or.inr h
mutual
theorem It.mapT (f : ∀ a xs, SqT K H a xs → SqT K H' a xs) : ∀ (d : PyData) (v : V), It K H v d → It K H' v d
  | .none, _, .non => .non
  | .bool b, _, .bl _ => .bl b
  | .int i, _, .int _ => .int i
  | .str x, _, .str _ => .str x
  | .tuple ds, _, .tup h hs => .tup (f _ _ h) (ItAll.mapT f ds _ hs)
theorem ItAll.mapT (f : ∀ a xs, SqT K H a xs → SqT K H' a xs) : ∀ (ds : List PyData) (vs : List V), ItAll K H vs ds → ItAll K H' vs ds
  | [], _, .nil => .nil
  | d :: ds, _, .cons h hs => .cons (It.mapT f d _ h) (ItAll.mapT f ds _ hs)
end
theorem It.mono (r : R M H H') (h : It K H v d) : It K H' v d := It.mapT (fun _ _ q => sqt_mono r q) d v h
theorem ItAll.mono (r : R M H H') (h : ItAll K H xs ds) : ItAll K H' xs ds := ItAll.mapT (fun _ _ q => sqt_mono r q) ds xs h
/-- what is no tuple may change -/
theorem sqt_upd {a p : Addr} {u w : HO} (hp : H p = some w) (hn : ∀ ys, w ≠ .tup ys) (hf : ∀ ob ys, w ≠ .frz ob ys) (h : SqT K H a xs) : SqT K (upd H p u) a xs := by
  rcases h with h | h
  · rcases h with h | ⟨ob, h⟩
    · refine Or.inl (Or.inl ?_)
      rw [upd_ne (fun e => by subst e; rw [hp] at h; exact hn _ (Option.some.inj h))]; exact h
    · refine Or.inl (Or.inr ⟨ob, ?_⟩)
      rw [upd_ne (fun e => by subst e; rw [hp] at h; exact hf _ _ (Option.some.inj h))]; exact h
  · exact Or.inr h
theorem It.updL {p : Addr} {ys : List V} {u : HO} (hp : H p = some (.lst ys)) (h : It K H v d) : It K (upd H p u) v d := It.mapT (fun _ _ q => sqt_upd hp (fun _ z => nomatch z) (fun _ _ z => nomatch z) q) d v h
theorem ItAll.updL {p : Addr} {ys : List V} {u : HO} (hp : H p = some (.lst ys)) (h : ItAll K H xs ds) : ItAll K (upd H p u) xs ds := ItAll.mapT (fun _ _ q => sqt_upd hp (fun _ z => nomatch z) (fun _ _ z => nomatch z) q) ds xs h
theorem It.updD {p : Addr} {kvs : List (Key × V)} {u : HO} (hp : H p = some (.dK kvs)) (h : It K H v d) : It K (upd H p u) v d := It.mapT (fun _ _ q => sqt_upd hp (fun _ z => nomatch z) (fun _ _ z => nomatch z) q) d v h
theorem It.new {p : Addr} {u : HO} (hp : H p = none) (h : It K H v d) : It K (upd H p u) v d := It.mono (R.of (M := Non) (Evl.Ex.new hp)) h
theorem ItAll.new {p : Addr} {u : HO} (hp : H p = none) (h : ItAll K H xs ds) : ItAll K (upd H p u) xs ds := ItAll.mono (R.of (M := Non) (Evl.Ex.new hp)) h
theorem it_int {i : Int} (h : It K H v (.int i)) : v = .int i := by cases h; rfl
theorem it_bl {b : Bool} (h : It K H v (.bool b)) : v = .bl b := by cases h; rfl
theorem it_non (h : It K H v .none) : v = .non := by cases h; rfl
theorem it_tup (h : It K H v (.tuple ds)) : ∃ a xs, v = .ref a ∧ SqT K H a xs ∧ ItAll K H xs ds := by cases h with | tup h hs => exact ⟨_, _, rfl, h, hs⟩
theorem ItAll.len (h : ItAll K H xs ds) : xs.length = ds.length := by
  induction ds generalizing xs with
  | nil => cases h; rfl
  | cons d ds ih => cases h with | cons _ hs => rw [List.length_cons, List.length_cons, ih hs]
theorem ItAll.get : ∀ {ds : List PyData} {xs : List V} {i : Nat} {d : PyData}, ItAll K H xs ds → ds[i]? = some d → ∃ v, xs[i]? = some v ∧ It K H v d
  | [], _, _, _, _, e => by simp at e
  | d :: ds, _, 0, _, .cons h _, e => by simp at e; subst e; exact ⟨_, rfl, h⟩
  | d :: ds, _, i + 1, d', .cons _ hs, e => by
    obtain ⟨v, h1, h2⟩ := ItAll.get (i := i) (d := d') hs (by simpa using e)
    exact ⟨v, by simpa using h1, h2⟩
theorem ItAll.get' : ∀ {ds : List PyData} {xs : List V} {i : Nat} {v : V}, ItAll K H xs ds → xs[i]? = some v → ∃ d, ds[i]? = some d ∧ It K H v d
  | [], _, _, _, .nil, e => by simp at e
  | d :: ds, _, 0, _, .cons h _, e => by simp at e; subst e; exact ⟨_, rfl, h⟩
  | d :: ds, _, i + 1, v, .cons _ hs, e => by
    obtain ⟨d', h1, h2⟩ := ItAll.get' (i := i) (v := v) hs (by simpa using e)
    exact ⟨d', by simpa using h1, h2⟩
theorem ItAll.app : ∀ {xs ys : List V} {ds es : List PyData}, ItAll K H xs ds → ItAll K H ys es → ItAll K H (xs ++ ys) (ds ++ es)
  | _, _, _, _, .nil, h => h
  | _, _, _, _, .cons h hs, q => .cons h (ItAll.app hs q)
theorem ItAll.take : ∀ {xs : List V} {ds : List PyData} (n : Nat), ItAll K H xs ds → ItAll K H (xs.take n) (ds.take n)
  | _, _, 0, _ => .nil
  | _, _, n + 1, .nil => .nil
  | _, _, n + 1, .cons h hs => .cons h (ItAll.take n hs)
theorem ItAll.drop : ∀ {xs : List V} {ds : List PyData} (n : Nat), ItAll K H xs ds → ItAll K H (xs.drop n) (ds.drop n)
  | _, _, 0, h => h
  | _, _, n + 1, .nil => .nil
  | _, _, n + 1, .cons h hs => ItAll.drop n hs
theorem ItAll.set : ∀ {xs : List V} {ds : List PyData} (n : Nat), It K H v d → ItAll K H xs ds → ItAll K H (xs.set n v) (ds.set n d)
  | _, _, _, _, .nil => .nil
  | _, _, 0, q, .cons h hs => .cons q hs
  | _, _, n + 1, q, .cons h hs => .cons h (ItAll.set n q hs)
theorem ItAll.ints : ∀ {ns : List Int} {xs : List V}, ItAll K H xs (ns.map .int) → xs = ns.map .int
  | [], _, .nil => rfl
  | n :: ns, _, .cons h hs => by rw [List.map_cons, it_int h, ItAll.ints hs]
theorem ItAll.ofInts : ∀ (ns : List Int), ItAll K H (ns.map .int) (ns.map .int)
  | [] => .nil
  | n :: ns => .cons (.int n) (ItAll.ofInts ns)
theorem ItAll.atI {k : Int} (h : ItAll K H xs ds) (e : L2.atI ds k = some d) : ∃ v, L2.atI xs k = some v ∧ It K H v d := by
  unfold L2.atI at e ⊢
  rw [h.len]
  cases q : ixN ds.length k with
  | none => rw [q] at e; cases e
  | some j =>
    rw [q] at e
    exact h.get e
mutual
theorem It.dp : ∀ (d : PyData) (v : V), It K H v d → Dp K H v d
  | .none, _, .non => .non
  | .bool b, _, .bl _ => .bl b
  | .int i, _, .int _ => .int i
  | .str x, _, .str _ => .str x
  | .tuple ds, _, .tup h hs => .tup h (ItAll.dp ds _ hs)
theorem ItAll.dp : ∀ (ds : List PyData) (vs : List V), ItAll K H vs ds → DpAll K H vs ds
  | [], _, .nil => .nil
  | d :: ds, _, .cons h hs => .cons (It.dp d _ h) (ItAll.dp ds _ hs)
end
end

/-! ### what evaluates to what -/
def Ev (M : MM) (te : TE) (σ : L2.St) (H : Hp) (P : V → Hp → Prop) : Prop := ∀ H1, R M H H1 → ∀ Q : VK, (∀ v H2, R M H1 H2 → P v H2 → Q v H2) → te σ H1 Q
abbrev EV (M : MM) (te : TE) (σ : L2.St) (H : Hp) (v : V) : Prop := Ev M te σ H fun u _ => u = v
abbrev ED (K : PySem.W.Frag) (M : MM) (te : TE) (σ : L2.St) (H : Hp) (d : PyData) : Prop := Ev M te σ H fun v H2 => It K H2 v d
/-- a new list of data, a list -/
abbrev EL (K : PySem.W.Frag) (M : MM) (te : TE) (σ : L2.St) (H : Hp) (ds : List PyData) : Prop := ∀ H1, R M H H1 → ∀ Q : VK, (∀ p xs H2, H1 p = none → R M H1 H2 → H2 p = some (.lst xs) → ItAll K H2 xs ds → Q (.ref p) H2) → te σ H1 Q
def EvT (M : MM) (t : TT) (σ : L2.St) (H : Hp) (b : Bool) : Prop := ∀ H1, R M H H1 → ∀ Q : Bool → Hp → Prop, (∀ H2, R M H1 H2 → Q b H2) → t σ H1 Q
/-- a test whose answer is open -/
def EvN (M : MM) (t : TT) (σ : L2.St) (H : Hp) : Prop := ∀ H1, R M H H1 → ∀ Q : Bool → Hp → Prop, (∀ b H2, R M H1 H2 → Q b H2) → t σ H1 Q
def EvA (M : MM) (ta : TA) (σ : L2.St) (H : Hp) (P : List V → Hp → Prop) : Prop := ∀ H1, R M H H1 → ∀ Q : List V → Hp → Prop, (∀ vs H2, R M H1 H2 → P vs H2 → Q vs H2) → ta σ H1 Q
abbrev EA (K : PySem.W.Frag) (M : MM) (ta : TA) (σ : L2.St) (H : Hp) (ds : List PyData) : Prop := EvA M ta σ H fun vs H2 => ItAll K H2 vs ds
/-- stays so -/
def Stb (M : MM) (P : V → Hp → Prop) : Prop := ∀ v H H', R M H H' → P v H → P v H'
theorem stb_v {M : MM} {v : V} : Stb M (fun u _ => u = v) := fun _ _ _ _ h => h
theorem stb_d {K : PySem.W.Frag} {M : MM} {d : PyData} : Stb M (fun v H => It K H v d) := fun _ _ _ r h => h.mono r

section
variable {K : PySem.W.Frag} {M : MM} {σ : L2.St} {H H' : Hp} {ta tb te tx : TE} {t u : TT} {v x y z : V} {d e : PyData} {P P1 P2 P3 : V → Hp → Prop} {ds es : List PyData} {i j : Int}
theorem Ev.mono (r : R M H H') (h : Ev M te σ H P) : Ev M te σ H' P := fun H1 a Q q => h H1 (r.trans a) Q q
theorem EvT.mono {b : Bool} (r : R M H H') (h : EvT M t σ H b) : EvT M t σ H' b := fun H1 a Q q => h H1 (r.trans a) Q q
theorem EvN.mono (r : R M H H') (h : EvN M t σ H) : EvN M t σ H' := fun H1 a Q q => h H1 (r.trans a) Q q
theorem Ev.imp (h : Ev M te σ H P) (f : ∀ v H2, R M H H2 → P v H2 → P1 v H2) : Ev M te σ H P1 := fun H1 a Q q => h H1 a Q fun v H2 r p => q v H2 r (f v H2 (a.trans r) p)
theorem ev_var {k : Nat} (h : σ[k]? = some (some v)) : EV M (tVar k) σ H v := fun H1 r _ q => ⟨v, h, q v H1 (R.refl _) rfl⟩
theorem ed_var {k : Nat} (h : σ[k]? = some (some v)) (hi : It K H v d) : ED K M (tVar k) σ H d := fun H1 r _ q => ⟨v, h, q v H1 (R.refl _) (hi.mono r)⟩
theorem ed_i : ED K M (tC (.int i)) σ H (.int i) := fun H1 r _ q => q _ H1 (R.refl _) (.int i)
theorem ed_b {b : Bool} : ED K M (tC (.bl b)) σ H (.bool b) := fun H1 r _ q => q _ H1 (R.refl _) (.bl b)
theorem ed_n : ED K M (tC .non) σ H .none := fun H1 r _ q => q _ H1 (R.refl _) .non
theorem ed_s {w : PySem.Str} : ED K M (tC (.str w)) σ H (.str w) := fun H1 r _ q => q _ H1 (R.refl _) (.str w)
theorem ev_c : EV M (tC v) σ H v := fun H1 r _ q => q v H1 (R.refl _) rfl
/-- the general two-place rule -/
theorem ev_op {r : R2} (ha : Ev M ta σ H P1) (s1 : Stb M P1) (hb : Ev M tb σ H P2) (hr : ∀ x y H1, R M H H1 → P1 x H1 → P2 y H1 → ∀ Q : VK, (∀ v H2, R M H1 H2 → P v H2 → Q v H2) → r x y H1 Q) : Ev M (tOp r ta tb) σ H P := fun H1 r1 Q q =>
  ha H1 r1 _ fun x H2 r2 p1 => hb H2 (r1.trans r2) _ fun y H3 r3 p2 => hr x y H3 ((r1.trans r2).trans r3) (s1 x H2 H3 r3 p1) p2 Q fun v H4 r4 p => q v H4 ((r2.trans r3).trans r4) p
theorem ev_un {r : V → Hp → VK → Prop} (ha : Ev M ta σ H P1) (hr : ∀ x H1, R M H H1 → P1 x H1 → ∀ Q : VK, (∀ v H2, R M H1 H2 → P v H2 → Q v H2) → r x H1 Q) : Ev M (tUn r ta) σ H P := fun H1 r1 Q q =>
  ha H1 r1 _ fun x H2 r2 p1 => hr x H2 (r1.trans r2) p1 Q fun v H4 r4 p => q v H4 (r2.trans r4) p
theorem ed_I0 {g : Int → Int → Int} (ha : ED K M ta σ H (.int i)) (hb : ED K M tb σ H (.int j)) : ED K M (tOp (rI0 fun i j => .int (g i j)) ta tb) σ H (.int (g i j)) :=
  ev_op ha stb_d hb fun x y H1 r p1 p2 Q q => ⟨i, j, it_int p1, it_int p2, q _ H1 (R.refl _) (.int _)⟩
theorem ed_B0 {g : Int → Int → Bool} (ha : ED K M ta σ H (.int i)) (hb : ED K M tb σ H (.int j)) : ED K M (tOp (rI0 fun i j => .bl (g i j)) ta tb) σ H (.bool (g i j)) :=
  ev_op ha stb_d hb fun x y H1 r p1 p2 Q q => ⟨i, j, it_int p1, it_int p2, q _ H1 (R.refl _) (.bl _)⟩
theorem ed_I {C : Int → Int → Prop} {g : Int → Int → Int} (ha : ED K M ta σ H (.int i)) (hb : ED K M tb σ H (.int j)) (hc : C i j) : ED K M (tOp (rI C fun i j => .int (g i j)) ta tb) σ H (.int (g i j)) :=
  ev_op ha stb_d hb fun x y H1 r p1 p2 Q q => ⟨i, j, it_int p1, it_int p2, hc, q _ H1 (R.refl _) (.int _)⟩
theorem ed_U {g : Int → Int} (ha : ED K M ta σ H (.int i)) : ED K M (tUn (rU fun i => .int (g i)) ta) σ H (.int (g i)) :=
  ev_un ha fun x H1 r p1 Q q => ⟨i, it_int p1, q _ H1 (R.refl _) (.int _)⟩
/-- an item of a tuple -/
theorem ed_ix (ha : ED K M ta σ H (.tuple ds)) (hb : ED K M tb σ H (.int i)) (hd : L2.atI ds i = some d) : ED K M (tOp (rIx K) ta tb) σ H d :=
  ev_op ha stb_d hb fun x y H1 r p1 p2 Q q => by
    obtain ⟨a, xs, rfl, hs, hall⟩ := it_tup p1
    obtain ⟨v, hv, hi⟩ := hall.atI hd
    exact Or.inr (Or.inl ⟨a, xs, i, v, rfl, it_int p2, hs, hv, q v H1 (R.refl _) hi⟩)
/-- an item of a list at a known place -/
theorem ed_ixL {a : Addr} {xs : List V} (ha : EV M ta σ H (.ref a)) (hb : ED K M tb σ H (.int i)) (hs : SqL K H a xs) (hm : ∀ u, ¬ M a u) (hall : ItAll K H xs ds) (hd : L2.atI ds i = some d) : ED K M (tOp (rIx K) ta tb) σ H d :=
  ev_op ha stb_v hb fun x y H1 r p1 p2 Q q => by
    subst p1
    obtain ⟨v, hv, hi⟩ := hall.atI hd
    exact Or.inl ⟨a, xs, i, v, rfl, it_int p2, sql_mono r hm hs, hv, q v H1 (R.refl _) (hi.mono r)⟩
theorem ea_nil : EA K M tNil σ H [] := fun H1 r _ q => q [] H1 (R.refl _) .nil
theorem ea_cons {tr : TA} (h : ED K M te σ H d) (hr : EA K M tr σ H ds) : EA K M (tCons te tr) σ H (d :: ds) := fun H1 r _ q =>
  h H1 r _ fun v H2 r2 p => hr H2 (r.trans r2) _ fun vs H3 r3 ps => q _ H3 (r2.trans r3) (.cons (p.mono r3) ps)
/-- arguments of any form -/
theorem va_nil : EvA M tNil σ H fun vs _ => vs = [] := fun H1 r _ q => q [] H1 (R.refl _) rfl
theorem va_cons {tr : TA} {PL : List V → Hp → Prop} (h : Ev M te σ H P1) (s1 : Stb M P1) (hr : EvA M tr σ H PL) : EvA M (tCons te tr) σ H (fun vs H2 => ∃ v r, vs = v :: r ∧ P1 v H2 ∧ PL r H2) := fun H1 r _ q =>
  h H1 r _ fun v H2 r2 p => hr H2 (r.trans r2) _ fun vs H3 r3 ps => q _ H3 (r2.trans r3) ⟨v, vs, rfl, s1 v H2 H3 r3 p, ps⟩
theorem small {n : Nat} (h : n ≤ 100000) : n ≤ sizeLine := Nat.le_trans h (by decide)
theorem smallL {n : Nat} (h : n < 100000) : n < sizeLine := Nat.lt_of_lt_of_le h (by decide)
theorem ed_tup {ta : TA} (h : EA K M ta σ H ds) (hl : ds.length ≤ 100000) : ED K M (tTup ta) σ H (.tuple ds) := fun H1 r _ q =>
  h H1 r _ fun vs H2 r2 p => ⟨small (by rw [p.len]; exact hl), fun a ha => q _ _ (r2.new ha) (.tup (.inl (.inl upd_same)) (p.new ha))⟩
theorem el_lst {ta : TA} (h : EA K M ta σ H ds) (hl : ds.length ≤ 100000) : EL K M (tLst ta) σ H ds := fun H1 r _ q =>
  h H1 r _ fun vs H2 r2 p => ⟨small (by rw [p.len]; exact hl), fun a ha => q _ vs _ (r2.free ha) (r2.new ha) upd_same (p.new ha)⟩
/-- a + b of tuples -/
theorem ed_cat (ha : ED K M ta σ H (.tuple ds)) (hb : ED K M tb σ H (.tuple es)) (hl : ds.length + es.length ≤ 100000) : ED K M (tOp (rCatA K) ta tb) σ H (.tuple (ds ++ es)) :=
  ev_op ha stb_d hb fun x y H1 r p1 p2 Q q => by
    obtain ⟨a, xs, rfl, hs, hall⟩ := it_tup p1
    obtain ⟨b, ys, rfl, hs2, hall2⟩ := it_tup p2
    have l1 := hall.len
    have l2 := hall2.len
    refine ⟨a, b, xs, ys, rfl, rfl, hs, hs2, small (by omega), fun e => ?_, fun _ e => ?_, fun _ _ p hp => ?_⟩
    · subst e
      have : ds = [] := List.eq_nil_of_length_eq_zero (by simpa using l1.symm)
      subst this
      exact q _ H1 (R.refl _) (.tup hs2 hall2)
    · subst e
      have : es = [] := List.eq_nil_of_length_eq_zero (by simpa using l2.symm)
      subst this
      exact q _ H1 (R.refl _) (by rw [List.append_nil]; exact .tup hs hall)
    · exact q _ _ ((R.refl _).new hp) (.tup (.inl (.inl upd_same)) ((hall.app hall2).new hp))
/-- tests -/
theorem et_test {b : Bool} (h : ED K M te σ H (.bool b)) : EvT M (tTest te) σ H b := fun H1 r _ q => h H1 r _ fun v H2 r2 p => ⟨b, it_bl p, q H2 r2⟩
theorem et_B {b : Bool} (h : ED K M te σ H (.bool b)) : EvT M (tB te) σ H b := fun H1 r _ q => h H1 r _ fun v H2 r2 p => ⟨b, it_bl p, q H2 r2⟩
theorem et_and {a b : Bool} (h1 : EvT M t σ H a) (h2 : a = true → EvT M u σ H b) : EvT M (tAnd t u) σ H (a && b) := fun H1 r Q q => h1 H1 r _ fun H2 r2 => by
  cases a with
  | true => exact h2 rfl H2 (r.trans r2) Q fun H3 r3 => q H3 (r2.trans r3)
  | false => exact q H2 r2
theorem et_or {a b : Bool} (h1 : EvT M t σ H a) (h2 : a = false → EvT M u σ H b) : EvT M (tOr t u) σ H (a || b) := fun H1 r Q q => h1 H1 r _ fun H2 r2 => by
  cases a with
  | true => exact q H2 r2
  | false => exact h2 rfl H2 (r.trans r2) Q fun H3 r3 => q H3 (r2.trans r3)
theorem et_not {a : Bool} (h1 : EvT M t σ H a) : EvT M (tNot t) σ H (!a) := fun H1 r _ q => h1 H1 r _ fun H2 r2 => q H2 r2
theorem et_is {a b : Bool} (h : EvT M t σ H a) (e : a = b) : EvT M t σ H b := e ▸ h
theorem ed_is (h : ED K M te σ H d) (q : d = e) : ED K M te σ H e := q ▸ h
theorem ed_andV {a b : Bool} (h1 : ED K M ta σ H (.bool a)) (h2 : a = true → ED K M tb σ H (.bool b)) : ED K M (tAndV ta tb) σ H (.bool (a && b)) := fun H1 r Q q => h1 H1 r _ fun v H2 r2 p => ⟨a, it_bl p, by
  cases a with
  | true => exact h2 rfl H2 (r.trans r2) Q fun v H3 r3 => q v H3 (r2.trans r3)
  | false => exact q _ H2 r2 (.bl false)⟩
theorem ed_notV {a : Bool} (h1 : ED K M ta σ H (.bool a)) : ED K M (tNotV ta) σ H (.bool (!a)) := fun H1 r _ q => h1 H1 r _ fun v H2 r2 p => ⟨a, it_bl p, q _ H2 r2 (.bl _)⟩
theorem ev_if {b : Bool} (h : EvT M t σ H b) (h1 : b = true → Ev M ta σ H P) (h2 : b = false → Ev M tb σ H P) : Ev M (tIf t ta tb) σ H P := fun H1 r Q q => h H1 r _ fun H2 r2 => by
  cases b with
  | true => exact h1 rfl H2 (r.trans r2) Q fun v H3 r3 => q v H3 (r2.trans r3)
  | false => exact h2 rfl H2 (r.trans r2) Q fun v H3 r3 => q v H3 (r2.trans r3)
theorem ed_chain {g g' : Int → Int → Bool} {k : Int} {tc : TE} (ha : ED K M ta σ H (.int i)) (hb : ED K M tb σ H (.int j)) (hc : ED K M tc σ H (.int k)) :
    ED K M (tChain (rI0 fun i j => .bl (g i j)) (rI0 fun i j => .bl (g' i j)) ta tb tc) σ H (.bool (g i j && g' j k)) := fun H1 r Q q =>
  ha H1 r _ fun x H2 r2 p1 => hb H2 (r.trans r2) _ fun y H3 r3 p2 => ⟨i, j, it_int p1, it_int p2, g i j, rfl, by
    cases e : g i j with
    | true => exact hc H3 ((r.trans r2).trans r3) _ fun w H4 r4 p3 => ⟨j, k, it_int p2, it_int p3, q _ H4 ((r2.trans r3).trans r4) (by rw [e]; exact .bl _)⟩
    | false => exact q _ H3 (r2.trans r3) (by rw [e]; exact .bl _)⟩
/-- data compared -/
theorem ed_eqD (ha : ED K M ta σ H d) (hb : ED K M tb σ H e) (s1 : SeqAt.shaped d = true) (s2 : SeqAt.shaped e = true) : ED K M (tOp (rEqD K) ta tb) σ H (.bool (PyData.eqv d e)) :=
  ev_op ha stb_d hb fun x y H1 r p1 p2 Q q => ⟨d, e, p1.dp, p2.dp, s1, s2, q _ H1 (R.refl _) (.bl _)⟩
theorem ed_neD (ha : ED K M ta σ H d) (hb : ED K M tb σ H e) (s1 : SeqAt.shaped d = true) (s2 : SeqAt.shaped e = true) : ED K M (tOp (rNeD K) ta tb) σ H (.bool (!PyData.eqv d e)) :=
  ev_op ha stb_d hb fun x y H1 r p1 p2 Q q => ⟨d, e, p1.dp, p2.dp, s1, s2, q _ H1 (R.refl _) (.bl _)⟩
theorem eqv_int {i j : Int} : PyData.eqv (.int i) (.int j) = decide (i = j) := by
  first
    | rfl
    | simp [PyData.eqv]
/-- ints among ints -/
theorem inV_ints (k : Int) (ns : List Int) : inV (.int k) (ns.map .int) = decide (k ∈ ns) := by
  unfold inV
  rw [List.any_map]
  induction ns with
  | nil => simp
  | cons n ns ih =>
    rw [List.any_cons, ih]
    have e : (fun y => eqV y (V.int k)) (V.int n) = decide (n = k) := by
      show eqV (V.int n) (V.int k) = _
      first
        | rfl
        | simp [eqV]
    simp only [Function.comp] at e ⊢
    rw [e]
    by_cases c : n = k
    · subst c; simp
    · have c' : ¬ k = n := fun z => c z.symm
      simp [c, c']
theorem flat_ints (ns : List Int) : (ns.map V.int).all flatV = true := by
  rw [List.all_eq_true]
  intro x hx
  obtain ⟨n, _, rfl⟩ := List.mem_map.mp hx
  rfl
theorem ed_in {ns : List Int} (ha : ED K M ta σ H (.int i)) (hb : ED K M tb σ H (.tuple (ns.map .int))) : ED K M (tOp (rIn K false) ta tb) σ H (.bool (decide (i ∈ ns))) :=
  ev_op ha stb_d hb fun x y H1 r p1 p2 Q q => by
    obtain ⟨a, xs, rfl, hs, hall⟩ := it_tup p2
    obtain rfl := hall.ints
    obtain rfl := it_int p1
    refine ⟨a, _, rfl, .inr hs, rfl, flat_ints ns, ?_⟩
    show Q (.bl (inV (.int i) (ns.map .int))) H1
    rw [inV_ints]
    exact q _ H1 (R.refl _) (.bl _)
theorem ed_notin {ns : List Int} (ha : ED K M ta σ H (.int i)) (hb : ED K M tb σ H (.tuple (ns.map .int))) : ED K M (tOp (rIn K true) ta tb) σ H (.bool (!decide (i ∈ ns))) :=
  ev_op ha stb_d hb fun x y H1 r p1 p2 Q q => by
    obtain ⟨a, xs, rfl, hs, hall⟩ := it_tup p2
    obtain rfl := hall.ints
    obtain rfl := it_int p1
    refine ⟨a, _, rfl, .inr hs, rfl, flat_ints ns, ?_⟩
    show Q (.bl (!inV (.int i) (ns.map .int))) H1
    rw [inV_ints]
    exact q _ H1 (R.refl _) (.bl _)
theorem ev_cb {r : List V → Hp → VK → Prop} {ta : TA} {PL : List V → Hp → Prop} (h : EvA M ta σ H PL) (hr : ∀ vs H1, R M H H1 → PL vs H1 → ∀ Q : VK, (∀ v H2, R M H1 H2 → P v H2 → Q v H2) → r vs H1 Q) : Ev M (tCB r ta) σ H P := fun H1 r1 Q q =>
  h H1 r1 _ fun vs H2 r2 p => hr vs H2 (r1.trans r2) p Q fun v H3 r3 pv => q v H3 (r2.trans r3) pv
theorem ev_call {sp : Sp} {E : XK} {ta : TA} {PL : List V → Hp → Prop} (h : EvA M ta σ H PL) (hs : ∀ vs H1, R M H H1 → PL vs H1 → ∀ Q : VK, (∀ v H2, R M H1 H2 → P v H2 → Q v H2) → sp vs H1 Q E) : Ev M (tCall sp [] E ta) σ H P := fun H1 r1 Q q =>
  h H1 r1 _ fun vs H2 r2 p => by
    show sp (vs ++ []) H2 Q E
    rw [List.append_nil]
    exact hs vs H2 (r1.trans r2) p Q fun v H3 r3 pv => q v H3 (r2.trans r3) pv
/-- a call of a def whose promise is of data -/
def RetD (K : PySem.W.Frag) (d : PyData) (H : Hp) (Q : VK) : Prop := ∀ v H2, Ex H H2 → It K H2 v d → Q v H2
theorem RetD.go {Q : VK} (k : RetD K d H Q) (e : Ex H H') (h : It K H' v d) : Q v H' := k v H' e h
end
end KP

/-! part KRa -/
set_option Elab.async false
set_option linter.all false
set_option maxRecDepth 100000
set_option maxHeartbeats 4000000
/-! Rules with the written part named, a def by its name, any of ints, an item of a list as xs[i] += .. reads it. -/
namespace KP
open PySem PySem.Spec PyProof.Rows L2
section
variable {X : Cx} {K : PySem.W.Frag}
theorem ix_K (h : X.K = K := by rfl) : IxR X (rIx K) := h ▸ ix_seq
theorem sl_tup_K (h : X.K = K := by rfl) : SlR X (rSlA K) := h ▸ sl_tupA
theorem op_cat_K (h : X.K = K := by rfl) : OpR X (binaryOp .Add) (rCatA K) := h ▸ op_catA
theorem op_in_K (h : X.K = K := by rfl) : OpR X (compareOp .In) (rIn K false) := h ▸ op_in_seq
theorem op_notin_K (h : X.K = K := by rfl) : OpR X (compareOp .NotIn) (rIn K true) := h ▸ op_notIn_seq
theorem op_eq_K (hu : X.A.units + 64 < cLine) (h : X.K = K := by rfl) : OpR X (compareOp .Eq) (rEqD K) := h ▸ op_eqD hu
theorem op_ne_K (hu : X.A.units + 64 < cLine) (h : X.K = K := by rfl) : OpR X (compareOp .NotEq) (rNeD K) := h ▸ op_neD hu
theorem op_notinD_K (hu : X.A.units + 65 < cLine) (h : X.K = K := by rfl) : OpR X (compareOp .NotIn) (rNotInD K) := h ▸ op_notInD hu
abbrev rLen : PySem.W.Frag → List V → Hp → VK → Prop := Evl.rLenS
abbrev rList : PySem.W.Frag → List V → Hp → VK → Prop := Evl.rListS
def rTuple (K : PySem.W.Frag) : List V → Hp → VK → Prop := fun xs H Q => ∃ p ys, xs = [.ref p] ∧ ((SqL K H p ys ∧ ∀ l, H l = none → Q (.ref l) (upd H l (.tup ys))) ∨ (SqT K H p ys ∧ Q (.ref p) H))
theorem call_len_K (h : X.K = K := by rfl) : CallR X (.builtin "len") (rLen K) := h ▸ call_len_seq
theorem call_list_K (h : X.K = K := by rfl) : CallR X (.type "list") (rList K) := h ▸ call_list_of
theorem call_tuple_K (h : X.K = K := by rfl) : CallR X (.type "tuple") (rTuple K) := h ▸ call_tuple_of
theorem call_isi_K (h : X.K = K := by rfl) : CallR X (.builtin "isinstance") (rIsi K) := h ▸ call_isi
theorem cr_all_K (hc : X.calm = true) (h : X.K = K := by rfl) : CallR X (.builtin "all") (rAll K) := h ▸ cr_all hc
theorem pi_tup_K {tg l : Expr} {tl : TE} (hl : PE X l tl) (h : X.K = K := by rfl) : PI X tg l (iTup K tl) := h ▸ pi_tup hl
theorem pi_list_K {tg l : Expr} {tl : TE} (hl : PE X l tl) (h : X.K = K := by rfl) : PI X tg l (iList K tl) := h ▸ pi_list hl
theorem pg_tup_K {es : List Expr} {k : Nat} {t : TGs} {n : Nat} {pos : Pos} (hc : X.calm = true) (hg : PGs X es t) (h : X.K = K := by rfl)
    (hn : (assignEach es X.env).length = n := by rfl) (hst : (assignEach es X.env).findIdx? (·.1) = none := by rfl) : PG X (.Tuple es k pos) (gTup K n t) := h ▸ pg_tup hc hg hn hst
theorem pe_gl {x : Str} {i : Int} {pos : Pos} (hg : Gl X x) (hm : ∃ t, X.mg x = some (.int i t)) (hd : (x == ("__debug__" : Str)) = false := by decide) : PE X (.Name x pos) (tC (.int i)) := by
  obtain ⟨t, h⟩ := hm
  exact pe_glob hg h ⟨t, rfl⟩ hd

/-! ### a def by its name -/
/-- a call x(e, ..) without stars -/
structure Plainly (X : Cx) (x : Str) (e : Expr) (es : List Expr) (pos : Pos) : Prop where
  name : (x == ("__debug__" : Str)) = false
  each : starEach (e :: es) X.env = (false, eval e X.env) :: starEach es X.env
  rest : (backTo pos (starEach es X.env)).any (·.1) = false
structure Cl (P : Program) (w : World) (K : PySem.W.Frag) (mg : Str → Option Value) (base : Heap) (k : Nat) (x : Str) (sp : Sp) : Prop where
  ex : ∃ (f : Addr) (fd : FuncData) (ps : List Str), FnOk P w K mg base CX0 k f fd ps sp ∧ mg x = some (.ref f) ∧ PySem.W.keepIn K (.ref f) = true ∧ Binds K fd ps []
theorem pe_k {k j : Nat} {x : Str} {sp : Sp} {p pos : Pos} {e : Expr} {es : List Expr} {t : TA} (c : Cl X.prog X.w X.K X.mg X.base k x sp) (hr : Room j X.A) (hk : k ≤ j) (hg : Gl X x) (ha : PA X (e :: es) t)
    (pl : Plainly X x e es pos := by exact ⟨by decide, by rfl, by rfl⟩) : PE X (.Call (.Name x p) (e :: es) [] pos) (tCall sp [] E0 t) :=
  let ⟨_, _, _, F, m, kp, b⟩ := c.ex
  pe_call F (hr.mono hk) hg m kp b .nil pass0 ha pl.name pl.each pl.rest

/-! ### any of ints -/
theorem truth_ints {prog : Program} {w : World} {A : Around} {ns : List Int} {its : List Value} (r : Vals (ns.map V.int) its) :
    TruthOf prog w A (fun i v => its.toArray[i]? = some v) (fun i => ns.getD i 0 != 0) := fun i v s Q E at_ q => by
  have iv : its[i]? = some v := (List.getElem?_toArray ..).symm.trans at_
  have lt : i < ns.length := by
    have := (List.getElem?_eq_some_iff.mp iv).1
    rwa [← r.length, List.length_map] at this
  obtain ⟨u, z, tk, rfl⟩ := r.get (x := .int (ns.getD i 0)) (by rw [List.getElem?_map, List.getD_eq_getElem?_getD, List.getElem?_eq_getElem lt]; rfl)
  cases iv.symm.trans z
  exact PyProof.Rows.truthy_int q
theorem any_rangeI : ∀ ns : List Int, (List.range ns.length).any (fun i => ns.getD i 0 != 0) = ns.any (· != 0)
  | [] => rfl
  | b :: bs => by
    rw [List.length_cons, List.range_succ_eq_map, List.any_cons, List.any_map, List.any_cons, ← any_rangeI bs]
    all_goals rfl
def rAnyI (K : PySem.W.Frag) : List V → Hp → VK → Prop := fun vs H Q => ∃ (a : Addr) (ns : List Int), vs = [V.ref a] ∧ SqL K H a (ns.map V.int) ∧ Q (.bl (ns.any (· != 0))) H
theorem cr_anyI (hc : X.calm = true) : CallR X (.builtin "any") (rAnyI X.K) := by
  rintro pins s σ H _ us Q I r ⟨a, ns, rfl, sq, q⟩
  obtain ⟨its, rv, lst, _⟩ := I.list sq
  have len : its.toArray.size = ns.length := by rw [List.size_toArray, ← rv.length, List.length_map]
  rw [Vals.ref1 r]
  refine call_any_walk (iter_any lst.isList ?_)
  rintro _ rfl st apart
  refine ⟨_, _, _, _, _, _, _, rfl, Walks.list (A := X.A.in1) (I.ok.hd hc) _ a apart its.toArray, st, truth_ints rv, fun h' tk keep => ⟨.bl _, H, ?_, by rw [len, any_rangeI]; rfl, q⟩⟩
  exact I.kept fun b o z => keep b o (fun m => Nat.ne_of_lt (Heap.lt_size z) (List.mem_singleton.mp m)) (Heap.get?_push_of_some _ z)
theorem cr_anyI_K (hc : X.calm = true) (h : X.K = K := by rfl) : CallR X (.builtin "any") (rAnyI K) := h ▸ cr_anyI hc

/-! ### xs[i] as xs[i] += e reads it -/
def rGetL (K : PySem.W.Frag) : V → V → Hp → VK → Prop := fun o i H Q => ∃ (p : Addr) (xs : List V) (j : Nat) (v : V), o = .ref p ∧ i = .int (j : Int) ∧ SqL K H p xs ∧ xs[j]? = some v ∧ Q v H
theorem get_list_K (h : X.K = K := by rfl) : PGet X (rGetL K) := by
  subst h
  rintro pins s σ H _ _ ov _ Q I ro ri ⟨p, xs, j, v, rfl, rfl, sq, at_, q⟩
  obtain rfl : ov = .ref p := ro
  obtain ⟨tk, rfl⟩ := ri
  obtain ⟨its, rv, lst, few⟩ := I.list sq
  obtain ⟨u, iu, ru⟩ := rv.get at_
  have lt := (List.getElem?_eq_some_iff.mp at_).1
  have far := line63
  exact wpAny_getItem_list lst.isList (Int.natCast_nonneg j) (by omega) (x := u) (by simpa using iu) ⟨v, H, I, ru, q⟩
end
end KP

/-! part KRb -/
set_option Elab.async false
set_option linter.all false
set_option maxRecDepth 100000
set_option maxHeartbeats 4000000
/-! enumerate of a tuple, zip of a tuple and a list. Both hand out new tuples (WalksT): one theorem makes of such a walk the turns of a loop. -/
namespace KP
open PySem PySem.Spec PyProof.Rows L2
/-- each turn lays a new tuple; src H n: n turns in all; row i H xs: what the tuple of turn i holds -/
def ItNew (src : Hp → Nat → Prop) (row : Nat → Hp → List V → Prop) : L2.It where
  go i H := ∃ n, src H n ∧ i < n
  yld i H v H' := ∃ T xs, v = .ref T ∧ H T = none ∧ H' = upd H T (.tup xs) ∧ row i H xs
  stop i H := src H i
/-- at turn i of n: a walk of the library goes on from here, and its tuples are as row says -/
structure Hands (P : Program) (w : World) (A : Around) (ch : List Addr) (e : Addr) (tn : Nat → Heap → Prop) (i n : Nat) (row : List V → Prop) (h : Heap) : Prop where
  ex : ∃ fp wr Pt St Mid, WalksT P w A e fp wr n Pt St Mid ∧ (∀ b ∈ wr, b ∈ ch) ∧ St i h ∧ (∀ h2, St (i + 1) h2 → tn (i + 1) h2) ∧
    ∀ vals, Pt i vals → ∃ xs, xs.length ≤ sizeLine ∧ Vals xs vals.toList ∧ row xs
section
variable {P : Program} {w : World} {K : PySem.W.Frag} {src : Hp → Nat → Prop} {row : Nat → Hp → List V → Prop} {ch : List Addr} {e : Addr} {tn : Nat → Heap → Prop} {elts : List Expr} {kk : Nat} {tpos : Pos}
theorem turn_new (mem : e ∈ ch) (obj : ∀ i h, tn i h → ∀ b ∈ ch, ∃ o, h.get? b = some o ∧ ∀ v, o.data ≠ .cell v)
    (keep : ∀ i h h', tn i h → (∀ b ∈ ch, ∀ o, h.get? b = some o → h'.get? b = some o) → tn i h')
    (self : ∀ (A : Around) (i : Nat) (s : Shared) (Q E : Value → Shared → Prop), tn i s.heap → Q (.ref e) s → wpAny (model P w) A (pyIter (.ref e)) Q E s)
    (hands : ∀ X : Cx, X.prog = P → X.w = w → X.K = K → X.calm = true → ∀ pins s σ H, Inv X pins σ H s → ∀ i n, tn i s.heap → src H n → i ≤ n → Hands P w X.A ch e tn i n (row i H) s.heap) :
    Turn P w K (.Tuple elts kk tpos) (ItNew src row) ch e tn where
  mem := mem
  obj := obj
  keep := keep
  self := self
  item := by
    rintro X rfl rfl rfl calm i pins s σ H E I own st ⟨n, sr, lt⟩
    obtain ⟨fp, wr, Pt, St, Mid, W, sub, here, on, give⟩ := (hands X rfl rfl rfl calm pins s σ H I i n st sr (Nat.le_of_lt lt)).ex
    refine W.item i s _ _ lt here fun T vals h1 tk pv new tup mid kp => ⟨_, rfl, W.go elts kk tpos i T { s with heap := h1, toks := tk } _ _ mid fun h2 st2 kp2 => ?_⟩
    obtain ⟨xs, few, rv, says⟩ := give vals pv
    have stays : ∀ b o, b ∉ ch → s.heap.get? b = some o → h2.get? b = some o := fun b o out z => kp2 b o (fun m => out (sub b m)) (kp b o (fun m => out (sub b m)) z)
    have tup2 : h2.IsTuple T vals := tup.at fun o => kp2 T o (W.apart i T h1 mid)
    refine ⟨.ref T, _, I.turnedNew (t' := tk) (ob := .tup xs) stays own new ⟨few, vals.toList, rv, by rw [Array.toArray_toList]; exact tup2⟩, rfl, ⟨T, xs, rfl, I.hok.fresh new, rfl, says⟩, on h2 st2, fun b hb => ?_⟩
    obtain ⟨o, z, _⟩ := obj i _ st b hb
    rw [upd_ne (Nat.ne_of_lt (Nat.lt_of_lt_of_le (Heap.lt_size z) new))]
    exact (own b hb).1
  done := by
    rintro X rfl rfl rfl calm i pins s σ H E I own st sr
    obtain ⟨fp, wr, Pt, St, Mid, W, sub, here, _⟩ := (hands X rfl rfl rfl calm pins s σ H I i i st sr (Nat.le_refl i)).ex
    exact W.done s _ _ here fun h1 tk kp => ⟨rfl, I.turnedL (t' := tk) (fun b o out => kp b o fun m => out (sub b m)) own⟩
/-- an iterator that was just laid, with all that it needs, behind what stood -/
theorem pie_new {X : Cx} {pins : List (Addr × Obj)} {σ : L2.St} {H : Hp} {s : Shared} {h' : Heap} {tg : Expr} {J : L2.It} {R : L2.It → Hp → Prop} (I : Inv X pins σ H s) (kp : ∀ b o, s.heap.get? b = some o → h'.get? b = some o)
    (T : Turn X.prog X.w X.K tg J ch e tn) (st : tn 0 h') (new : ∀ b ∈ ch, s.heap.objs.size ≤ b) (r : R J H) : PIE X pins σ tg R (.ref e) { s with heap := h' } :=
  ⟨e, ch, tn, J, H, rfl, I.kept (t' := s.toks) kp, T, st, fun b hb => I.fpOk (new b hb) (I.hok.fresh (new b hb)), r⟩
end
theorem vals_at {xs : List V} {its : List Value} {i : Nat} {u : Value} (r : Vals xs its) (h : its[i]? = some u) : ∃ x, xs[i]? = some x ∧ RelV x u := by
  have lt : i < xs.length := r.length ▸ (List.getElem?_eq_some_iff.mp h).1
  obtain ⟨u2, h2, ru⟩ := r.get (List.getElem?_eq_getElem lt)
  cases h.symm.trans h2
  exact ⟨_, List.getElem?_eq_getElem lt, ru⟩
theorem fits2 (x y : V) : [x, y].length ≤ sizeLine := by
  show 2 ≤ sizeLine
  decide

/-! ### enumerate(t) -/
abbrev enumRec (it : Addr) : Obj := { cls := .type "enumerate", data := .fields #[.none, .bool false, .ref it, rawInt 0, .none, .none] }
set_option maxHeartbeats 1000000 in
theorem enum_new {v : Value} {o : Obj} {H : Heap → Prop} (B : Begins v o H) : Meets (Builtin.«enumerate.__new__» ⟨[.type "enumerate", v], []⟩) fun _ R s =>
    H s.heap ∧ R (.ok (.ret (.ref (s.heap.push o).objs.size))) { s with heap := (s.heap.push o).push (enumRec s.heap.objs.size) } :=
  .of_wp fun P w A R s ⟨stands, go⟩ => by
    have iter : ∀ {A' : Around} {E Q : Value → Shared → Prop}, Q (.ref s.heap.objs.size) { s with heap := s.heap.push o } → wpAny (model P w) A' (pyIter v) Q E s := B.iter P w _ _ s _ stands
    have known := sub_enumerate
    cases s
    wp_walk using iter
    refine wpAny_stack_any fun _ => wpAny_pure ?_
    split
    case _ c _ _ _ _ _ =>
      rcases c == Value.type "enumerate" with _ | _ <;> (wp_walk using iter; exact ⟨_, rfl, go⟩)
    case _ => wp_walk using iter; exact ⟨_, rfl, go⟩
theorem call_enum {prog : Program} {w : World} {A : Around} {s : Shared} {v : Value} {o : Obj} {H : Heap → Prop} {Q E : Value → Shared → Prop} (B : Begins v o H) (stands : H s.heap)
    (go : ∀ h', IsEnum h' (s.heap.objs.size + 1) s.heap.objs.size 0 .none → h'.get? s.heap.objs.size = some o → (∀ b u, s.heap.get? b = some u → h'.get? b = some u) → Q (.ref (s.heap.objs.size + 1)) { s with heap := h' }) :
    wpAny (model prog w) A (call (.type "enumerate") [v]) Q E s := by
  have top : (s.heap.push o).objs.size = s.heap.objs.size + 1 := Heap.size_push ..
  have there : ((s.heap.push o).push (enumRec s.heap.objs.size)).get? (s.heap.objs.size + 1) = some (enumRec s.heap.objs.size) := top ▸ Heap.get?_push_size (s.heap.push o) rfl
  have all := go _ there (Heap.get?_push_of_some _ (Heap.get?_push_size _ B.free)) fun b u z => Heap.get?_push_of_some _ (Heap.get?_push_of_some _ z)
  rw [← top] at all there
  exact callType_new F.called_enumerate (by decide) (F.typeCall_enumerate_1 _) (F.newCall_enumerate_1 _) (fun _ => F.args_object_init_2 _ _) F.entry_enumerate_new (enum_new B) ⟨stands, ⟨_, there, rfl⟩, all⟩
/-- the tuple at a, its items in new pairs with their places -/
abbrev IteT (K : PySem.W.Frag) (a : Addr) : L2.It := ItNew (fun H n => ∃ xs, SqT K H a xs ∧ xs.length = n) fun i H zs => ∃ x, zs = [.int (i : Nat), x] ∧ ∀ xs, SqT K H a xs → xs[i]? = some x
theorem turn_enumT {P : Program} {w : World} {K : PySem.W.Frag} {elts : List Expr} {kk : Nat} {tpos : Pos} {a e it : Addr} (h1 : e ≠ it) (h2 : a ≠ it) (h3 : a ≠ e) :
    Turn P w K (.Tuple elts kk tpos) (IteT K a) [e, it] e fun i h => (∃ old, IsEnum h e it (i : Nat) old) ∧ h.IsTupleIter it a i := by
  refine turn_new (List.mem_cons_self ..) (fun i h ⟨⟨old, q⟩, o, z, _, d⟩ b hb => ?_) (fun i h h' ⟨⟨old, q⟩, z⟩ k => ⟨⟨old, k e (by simp) _ q⟩, z.at (k it (by simp))⟩) (fun A i s Q E ⟨⟨_, q⟩, _⟩ => wpAny_pyIter_enum q) ?_
  · rcases List.mem_cons.mp hb with rfl | hb
    · exact ⟨_, q, nofun⟩
    · exact List.mem_singleton.mp hb ▸ ⟨o, z, fun v => d ▸ nofun⟩
  · rintro X rfl rfl rfl calm pins s σ H I i n ⟨q, z⟩ ⟨xs, hx, rfl⟩ _
    obtain ⟨its, rv, p, _⟩ := I.tuple hx
    have W := WalksT.enumerateD (Draws.tuple (prog := X.prog) (w := X.w) (A := X.A.in1) (I.ok.hd calm) it a h2 its.toArray) e h1 (by simp [h1, Ne.symm h3]) (by simp)
    rw [List.size_toArray, ← rv.length] at W
    refine ⟨_, _, _, _, _, W, fun _ m => m, ⟨q, z, p⟩, fun _ st => ⟨st.1, st.2.1⟩, ?_⟩
    rintro _ ⟨t, u, gu, rfl⟩
    obtain ⟨x, gx, ru⟩ := vals_at rv (i := i) (u := u) (by simpa using gu)
    exact ⟨[.int (i : Nat), x], fits2 _ _, .cons ⟨t, rfl⟩ (.cons ru .nil), x, rfl, fun ys hy => I.tuple_inj hx hy ▸ gx⟩
def iEnumT (K : PySem.W.Frag) (ta : TA) : TI := fun σ H R => ta σ H fun vs H1 => ∃ a xs, vs = [.ref a] ∧ SqT K H1 a xs ∧ R (IteT K a) H1
theorem pi_enumT_K {X : Cx} {K : PySem.W.Frag} {e : Expr} {ta : TA} {p pos tpos : Pos} {elts : List Expr} {kk : Nat} (hg : Gl X "enumerate") (hm : X.mg "enumerate" = none) (ha : PA X [e] ta) (hK : X.K = K := by rfl)
    (hs : starEach [e] X.env = [(false, eval e X.env)] := by rfl) : PI X (.Tuple elts kk tpos) (.Call (.Name "enumerate" p) [e] [] pos) (iEnumT K ta) where
  run pins s σ H R I q := by
    subst hK
    refine Call_ (ld_blt I hg hm boot_enumerate (callWith_type1 (thn (ha.run pos pins s σ H _ I q) ?_) hs rfl))
    rintro us s1 ⟨vs, H1, I1, r, a, xs, rfl, hx, q⟩
    rw [Vals.ref1 r]
    obtain ⟨its, _, tup, _⟩ := I1.tuple hx
    have old : a < s1.heap.objs.size := tup.lt
    refine call_enum (begins_tuple a its.toArray) tup fun h' rec it kp => wpAny_pyIter_enum rec (pie_new I1 kp (turn_enumT (Nat.succ_ne_self _) (Nat.ne_of_lt old) (Nat.ne_of_lt (Nat.lt_succ_of_lt old))) ⟨⟨_, rec⟩, _, it, rfl, rfl⟩ (fun b hb => ?_) q)
    rcases List.mem_cons.mp hb with rfl | hb
    · exact Nat.le_succ _
    · exact Nat.le_of_eq (List.mem_singleton.mp hb).symm
theorem pi_enum_K {X : Cx} {K : PySem.W.Frag} {e : Expr} {ta : TA} {p pos tpos : Pos} {elts : List Expr} {kk : Nat} (hg : Gl X "enumerate") (hm : X.mg "enumerate" = none) (ha : PA X [e] ta) (hK : X.K = K := by rfl) (hs : starEach [e] X.env = [(false, eval e X.env)] := by rfl) :
    PI X (.Tuple elts kk tpos) (.Call (.Name "enumerate" p) [e] [] pos) (iEnum K ta) := hK ▸ pi_enum hg hm ha hs

/-! ### zip(t, xs) -/
/-- the tuple at a and the list at b as they stand at each turn, the items in new pairs -/
abbrev ItzM (K : PySem.W.Frag) (a b : Addr) : L2.It :=
  ItNew (fun H n => ∃ xs ys, SqT K H a xs ∧ SqL K H b ys ∧ xs.length = n ∧ ys.length = n) fun i H zs => ∃ x y, zs = [x, y] ∧ (∀ xs, SqT K H a xs → xs[i]? = some x) ∧ ∀ ys, SqL K H b ys → ys[i]? = some y
theorem turn_zipM {P : Program} {w : World} {K : PySem.W.Frag} {elts : List Expr} {kk : Nat} {tpos : Pos} {a b z TI TO i1 i2 : Addr} (D : ZipSep2 z TI TO i1 i2 [i1, a] [i2, b]) (n1 : a ≠ i1) (n2 : b ≠ i2) :
    Turn P w K (.Tuple elts kk tpos) (ItzM K a b) [z, TI, TO, i1, i2] z fun i h => IsZip h z TI TO .none ∧ IsTupOf2 h TI (.ref i1) (.ref i2) ∧ (∃ x y, IsTupOf2 h TO x y) ∧ h.IsTupleIter i1 a i ∧ h.IsListIter i2 b i := by
  refine turn_new (List.mem_cons_self ..) (fun i h ⟨q, qI, ⟨x, y, qO⟩, ⟨o1, g1, _, d1⟩, o2, g2, _, d2⟩ c hc => ?_)
    (fun i h h' ⟨q, qI, ⟨x, y, qO⟩, g1, g2⟩ k => ⟨k _ (by simp) _ q, k _ (by simp) _ qI, ⟨x, y, k _ (by simp) _ qO⟩, g1.at (k _ (by simp)), g2.at (k _ (by simp))⟩) (fun A i s Q E st => wpAny_pyIter_zip st.1) ?_
  · simp only [List.mem_cons, List.not_mem_nil, or_false] at hc
    rcases hc with rfl | rfl | rfl | rfl | rfl
    · exact ⟨_, q, nofun⟩
    · exact ⟨_, qI, nofun⟩
    · exact ⟨_, qO, nofun⟩
    · exact ⟨o1, g1, fun v => d1 ▸ nofun⟩
    · exact ⟨o2, g2, fun v => d2 ▸ nofun⟩
  · rintro X rfl rfl rfl calm pins s σ H I i n ⟨q, qI, qO, g1, g2⟩ ⟨xs, ys, hx, hy, rfl, len⟩ _
    obtain ⟨us, ru, p, _⟩ := I.tuple hx
    obtain ⟨ts, rt, l, _⟩ := I.list hy
    have W := WalksT.zipD2 D (Draws.tuple (prog := X.prog) (w := X.w) (A := X.A.in1) (I.ok.hd calm) i1 a n1 us.toArray) (Draws.list (A := X.A.in1) (I.ok.hd calm) i2 b n2 ts.toArray)
    rw [List.size_toArray, List.size_toArray, ← ru.length, ← rt.length, len, Nat.min_self] at W
    refine ⟨_, _, _, _, _, W, fun c hc => ?_, ⟨q, qI, qO, ⟨g1, p⟩, g2, l.isList⟩, fun _ ⟨t0, t1, t2, t3, t4⟩ => ⟨t0, t1, t2, t3.1, t4.1⟩, ?_⟩
    · simp only [List.mem_cons, List.not_mem_nil, or_false] at hc ⊢
      exact hc.imp_right .inr
    · rintro _ ⟨u, t, gu, gt, rfl⟩
      obtain ⟨x, gx, rx⟩ := vals_at ru (i := i) (u := u) (by simpa using gu)
      obtain ⟨y, gy, ry⟩ := vals_at rt (i := i) (u := t) (by simpa using gt)
      exact ⟨[x, y], fits2 _ _, .cons rx (.cons ry .nil), x, y, rfl, fun zs hz => I.tuple_inj hx hz ▸ gx, fun zs hz => I.list_inj hy hz ▸ gy⟩
def iZipM (K : PySem.W.Frag) (ta : TA) : TI := fun σ H R => ta σ H fun vs H1 => ∃ a b xs ys, vs = [.ref a, .ref b] ∧ SqT K H1 a xs ∧ SqL K H1 b ys ∧ R (ItzM K a b) H1
theorem vals_ref2 {a b : Addr} : ∀ {us : List Value}, Vals [V.ref a, V.ref b] us → us = [.ref a, .ref b]
  | _, .cons p (.cons q .nil) => by
    cases p
    cases q
    rfl
theorem pi_zip_K {X : Cx} {K : PySem.W.Frag} {e e2 : Expr} {ta : TA} {p pos tpos : Pos} {elts : List Expr} {kk : Nat} (hg : Gl X "zip") (hm : X.mg "zip" = none) (ha : PA X [e, e2] ta) (hK : X.K = K := by rfl)
    (hs : starEach [e, e2] X.env = (false, eval e X.env) :: starEach [e2] X.env := by rfl) (hpl : (backTo pos (starEach [e2] X.env)).any (·.1) = false := by rfl) :
    PI X (.Tuple elts kk tpos) (.Call (.Name "zip" p) [e, e2] [] pos) (iZipM K ta) where
  run pins s σ H R I q := by
    subst hK
    refine Call_ (ld_blt I hg hm boot_zip (callWith_type1 (thn (ha.run pos pins s σ H _ I q) ?_) hs hpl))
    rintro us s1 ⟨vs, H1, I1, r, a, b, xs, ys, rfl, hx, hy, q⟩
    rw [vals_ref2 r]
    obtain ⟨its, _, tup, _⟩ := I1.tuple hx
    obtain ⟨jts, _, lst, _⟩ := I1.list hy
    have la : a < s1.heap.objs.size := tup.lt
    have lb : b < s1.heap.objs.size := lst.lt
    have D := zip_sep2 (N := s1.heap.objs.size) (fp1 := [a]) (fp2 := [b]) (fun c hc => List.mem_singleton.mp hc ▸ la) (fun c hc => List.mem_singleton.mp hc ▸ lb)
    refine zip_begins2 (begins_tuple a its.toArray) (begins_list b jts.toArray) tup lst.isList fun h' rz rI rO r1 r2 _ kp => wpAny_pyIter_zip rz ?_
    refine pie_new I1 kp (turn_zipM D (Nat.ne_of_lt la) (Nat.ne_of_lt (Nat.lt_succ_of_lt lb))) ⟨rz, rI, ⟨_, _, rO⟩, ⟨_, r1, rfl, rfl⟩, _, r2, rfl, rfl⟩ (fun c hc => ?_) q
    simp only [List.mem_cons, List.not_mem_nil, or_false] at hc
    rcases hc with rfl | rfl | rfl | rfl | rfl <;> first | exact Nat.le_refl _ | exact Nat.le_add_right _ _
end KP

/-! part KSrc -/
set_option Elab.async false
set_option linter.all false
set_option maxRecDepth 100000
set_option maxHeartbeats 4000000
/-! Walks, loops, comprehensions and statements over the evaluation layer. -/
namespace KP
open PySem L2
abbrev NoG : Addr → Prop := fun _ => False
/-- what a walk gives, turn by turn; G: known lists that it reads -/
def Src (M : MM) (G : Addr → Prop) (wi : TI) (σ : L2.St) (H : Hp) (n : Nat) (Y : Nat → V → Hp → Prop) : Prop := ∀ H1, R M H H1 → ∀ Rk : L2.It → Hp → Prop,
  (∀ J H2 (g : Addr → Prop), R M H1 H2 → (∀ a, g a → (H1 a = none ∨ G a) ∧ H2 a ≠ none) → (∀ M' H3, (∀ a u, g a → ¬ M' a u) → R M' H2 H3 → (∀ i, i < n → J.go i H3 ∧ ∀ v H4, J.yld i H3 v H4 → Ex H3 H4 ∧ Y i v H4) ∧ J.stop n H3) → Rk J H2) → wi σ H1 Rk
abbrev YD (K : PySem.W.Frag) (ds : List PyData) : Nat → V → Hp → Prop := fun i v H => ∃ d, ds[i]? = some d ∧ It K H v d
section
variable {K : PySem.W.Frag} {M : MM} {σ : L2.St} {H H' : Hp} {ta tb te tx tl : TE} {t u : TT} {v x y z : V} {d e : PyData} {P P1 P2 P3 : V → Hp → Prop} {ds es : List PyData} {i j : Int}
theorem ex_rfl {H : Hp} : Ex H H := fun _ _ h => h
theorem src_tup (h : ED K M tl σ H (.tuple ds)) : Src M NoG (iTup K tl) σ H ds.length (YD K ds) := fun H1 r Rk k => h H1 r _ fun v H2 r2 p => by
  obtain ⟨a, xs, rfl, hs, hall⟩ := it_tup p
  refine ⟨a, rfl, ⟨xs, hs⟩, k _ H2 (fun _ => False) r2 (fun _ h => h.elim) fun M' H3 _ r3 => ⟨fun i hi => ?_, xs, sqt_mono r3 hs, by rw [hall.len]; exact Nat.le_refl _⟩⟩
  have hi' : i < xs.length := by rw [hall.len]; exact hi
  refine ⟨⟨xs, xs[i], sqt_mono r3 hs, List.getElem?_eq_getElem hi'⟩, fun v H4 q => ?_⟩
  obtain ⟨rfl, f⟩ := q
  obtain ⟨d, hd, hv⟩ := hall.get' (f xs (sqt_mono r3 hs))
  exact ⟨ex_rfl, d, hd, hv.mono r3⟩
theorem src_list (h : EL K M tl σ H ds) : Src M NoG (iList K tl) σ H ds.length (YD K ds) := fun H1 r Rk k => h H1 r _ fun p xs H2 hn r2 hp hall => by
  refine ⟨p, rfl, ⟨xs, .inl (.inl hp)⟩, k _ H2 (fun a => a = p) r2 (fun a h => ⟨.inl (h ▸ hn), by rw [h, hp]; exact fun z => nomatch z⟩) fun M' H3 hm r3 => ?_⟩
  have hs : SqL K H3 p xs := .inl (.inl (r3.keep (hm p _ rfl) hp))
  refine ⟨fun i hi => ?_, xs, hs, by rw [hall.len]; exact Nat.le_refl _⟩
  have hi' : i < xs.length := by rw [hall.len]; exact hi
  refine ⟨⟨xs, xs[i], hs, List.getElem?_eq_getElem hi'⟩, fun v H4 q => ?_⟩
  obtain ⟨rfl, f⟩ := q
  obtain ⟨d, hd, hv⟩ := hall.get' (f xs hs)
  exact ⟨ex_rfl, d, hd, hv.mono r3⟩
theorem src_lv {a : Addr} {xs : List V} (h : EV M tl σ H (.ref a)) (hm : ∀ u, ¬ M a u) (hs : SqL K H a xs) (hne : H a ≠ none) (hall : ItAll K H xs ds) : Src M (fun b => b = a) (iList K tl) σ H ds.length (YD K ds) := fun H1 r Rk k => h H1 r _ fun p H2 r2 hp => by
  subst hp
  have hs2 : SqL K H2 a xs := sql_mono (r.trans r2) hm hs
  refine ⟨a, rfl, ⟨xs, hs2⟩, k _ H2 (fun b => b = a) r2 (fun b h => ⟨.inr h, fun z => hne ((r.trans r2).free (by rw [← h]; exact z))⟩) fun M' H3 hm r3 => ?_⟩
  have hs3 : SqL K H3 a xs := sql_mono r3 (fun u => hm a u rfl) hs2
  refine ⟨fun i hi => ?_, xs, hs3, by rw [hall.len]; exact Nat.le_refl _⟩
  have hi' : i < xs.length := by rw [hall.len]; exact hi
  refine ⟨⟨xs, xs[i], hs3, List.getElem?_eq_getElem hi'⟩, fun v H4 q => ?_⟩
  obtain ⟨rfl, f⟩ := q
  obtain ⟨d, hd, hv⟩ := hall.get' (f xs hs3)
  exact ⟨ex_rfl, d, hd, (hv.mono (r.trans r2)).mono r3⟩
theorem src_rng1 {ta : TA} {n : Int} (h : EA K M ta σ H [.int n]) (h0 : 0 ≤ n) (h1 : n < 2 ^ 62) : Src M NoG (iRng1 ta) σ H n.toNat (fun i v _ => v = .int (i : Nat)) := fun H1 r Rk k => h H1 r _ fun vs H2 r2 p => by
  have e := ItAll.ints (ns := [n]) p
  subst e
  refine ⟨n, rfl, by omega, h1, k _ H2 (fun _ => False) r2 (fun _ h => h.elim) fun M' H3 _ r3 => ⟨fun i hi => ⟨hi, fun v H4 q => ?_⟩, Nat.le_refl _⟩⟩
  obtain ⟨rfl, rfl⟩ := q
  exact ⟨ex_rfl, by rw [Int.zero_add]⟩
theorem src_rng2 {ta : TA} {lo n : Int} (h : EA K M ta σ H [.int lo, .int n]) (h0 : -(2 ^ 62) ≤ lo ∧ lo < 2 ^ 62) (h1 : -(2 ^ 62) ≤ n ∧ n < 2 ^ 62) : Src M NoG (iRng2 ta) σ H (n - lo).toNat (fun i v _ => v = .int (lo + (i : Nat))) := fun H1 r Rk k => h H1 r _ fun vs H2 r2 p => by
  have e := ItAll.ints (ns := [lo, n]) p
  subst e
  refine ⟨lo, n, rfl, ⟨h0.1, h0.2, h1.1, h1.2⟩, k _ H2 (fun _ => False) r2 (fun _ h => h.elim) fun M' H3 _ r3 => ⟨fun i hi => ⟨hi, fun v H4 q => ?_⟩, Nat.le_refl _⟩⟩
  obtain ⟨rfl, rfl⟩ := q
  exact ⟨ex_rfl, rfl⟩
abbrev YE (K : PySem.W.Frag) (ds : List PyData) : Nat → V → Hp → Prop := fun i v H => ∃ d, ds[i]? = some d ∧ It K H v (.tuple [.int (i : Nat), d])
theorem ite_pair {T : Addr} {i : Int} (hT : H T = none) (hx : It K H x d) : Ex H (upd H T (.tup [.int i, x])) ∧ It K (upd H T (.tup [.int i, x])) (.ref T) (.tuple [.int i, d]) :=
  ⟨Evl.Ex.new hT, .tup (.inl (.inl upd_same)) (.cons (.int i) (.cons (hx.new hT) .nil))⟩
theorem src_enumT {ta : TA} (h : EA K M ta σ H [.tuple ds]) : Src M NoG (iEnumT K ta) σ H ds.length (YE K ds) := fun H1 r Rk k => h H1 r _ fun vs H2 r2 p => by
  cases p with
  | cons p q =>
    cases q
    obtain ⟨a, xs, rfl, hs, hall⟩ := it_tup p
    refine ⟨a, xs, rfl, hs, k _ H2 (fun _ => False) r2 (fun _ h => h.elim) fun M' H3 _ r3 => ⟨fun i hi => ⟨⟨xs.length, ⟨xs, sqt_mono r3 hs, rfl⟩, by rw [hall.len]; exact hi⟩, fun v H4 q => ?_⟩, xs, sqt_mono r3 hs, hall.len⟩⟩
    obtain ⟨T, _, rfl, hT, rfl, x, rfl, f⟩ := q
    obtain ⟨d, hd, hv⟩ := hall.get' (f xs (sqt_mono r3 hs))
    have z := ite_pair (i := (i : Nat)) hT (hv.mono r3)
    exact ⟨z.1, d, hd, z.2⟩
/-- enumerate of a list that the frame knows -/
theorem src_enum {ta : TA} {a : Addr} {xs : List V} (h : EvA M ta σ H fun vs _ => vs = [.ref a]) (hm : ∀ u, ¬ M a u) (hs : SqL K H a xs) (hne : H a ≠ none) (hall : ItAll K H xs ds) : Src M (fun b => b = a) (iEnum K ta) σ H ds.length (YE K ds) := fun H1 r Rk k => h H1 r _ fun vs H2 r2 p => by
  subst p
  have hs2 : SqL K H2 a xs := sql_mono (r.trans r2) hm hs
  refine ⟨a, xs, rfl, hs2, k _ H2 (fun b => b = a) r2 (fun b h => ⟨.inr h, fun z => hne ((r.trans r2).free (by rw [← h]; exact z))⟩) fun M' H3 hm r3 => ?_⟩
  have hs3 : SqL K H3 a xs := sql_mono r3 (fun u => hm a u rfl) hs2
  refine ⟨fun i hi => ?_, xs, hs3, by rw [hall.len]; exact Nat.le_refl _⟩
  have hi' : i < xs.length := by rw [hall.len]; exact hi
  refine ⟨⟨xs, xs[i], hs3, List.getElem?_eq_getElem hi'⟩, fun v H4 q => ?_⟩
  obtain ⟨T, x, rfl, hT, rfl, f⟩ := q
  obtain ⟨d, hd, hv⟩ := hall.get' (f xs hs3)
  have z := ite_pair (i := (i : Nat)) hT ((hv.mono (r.trans r2)).mono r3)
  exact ⟨z.1, d, hd, z.2⟩
abbrev YZ (K : PySem.W.Frag) (ds es : List PyData) : Nat → V → Hp → Prop := fun i v H => ∃ d e, ds[i]? = some d ∧ es[i]? = some e ∧ It K H v (.tuple [d, e])
/-- zip of a tuple and a list that the frame knows -/
theorem src_zip {a : Addr} {xs : List V} (h : ED K M ta σ H (.tuple ds)) (h2 : EV M tb σ H (.ref a)) (hm : ∀ u, ¬ M a u) (hs : SqL K H a xs) (hne : H a ≠ none) (hall : ItAll K H xs es) (hl : ds.length = es.length) :
    Src M (fun b => b = a) (iZipM K (tCons ta (tCons tb tNil))) σ H ds.length (YZ K ds es) := fun H1 r Rk k => h H1 r _ fun v H2 r2 p => h2 H2 (r.trans r2) _ fun w H3 r3 q => by
  subst q
  obtain ⟨b, ys, rfl, ht, hall2⟩ := it_tup (p.mono r3)
  have r4 := (r.trans r2).trans r3
  have hs2 : SqL K H3 a xs := sql_mono r4 hm hs
  refine ⟨b, a, ys, xs, rfl, ht, hs2, k _ H3 (fun c => c = a) (r2.trans r3) (fun c h => ⟨.inr h, fun z => hne (r4.free (by rw [← h]; exact z))⟩) fun M' H4 hm r5 => ?_⟩
  have hs3 : SqL K H4 a xs := sql_mono r5 (fun u => hm a u rfl) hs2
  have ht3 : SqT K H4 b ys := sqt_mono r5 ht
  have l1 := hall.len
  have l2 := hall2.len
  refine ⟨fun i hi => ⟨⟨ys.length, ⟨ys, xs, ht3, hs3, rfl, by omega⟩, by omega⟩, fun v H5 q => ?_⟩, ys, xs, ht3, hs3, by omega, by omega⟩
  obtain ⟨T, _, rfl, hT, rfl, x, y, rfl, f1, f2⟩ := q
  obtain ⟨d, hd, hx⟩ := hall2.get' (f1 ys ht3)
  obtain ⟨e, he, hy⟩ := hall.get' (f2 xs hs3)
  exact ⟨Evl.Ex.new hT, d, e, hd, he, .tup (.inl (.inl upd_same)) (.cons ((hx.mono r5).new hT) (.cons (((hy.mono r4).mono r5).new hT) .nil))⟩

/-! ### loops -/
variable {D : Ends} {tu tw tz : TS} {gt : TG} {G : Addr → Prop} {wi : TI} {Y : Nat → V → Hp → Prop} {n : Nat}
theorem q {tu tz : TS} (h : tu { D with nx := tz D } σ H) : tSeq tu tz D σ H := h
theorem s_for {M' : MM} (src : Src M G wi σ H n Y) (hM : ∀ a u, M' a u → H a ≠ none ∧ ¬ G a)
    (k : ∀ H2, R M H H2 → ∃ Pv : Nat → L2.St → Hp → Prop, Pv 0 σ H2 ∧
      (∀ i σ' H', i < n → R M' H2 H' → Pv i σ' H' → ∀ v H4, Ex H' H4 → Y i v H4 → gt v σ' H4 fun σ2 H5 => tu { D with nx := fun σ3 H6 => R M' H2 H6 ∧ Pv (i + 1) σ3 H6, ct := fun σ3 H6 => R M' H2 H6 ∧ Pv (i + 1) σ3 H6, bk := D.nx } σ2 H5) ∧
      (∀ σ' H', R M' H2 H' → Pv n σ' H' → D.nx σ' H')) : tFor wi gt tu D σ H := src H (R.refl H) _ fun J H2 g r2 hg hJ => by
  obtain ⟨Pv, h0, hs, hd⟩ := k H2 r2
  have hm : ∀ a u, g a → ¬ M' a u := fun a u ha hu => by
    obtain ⟨z1, z2⟩ := hM a u hu
    rcases (hg a ha).1 with z | z
    · exact z1 z
    · exact z2 z
  refine ⟨fun i m σ' H' => m = n - i ∧ i ≤ n ∧ R M' H2 H' ∧ Pv i σ' H', ⟨n, rfl, Nat.zero_le _, R.refl H2, h0⟩, ?_⟩
  rintro i m σ' H' ⟨rfl, hi, r, p⟩
  obtain ⟨j1, j2⟩ := hJ M' H' hm r
  by_cases hlt : i < n
  · obtain ⟨g1, g2⟩ := j1 i hlt
    refine .inr ⟨g1, fun σ3 H6 => R M' H2 H6 ∧ Pv (i + 1) σ3 H6, fun σ3 H6 ⟨a, b⟩ => ⟨n - (i + 1), by omega, rfl, hlt, a, b⟩, fun v H4 y => ?_⟩
    obtain ⟨e4, y4⟩ := g2 v H4 y
    exact hs i σ' H' hlt r p v H4 e4 y4
  · have e : i = n := by omega
    subst e
    exact .inl ⟨j2, hd σ' H' r p⟩

/-- a word between (pss_cut): the names stay -/
theorem q_cutS {Mid : Hp → Prop} (h : tu { D with nx := fun σ' H' => σ' = σ ∧ Mid H' } σ H) (k : ∀ H', Mid H' → tz D σ H') : Evl.tCut tu tz D σ H := ⟨_, h, fun σ' H' ⟨e, m⟩ => e ▸ k H' m⟩
theorem q_cut {Mid : L2.St → Hp → Prop} (h : tu { D with nx := Mid } σ H) (k : ∀ σ' H', Mid σ' H' → tz D σ' H') : Evl.tCut tu tz D σ H := ⟨_, h, k⟩

/-! ### comprehensions -/
inductive Got (f : Nat → Bool) (P : Nat → PyData → Prop) : Nat → List PyData → Prop
  | nil : Got f P 0 []
  | yes {i : Nat} {ds : List PyData} {d : PyData} : Got f P i ds → f i = true → P i d → Got f P (i + 1) (ds ++ [d])
  | no {i : Nat} {ds : List PyData} : Got f P i ds → f i = false → Got f P (i + 1) ds
theorem Got.le {f : Nat → Bool} {P : Nat → PyData → Prop} {i : Nat} {ds : List PyData} (h : Got f P i ds) : ds.length ≤ i := by
  induction h with
  | nil => exact Nat.le_refl _
  | yes _ _ _ ih => rw [List.length_append]; show _ + 1 ≤ _; omega
  | no _ _ ih => omega
/-- all of them, one by one -/
theorem Got.all {P : Nat → PyData → Prop} {n : Nat} {ds : List PyData} (h : Got (fun _ => true) P n ds) : ds.length = n ∧ ∀ i d, ds[i]? = some d → P i d := by
  induction h with
  | nil => exact ⟨rfl, fun i d h => by simp at h⟩
  | @yes i ds d _ _ p ih =>
    refine ⟨by rw [List.length_append, ih.1]; rfl, fun j e he => ?_⟩
    by_cases c : j < ds.length
    · rw [List.getElem?_append_left c] at he
      exact ih.2 j e he
    · rw [List.getElem?_append_right (by omega)] at he
      have c2 : j - ds.length = 0 := by
        have := (List.getElem?_eq_some_iff.mp he).1
        simp at this; omega
      rw [c2] at he
      have : j = i := by have := ih.1; omega
      subst this
      have : d = e := Option.some.inj he
      subst this
      exact p
  | no _ z _ => cases z
theorem Got.fun {f : Nat → Bool} {F : Nat → PyData} {n : Nat} {ds : List PyData} (h : Got f (fun i d => d = F i) n ds) : ds = ((List.range n).filter f).map F := by
  induction h with
  | nil => rfl
  | yes _ hf p ih =>
    subst p
    rw [List.range_succ, List.filter_append, List.map_append, ← ih, List.filter_cons, if_pos hf]
    rfl
  | no _ hf ih =>
    rw [List.range_succ, List.filter_append, List.map_append, ← ih, List.filter_cons, if_neg (by rw [hf]; decide)]
    exact (List.append_nil _).symm
theorem Got.map {F : Nat → PyData} {n : Nat} {ds : List PyData} (h : Got (fun _ => true) (fun i d => d = F i) n ds) : ds = (List.range n).map F := by
  rw [h.fun]
  congr 1
  exact List.filter_eq_self.mpr fun _ _ => rfl
/-- a new list of data -/
def ELP (K : PySem.W.Frag) (M : MM) (te : TE) (σ : L2.St) (H : Hp) (P : List PyData → Prop) : Prop := ∀ H1, R M H H1 → ∀ Q : VK, (∀ p xs ds H2, H1 p = none → R M H1 H2 → H2 p = some (.lst xs) → ItAll K H2 xs ds → P ds → Q (.ref p) H2) → te σ H1 Q
theorem ELP.el {P : List PyData → Prop} (h : ELP K M te σ H P) (f : ∀ es, P es → es = ds) : EL K M te σ H ds := fun H1 r Q k => h H1 r Q fun p xs es H2 hn r2 hp hall hP => by
  have := f es hP
  subst this
  exact k p xs H2 hn r2 hp hall
def Bd (gt : TG) (v : V) (σ : L2.St) (H : Hp) (σ' : L2.St) : Prop := ∀ Q : L2.St → Hp → Prop, Q σ' H → gt v σ H Q
theorem elp_lc {vs : List Nat} (src : Src M G wi σ H n Y) (hM : ∀ a u, M a u → H a ≠ none ∧ ¬ G a) (hn : n ≤ 100000) (f : Nat → Bool) (P : Nat → PyData → Prop)
    (hb : ∀ i v H1, i < n → R M H H1 → Y i v H1 → ∃ σ', Bd gt v (wipe σ vs) H1 σ' ∧ wipe σ' vs = wipe σ vs ∧ EvT M t σ' H1 (f i) ∧ (f i = true → Ev M te σ' H1 fun v H2 => ∃ d, It K H2 v d ∧ P i d)) :
    ELP K M (tLc wi gt t te vs) σ H (Got f P n) := fun H1 r Q k => src H1 r _ fun J H2 g r2 hg hJ Dl hD => by
  have rr := r.trans r2
  have hDn : H Dl = none := rr.free hD
  have nM : ∀ u, ¬ M Dl u := fun u hu => (hM Dl u hu).1 hDn
  have hm : ∀ a u, g a → ¬ Also M Dl a u := fun a u ha hu => by
    rcases hu with hu | hu
    · obtain ⟨z1, z2⟩ := hM a u hu
      rcases (hg a ha).1 with z | z
      · exact z1 (r.free z)
      · exact z2 z
    · exact (hg a ha).2 (hu ▸ hD)
  refine ⟨fun i m H' => m = n - i ∧ i ≤ n ∧ R (Also M Dl) (upd H2 Dl (.lst [])) H' ∧ ∃ xs ds, H' Dl = some (.lst xs) ∧ ItAll K H' xs ds ∧ Got f P i ds, ⟨n, rfl, Nat.zero_le _, R.refl _, [], [], upd_same, .nil, .nil⟩, ?_⟩
  rintro i m H' ⟨rfl, hi, r', xs, ds, hx, hall, got⟩
  have e0 : R M H2 (upd H2 Dl (.lst [])) := (R.refl H2).new hD
  have r3 : R (Also M Dl) H2 H' := e0.also.trans r'
  obtain ⟨j1, j2⟩ := hJ _ H' hm r3
  have rH : R M H H' := rr.drop hDn r3
  by_cases hlt : i < n
  · obtain ⟨g1, g2⟩ := j1 i hlt
    refine .inr ⟨g1, fun H6 => R (Also M Dl) (upd H2 Dl (.lst [])) H6 ∧ ∃ xs ds, H6 Dl = some (.lst xs) ∧ ItAll K H6 xs ds ∧ Got f P (i + 1) ds, fun H6 ⟨a, b⟩ => ⟨n - (i + 1), by omega, rfl, hlt, a, b⟩, fun v H4 y => ?_⟩
    obtain ⟨e4, y4⟩ := g2 v H4 y
    obtain ⟨σ', b1, b2, b3, b4⟩ := hb i v H4 hlt (rH.trans (R.of e4)) y4
    refine b1 _ ⟨b2, b3 H4 (R.refl _) _ fun H5 r5 => ?_⟩
    cases hf : f i with
    | true =>
      refine b4 hf H5 r5 _ fun w H6 r6 hw => ?_
      obtain ⟨d, hd, hP⟩ := hw
      have rx : R M H' H6 := (R.of e4).trans (r5.trans r6)
      have hx6 := rx.keep (nM _) hx
      have l1 := hall.len
      have l2 := got.le
      refine ⟨xs, hx6, smallL (by omega), (r'.trans rx.also).chgA hx6 mt_l mt_l, xs ++ [w], ds ++ [d], upd_same, ItAll.app ((hall.mono rx).updL hx6) (.cons (hd.updL hx6) .nil), .yes got hf hP⟩
    | false =>
      have rx : R M H' H5 := (R.of e4).trans r5
      exact ⟨r'.trans rx.also, xs, ds, rx.keep (nM _) hx, hall.mono rx, .no got hf⟩
  · have e : i = n := by omega
    subst e
    exact .inl ⟨j2, k Dl xs ds H' (r2.free hD) (r2.drop (r2.free hD) r3) hx hall got⟩
/-- two walks: all that is made is of one kind -/
theorem elp_lc2 {vs vs1 : List Nat} {wi1 : TI} {g1 : TG} {t1 : TT} (src : Src Non G wi σ H n Y) (n1 : Nat) (hn : n * n1 ≤ 100000) (P0 : PyData → Prop)
    (hb : ∀ i v H1, i < n → R Non H H1 → Y i v H1 → ∃ σ', Bd gt v (wipe σ vs) H1 σ' ∧ wipe σ' vs = wipe σ vs ∧ EvT Non t σ' H1 true ∧ ∃ Y1 : Nat → V → Hp → Prop, (∀ H2, R Non H1 H2 → Src Non NoG wi1 σ' H2 n1 Y1) ∧
      ∀ (M1 : MM) j v' H2, j < n1 → R M1 H1 H2 → Y1 j v' H2 → ∃ σ2, Bd g1 v' (wipe σ' vs1) H2 σ2 ∧ wipe σ2 vs1 = wipe σ' vs1 ∧ EvT Non t1 σ2 H2 true ∧ Ev Non te σ2 H2 fun v H3 => ∃ d, It K H3 v d ∧ P0 d) :
    ELP K Non (tLc2 wi gt t wi1 g1 t1 te vs vs1) σ H (fun ds => ds.length = n * n1 ∧ ∀ d ∈ ds, P0 d) := fun H1 r Q k => src H1 r _ fun J H2 g r2 hg hJ Dl hD => by
  have rr := r.trans r2
  have hDn : H Dl = none := rr.free hD
  have hm : ∀ a u, g a → ¬ Also Non Dl a u := fun a u ha hu => by
    rcases hu with hu | hu
    · exact hu
    · exact (hg a ha).2 (hu ▸ hD)
  let I : Nat → Hp → Prop := fun l H' => R (Also Non Dl) (upd H2 Dl (.lst [])) H' ∧ ∃ xs ds, H' Dl = some (.lst xs) ∧ ItAll K H' xs ds ∧ ds.length = l ∧ ∀ d ∈ ds, P0 d
  have e0 : R Non H2 (upd H2 Dl (.lst [])) := (R.refl H2).new hD
  have iR : ∀ l H', I l H' → R (Also Non Dl) H2 H' := fun l H' h => e0.also.trans h.1
  have iX : ∀ l H' H'', I l H' → R Non H' H'' → I l H'' := fun l H' H'' ⟨a, xs, ds, hx, hall, hl, hP⟩ e => ⟨a.trans e.also, xs, ds, e.keep (fun z => z) hx, hall.mono e, hl, hP⟩
  refine ⟨fun i m H' => m = n - i ∧ i ≤ n ∧ I (i * n1) H', ⟨n, rfl, Nat.zero_le _, R.refl _, [], [], upd_same, .nil, by simp, by simp⟩, ?_⟩
  rintro i m H' ⟨rfl, hi, inv⟩
  have r3 := iR _ _ inv
  obtain ⟨j1, j2⟩ := hJ _ H' hm r3
  have rH : R Non H H' := rr.drop hDn r3
  by_cases hlt : i < n
  · obtain ⟨g1', g2⟩ := j1 i hlt
    refine .inr ⟨g1', I ((i + 1) * n1), fun H6 a => ⟨n - (i + 1), by omega, rfl, hlt, a⟩, fun v H4 y => ?_⟩
    obtain ⟨e4, y4⟩ := g2 v H4 y
    obtain ⟨σ', b1, b2, b3, Y1, s1, c⟩ := hb i v H4 hlt (rH.trans (R.of e4)) y4
    refine b1 _ ⟨b2, b3 H4 (R.refl _) _ fun H5 r5 => ?_⟩
    refine s1 H4 (R.refl _) H5 r5 _ fun J1 H6 g' r6 hg' hJ1 => ?_
    have inv6 : I (i * n1) H6 := iX _ _ _ inv ((R.of e4).trans (r5.trans r6))
    obtain ⟨_, xs0, ds0, hx0, _⟩ := iX _ _ _ inv ((R.of e4).trans r5)
    have hm' : ∀ a u, g' a → ¬ Also Non Dl a u := fun a u ha hu => by
      rcases hu with hu | hu
      · exact hu
      · rcases (hg' a ha).1 with z | z
        · rw [hu, hx0] at z; cases z
        · exact z
    -- the inner walk
    refine ⟨fun j m H' => m = n1 - j ∧ j ≤ n1 ∧ R (Also Non Dl) H6 H' ∧ I (i * n1 + j) H', ⟨n1, rfl, Nat.zero_le _, R.refl _, inv6⟩, ?_⟩
    rintro j m H7 ⟨rfl, hj, r7, inv7⟩
    obtain ⟨k1, k2⟩ := hJ1 _ H7 hm' r7
    have r47 : R (Also Non Dl) H4 H7 := (r5.trans r6).also.trans r7
    by_cases hlt1 : j < n1
    · obtain ⟨l1, l2⟩ := k1 j hlt1
      refine .inr ⟨l1, fun H8 => R (Also Non Dl) H6 H8 ∧ I (i * n1 + (j + 1)) H8, fun H8 a => ⟨n1 - (j + 1), by omega, rfl, hlt1, a⟩, fun v' H8 y' => ?_⟩
      obtain ⟨e8, y8⟩ := l2 v' H8 y'
      obtain ⟨σ2, d1, d2, d3, d4⟩ := c _ j v' H8 hlt1 (r47.trans (R.of e8)) y8
      refine d1 _ ⟨d2, d3 H8 (R.refl _) _ fun H9 r9 => d4 H9 r9 _ fun w H10 r10 hw => ?_⟩
      obtain ⟨d, hd, hP0⟩ := hw
      have rx : R Non H7 H10 := (R.of e8).trans (r9.trans r10)
      obtain ⟨a, xs, ds, hx, hall, hl, hP⟩ := iX _ _ _ inv7 rx
      have l3 := hall.len
      have l4 : i * n1 + n1 ≤ n * n1 := by
        have := Nat.mul_le_mul_right n1 hlt
        rw [Nat.succ_mul] at this
        exact this
      refine ⟨xs, hx, smallL (by omega), (r7.trans rx.also).chgA hx mt_l mt_l, a.chgA hx mt_l mt_l, xs ++ [w], ds ++ [d], upd_same, ItAll.app (hall.updL hx) (.cons (hd.updL hx) .nil), by rw [List.length_append, hl]; rfl, fun e he => ?_⟩
      rcases List.mem_append.mp he with he | he
      · exact hP e he
      · obtain rfl := List.mem_singleton.mp he
        exact hP0
    · have e : j = n1 := by omega
      subst e
      refine .inl ⟨k2, ?_⟩
      rw [Nat.succ_mul]
      exact inv7
  · have e : i = n := by omega
    subst e
    obtain ⟨_, xs, ds, hx, hall, hl, hP⟩ := inv
    exact .inl ⟨j2, k Dl xs ds H' (r2.free hD) (r2.drop (r2.free hD) r3) hx hall ⟨hl, hP⟩⟩
/-- the target a name -/
theorem bd_name {k : Nat} : Bd (gName k) v σ H (σ.set k (some v)) := fun _ h => h
/-- what a tuple's names get -/
theorem un2 {i j : Nat} {d1 d2 : PyData} (h : It K H v (.tuple [d1, d2])) : ∃ v1 v2, It K H v1 d1 ∧ It K H v2 d2 ∧ Bd (gTup K 2 (gCons (gName i) (gCons (gName j) gNil))) v σ H ((σ.set i (some v1)).set j (some v2)) := by
  obtain ⟨a, xs, rfl, hs, hall⟩ := it_tup h
  cases hall with
  | cons h1 hall =>
    cases hall with
    | cons h2 hall =>
      cases hall
      exact ⟨_, _, h1, h2, fun Q hq => ⟨a, _, rfl, hs, rfl, _, _, rfl, _, _, rfl, rfl, hq⟩⟩
theorem un3 {i j l : Nat} {d1 d2 d3 : PyData} (h : It K H v (.tuple [d1, d2, d3])) : ∃ v1 v2 v3, It K H v1 d1 ∧ It K H v2 d2 ∧ It K H v3 d3 ∧ Bd (gTup K 3 (gCons (gName i) (gCons (gName j) (gCons (gName l) gNil)))) v σ H (((σ.set i (some v1)).set j (some v2)).set l (some v3)) := by
  obtain ⟨a, xs, rfl, hs, hall⟩ := it_tup h
  cases hall with
  | cons h1 hall =>
    cases hall with
    | cons h2 hall =>
      cases hall with
      | cons h3 hall =>
        cases hall
        exact ⟨_, _, _, h1, h2, h3, fun Q hq => ⟨a, _, rfl, hs, rfl, _, _, rfl, _, _, rfl, _, _, rfl, rfl, hq⟩⟩
/-- name, (name, name) -/
theorem un12 {i j l : Nat} {d1 d2 d3 : PyData} (h : It K H v (.tuple [d1, .tuple [d2, d3]])) : ∃ v1 v2 v3, It K H v1 d1 ∧ It K H v2 d2 ∧ It K H v3 d3 ∧ Bd (gTup K 2 (gCons (gName i) (gCons (gTup K 2 (gCons (gName j) (gCons (gName l) gNil))) gNil))) v σ H (((σ.set i (some v1)).set j (some v2)).set l (some v3)) := by
  obtain ⟨a, xs, rfl, hs, hall⟩ := it_tup h
  cases hall with
  | cons h1 hall =>
    cases hall with
    | cons h2 hall =>
      cases hall
      obtain ⟨v2, v3, h2', h3', b⟩ := un2 (i := j) (j := l) (σ := σ.set i (some _)) h2
      exact ⟨_, v2, v3, h1, h2', h3', fun Q hq => ⟨a, _, rfl, hs, rfl, _, _, rfl, _, _, rfl, b _ ⟨rfl, hq⟩⟩⟩
/-- (name, name), name -/
theorem un21 {i j l : Nat} {d1 d2 d3 : PyData} (h : It K H v (.tuple [.tuple [d1, d2], d3])) : ∃ v1 v2 v3, It K H v1 d1 ∧ It K H v2 d2 ∧ It K H v3 d3 ∧ Bd (gTup K 2 (gCons (gTup K 2 (gCons (gName i) (gCons (gName j) gNil))) (gCons (gName l) gNil))) v σ H (((σ.set i (some v1)).set j (some v2)).set l (some v3)) := by
  obtain ⟨a, xs, rfl, hs, hall⟩ := it_tup h
  cases hall with
  | cons h1 hall =>
    cases hall with
    | cons h2 hall =>
      cases hall
      obtain ⟨v1, v2, h1', h2', b⟩ := un2 (i := i) (j := j) (σ := σ) h1
      exact ⟨v1, v2, _, h1', h2', h2, fun Q hq => ⟨a, _, rfl, hs, rfl, _, _, rfl, b _ ⟨_, _, rfl, rfl, hq⟩⟩⟩

/-! ### statements -/
theorem s_asg {k : Nat} (h : Ev M te σ H P) (c : ∀ v H1, R M H H1 → P v H1 → D.nx (σ.set k (some v)) H1) : tAsg te (gName k) D σ H := h H (R.refl H) _ c
theorem s_asgL {k : Nat} (h : EL K M te σ H ds) (c : ∀ p xs H1, H p = none → R M H H1 → H1 p = some (.lst xs) → ItAll K H1 xs ds → D.nx (σ.set k (some (.ref p))) H1) : tAsg te (gName k) D σ H := h H (R.refl H) _ c
theorem s_asgP {k : Nat} {P : List PyData → Prop} (h : ELP K M te σ H P) (c : ∀ p xs ds H1, H p = none → R M H H1 → H1 p = some (.lst xs) → ItAll K H1 xs ds → P ds → D.nx (σ.set k (some (.ref p))) H1) : tAsg te (gName k) D σ H := h H (R.refl H) _ c
/-- unpacking -/
theorem s_asgT (h : ED K M te σ H d) (c : ∀ v H1, R M H H1 → It K H1 v d → gt v σ H1 D.nx) : tAsg te gt D σ H := h H (R.refl H) _ c
theorem s_if {b : Bool} (h : EvT M t σ H b) (h1 : b = true → ∀ H1, R M H H1 → tu D σ H1) (h2 : b = false → ∀ H1, R M H H1 → tw D σ H1) : tIfS t tu tw D σ H := h H (R.refl H) _ fun H1 r => by
  cases b with
  | true => exact h1 rfl H1 r
  | false => exact h2 rfl H1 r
theorem s_ifN (h : EvN M t σ H) (h1 : ∀ H1, R M H H1 → tu D σ H1) (h2 : ∀ H1, R M H H1 → tw D σ H1) : tIfS t tu tw D σ H := h H (R.refl H) _ fun b H1 r => by
  cases b with
  | true => exact h1 H1 r
  | false => exact h2 H1 r
theorem s_when {b : Bool} (h : EvT M t σ H b) (h1 : b = true → ∀ H1, R M H H1 → tu D σ H1) (h2 : b = false → ∀ H1, R M H H1 → D.nx σ H1) : tIfS t tu tNext D σ H := s_if h h1 h2
theorem s_whenN (h : EvN M t σ H) (h1 : ∀ H1, R M H H1 → tu D σ H1) (h2 : ∀ H1, R M H H1 → D.nx σ H1) : tIfS t tu tNext D σ H := s_ifN h h1 h2
theorem s_ret (h : Ev M te σ H P) (c : ∀ v H1, R M H H1 → P v H1 → D.rt v H1) : tRet te D σ H := h H (R.refl H) _ c
theorem s_retL (h : EL K M te σ H ds) (c : ∀ p xs H1, H p = none → R M H H1 → H1 p = some (.lst xs) → ItAll K H1 xs ds → D.rt (.ref p) H1) : tRet te D σ H := h H (R.refl H) _ c
theorem s_aug {k : Nat} {f : Int → Int → Int} {a : Int} (hx : σ[k]? = some (some (.int a))) (h : ED K M te σ H (.int i)) (c : ∀ H1, R M H H1 → D.nx (σ.set k (some (.int (f a i)))) H1) : tAug k te (ipI f) D σ H :=
  ⟨_, hx, h H (R.refl H) _ fun v H1 r p => ⟨a, i, rfl, it_int p, c H1 r⟩⟩
theorem s_par {a b : Nat} {ta : TA} {d e : PyData} (h : EA K M ta σ H [d, e]) (c : ∀ v w H1, R M H H1 → It K H1 v d → It K H1 w e → D.nx ((σ.set a (some v)).set b (some w)) H1) : tPar a b ta D σ H := h H (R.refl H) _ fun vs H1 r p => by
  cases p with
  | cons p1 p =>
    cases p with
    | cons p2 p =>
      cases p
      exact ⟨_, _, rfl, c _ _ H1 r p1 p2⟩
/-- l.append(e) -/
theorem s_app {l : Addr} {xs : List V} (hl : H l = some (.lst xs)) (nm : ∀ u, ¬ M l u) (ha : EV M ta σ H (.ref l)) (h : Ev M te σ H P) (hz : xs.length < 100000) (c : ∀ v H1, R M H H1 → P v H1 → H1 l = some (.lst xs) → D.nx σ (upd H1 l (.lst (xs ++ [v])))) :
    tDrop (tBM K "list" rAppend ta (tCons te tNil)) D σ H := ha H (R.refl H) _ fun v H1 r e => by
  subst e
  have h1 := r.keep (nm _) hl
  exact ⟨.inl ⟨rfl, xs, .inl (.inl h1)⟩, h H1 r _ fun w H2 r2 p => ⟨l, xs, w, rfl, rfl, r2.keep (nm _) h1, smallL hz, c w H2 (r.trans r2) p (r2.keep (nm _) h1)⟩⟩
theorem ixn_nat {n j : Nat} (h : j < n) : ixN n (j : Int) = some j := by
  unfold ixN
  rw [if_pos (by omega), if_pos (by omega)]
  rfl
/-- l[i] = e -/
theorem s_setL {l : Addr} {xs : List V} {k : Nat} (hl : H l = some (.lst xs)) (nm : ∀ u, ¬ M l u) (h : Ev M te σ H P) (sP : Stb M P) (ho : EV M ta σ H (.ref l)) (hi : ED K M tb σ H (.int (k : Nat))) (hk : k < xs.length)
    (c : ∀ v H1, R M H H1 → P v H1 → H1 l = some (.lst xs) → D.nx σ (upd H1 l (.lst (xs.set k v)))) : tAsg te (gSub ta tb rSetL) D σ H := h H (R.refl H) _ fun v H1 r p => ho H1 r _ fun w H2 r2 e => hi H2 (r.trans r2) _ fun z H3 r3 e3 => by
  subst e
  have hl3 := ((r.trans r2).trans r3).keep (nm _) hl
  exact ⟨l, xs, k, k, rfl, it_int e3, hl3, ixn_nat hk, c v H3 ((r.trans r2).trans r3) (sP _ _ _ (r2.trans r3) p) hl3⟩
/-- l[i] += e, ints -/
theorem s_augL {l : Addr} {xs : List V} {k : Nat} {f : Int → Int → Int} {a : Int} (hl : H l = some (.lst xs)) (nm : ∀ u, ¬ M l u) (ho : EV M ta σ H (.ref l)) (hi : ED K M tb σ H (.int (k : Nat))) (ha : xs[k]? = some (.int a)) (h : ED K M te σ H (.int i))
    (c : ∀ H1, R M H H1 → H1 l = some (.lst xs) → D.nx σ (upd H1 l (.lst (xs.set k (.int (f a i)))))) : tAugS ta tb te (rGetL K) (ipI f) rSetL D σ H := ho H (R.refl H) _ fun w H1 r e => hi H1 r _ fun z H2 r2 e2 => by
  subst e
  have hk := (List.getElem?_eq_some_iff.mp ha).1
  have h2 := (r.trans r2).keep (nm _) hl
  refine ⟨l, xs, k, _, rfl, it_int e2, .inl (.inl h2), ha, h H2 (r.trans r2) _ fun v H3 r3 p => ⟨a, i, rfl, it_int p, l, xs, k, k, rfl, it_int e2, r3.keep (nm _) h2, ixn_nat hk, c H3 ((r.trans r2).trans r3) (r3.keep (nm _) h2)⟩⟩
theorem s_while (W : Nat → L2.St → Hp → Prop) (start : Nat) (h0 : W start σ H)
    (hs : ∀ m σ' H', W m σ' H' → ∃ b, EvT M t σ' H' b ∧ (b = true → ∀ H1, R M H' H1 → ∃ N : L2.St → Hp → Prop, (∀ σ2 H2, N σ2 H2 → ∃ m', m' < m ∧ W m' σ2 H2) ∧ tu { D with nx := N, ct := N, bk := D.nx } σ' H1) ∧ (b = false → ∀ H1, R M H' H1 → D.nx σ' H1)) : tWhile t tu D σ H :=
  ⟨W, ⟨start, h0⟩, fun m σ' H' w => by
    obtain ⟨b, e, k1, k2⟩ := hs m σ' H' w
    refine e H' (R.refl _) _ fun H1 r => ?_
    cases b with
    | true => exact k1 rfl H1 r
    | false => exact k2 rfl H1 r⟩
theorem q_asg {k : Nat} (h : Ev M te σ H P) (c : ∀ v H1, R M H H1 → P v H1 → tz D (σ.set k (some v)) H1) : tSeq (tAsg te (gName k)) tz D σ H := s_asg (D := { D with nx := tz D }) h c
theorem q_asgL {k : Nat} (h : EL K M te σ H ds) (c : ∀ p xs H1, H p = none → R M H H1 → H1 p = some (.lst xs) → ItAll K H1 xs ds → tz D (σ.set k (some (.ref p))) H1) : tSeq (tAsg te (gName k)) tz D σ H := s_asgL (D := { D with nx := tz D }) h c
theorem q_asgP {k : Nat} {P : List PyData → Prop} (h : ELP K M te σ H P) (c : ∀ p xs ds H1, H p = none → R M H H1 → H1 p = some (.lst xs) → ItAll K H1 xs ds → P ds → tz D (σ.set k (some (.ref p))) H1) : tSeq (tAsg te (gName k)) tz D σ H := s_asgP (D := { D with nx := tz D }) h c
theorem q_asgT (h : ED K M te σ H d) (c : ∀ v H1, R M H H1 → It K H1 v d → gt v σ H1 (tz D)) : tSeq (tAsg te gt) tz D σ H := s_asgT (D := { D with nx := tz D }) h c
theorem q_if {b : Bool} (h : EvT M t σ H b) (h1 : b = true → ∀ H1, R M H H1 → tu { D with nx := tz D } σ H1) (h2 : b = false → ∀ H1, R M H H1 → tw { D with nx := tz D } σ H1) : tSeq (tIfS t tu tw) tz D σ H := s_if (D := { D with nx := tz D }) h h1 h2
theorem q_ifN (h : EvN M t σ H) (h1 : ∀ H1, R M H H1 → tu { D with nx := tz D } σ H1) (h2 : ∀ H1, R M H H1 → tw { D with nx := tz D } σ H1) : tSeq (tIfS t tu tw) tz D σ H := s_ifN (D := { D with nx := tz D }) h h1 h2
theorem q_when {b : Bool} (h : EvT M t σ H b) (h1 : b = true → ∀ H1, R M H H1 → tu { D with nx := tz D } σ H1) (h2 : b = false → ∀ H1, R M H H1 → tz D σ H1) : tSeq (tIfS t tu tNext) tz D σ H := s_when (D := { D with nx := tz D }) h h1 h2
theorem q_whenN (h : EvN M t σ H) (h1 : ∀ H1, R M H H1 → tu { D with nx := tz D } σ H1) (h2 : ∀ H1, R M H H1 → tz D σ H1) : tSeq (tIfS t tu tNext) tz D σ H := s_whenN (D := { D with nx := tz D }) h h1 h2
theorem q_aug {k : Nat} {f : Int → Int → Int} {a : Int} (hx : σ[k]? = some (some (.int a))) (h : ED K M te σ H (.int i)) (c : ∀ H1, R M H H1 → tz D (σ.set k (some (.int (f a i)))) H1) : tSeq (tAug k te (ipI f)) tz D σ H := s_aug (D := { D with nx := tz D }) hx h c
theorem q_par {a b : Nat} {ta : TA} {d e : PyData} (h : EA K M ta σ H [d, e]) (c : ∀ v w H1, R M H H1 → It K H1 v d → It K H1 w e → tz D ((σ.set a (some v)).set b (some w)) H1) : tSeq (tPar a b ta) tz D σ H := s_par (D := { D with nx := tz D }) h c
theorem q_app {l : Addr} {xs : List V} (hl : H l = some (.lst xs)) (nm : ∀ u, ¬ M l u) (ha : EV M ta σ H (.ref l)) (h : Ev M te σ H P) (hz : xs.length < 100000) (c : ∀ v H1, R M H H1 → P v H1 → H1 l = some (.lst xs) → tz D σ (upd H1 l (.lst (xs ++ [v])))) :
    tSeq (tDrop (tBM K "list" rAppend ta (tCons te tNil))) tz D σ H := s_app (D := { D with nx := tz D }) hl nm ha h hz c
theorem q_setL {l : Addr} {xs : List V} {k : Nat} (hl : H l = some (.lst xs)) (nm : ∀ u, ¬ M l u) (h : Ev M te σ H P) (sP : Stb M P) (ho : EV M ta σ H (.ref l)) (hi : ED K M tb σ H (.int (k : Nat))) (hk : k < xs.length)
    (c : ∀ v H1, R M H H1 → P v H1 → H1 l = some (.lst xs) → tz D σ (upd H1 l (.lst (xs.set k v)))) : tSeq (tAsg te (gSub ta tb rSetL)) tz D σ H := s_setL (D := { D with nx := tz D }) hl nm h sP ho hi hk c
theorem q_augL {l : Addr} {xs : List V} {k : Nat} {f : Int → Int → Int} {a : Int} (hl : H l = some (.lst xs)) (nm : ∀ u, ¬ M l u) (ho : EV M ta σ H (.ref l)) (hi : ED K M tb σ H (.int (k : Nat))) (ha : xs[k]? = some (.int a)) (h : ED K M te σ H (.int i))
    (c : ∀ H1, R M H H1 → H1 l = some (.lst xs) → tz D σ (upd H1 l (.lst (xs.set k (.int (f a i)))))) : tSeq (tAugS ta tb te (rGetL K) (ipI f) rSetL) tz D σ H := s_augL (D := { D with nx := tz D }) hl nm ho hi ha h c
theorem q_while (W : Nat → L2.St → Hp → Prop) (start : Nat) (h0 : W start σ H)
    (hs : ∀ m σ' H', W m σ' H' → ∃ b, EvT M t σ' H' b ∧ (b = true → ∀ H1, R M H' H1 → ∃ N : L2.St → Hp → Prop, (∀ σ2 H2, N σ2 H2 → ∃ m', m' < m ∧ W m' σ2 H2) ∧ tu { D with nx := N, ct := N, bk := tz D } σ' H1) ∧ (b = false → ∀ H1, R M H' H1 → tz D σ' H1)) : tSeq (tWhile t tu) tz D σ H := s_while (D := { D with nx := tz D }) W start h0 hs
theorem q_for {M' : MM} (src : Src M G wi σ H n Y) (hM : ∀ a u, M' a u → H a ≠ none ∧ ¬ G a)
    (k : ∀ H2, R M H H2 → ∃ Pv : Nat → L2.St → Hp → Prop, Pv 0 σ H2 ∧
      (∀ i σ' H', i < n → R M' H2 H' → Pv i σ' H' → ∀ v H4, Ex H' H4 → Y i v H4 → gt v σ' H4 fun σ2 H5 => tu { D with nx := fun σ3 H6 => R M' H2 H6 ∧ Pv (i + 1) σ3 H6, ct := fun σ3 H6 => R M' H2 H6 ∧ Pv (i + 1) σ3 H6, bk := tz D } σ2 H5) ∧
      (∀ σ' H', R M' H2 H' → Pv n σ' H' → tz D σ' H')) : tSeq (tFor wi gt tu) tz D σ H := s_for (D := { D with nx := tz D }) src hM k
theorem q_drop (h : Ev M te σ H P) (c : ∀ H1, R M H H1 → tz D σ H1) : tSeq (tDrop te) tz D σ H := h H (R.refl H) _ fun v H1 r _ => c H1 r
theorem ev1 (h : EV M te σ H v) : EvA M (tCons te tNil) σ H fun vs _ => vs = [v] := fun H1 r _ k => h H1 r _ fun w H2 r2 e => k _ H2 r2 (by rw [e])
theorem non_E {a : Addr} : ∀ b u, Non b u → H b ≠ none ∧ ¬ b = a := fun _ _ h => h.elim
/-- len of a tuple, of a list -/
theorem ed_lenT (h : ED K M te σ H (.tuple ds)) : ED K M (tCB (rLen K) (tCons te tNil)) σ H (.int ds.length) := fun H1 r Q k => h H1 r _ fun v H2 r2 p => by
  obtain ⟨a, xs, rfl, hs, hall⟩ := it_tup p
  refine ⟨a, xs, rfl, .inr hs, ?_⟩
  rw [hall.len]
  exact k _ H2 r2 (.int _)
theorem ed_lenV {a : Addr} {xs : List V} (h : EV M te σ H (.ref a)) (nm : ∀ u, ¬ M a u) (hs : SqL K H a xs) : ED K M (tCB (rLen K) (tCons te tNil)) σ H (.int xs.length) := fun H1 r Q k => h H1 r _ fun v H2 r2 p => by
  subst p
  exact ⟨a, xs, rfl, .inl (sql_mono (r.trans r2) nm hs), k _ H2 r2 (.int _)⟩
/-- tuple of a new list -/
theorem ed_tupL (h : EL K M te σ H ds) : ED K M (tCB (rTuple K) (tCons te tNil)) σ H (.tuple ds) := fun H1 r Q k => h H1 r _ fun p xs H2 hn r2 hp hall =>
  ⟨p, xs, rfl, .inl ⟨.inl (.inl hp), fun l hl => k _ _ (r2.new hl) (.tup (.inl (.inl upd_same)) (hall.new hl))⟩⟩
theorem ed_tupP {P : List PyData → Prop} (h : ELP K M te σ H P) : Ev M (tCB (rTuple K) (tCons te tNil)) σ H fun v H2 => ∃ ds, It K H2 v (.tuple ds) ∧ P ds := fun H1 r Q k => h H1 r _ fun p xs ds H2 hn r2 hp hall hP =>
  ⟨p, xs, rfl, .inl ⟨.inl (.inl hp), fun l hl => k _ _ (r2.new hl) ⟨ds, .tup (.inl (.inl upd_same)) (hall.new hl), hP⟩⟩⟩
theorem ed_tupV {a : Addr} {xs : List V} (h : EV M te σ H (.ref a)) (nm : ∀ u, ¬ M a u) (hs : SqL K H a xs) (hall : ItAll K H xs ds) : ED K M (tCB (rTuple K) (tCons te tNil)) σ H (.tuple ds) := fun H1 r Q k => h H1 r _ fun v H2 r2 p => by
  subst p
  have rr := r.trans r2
  exact ⟨a, xs, rfl, .inl ⟨sql_mono rr nm hs, fun l hl => k _ _ (r2.new hl) (.tup (.inl (.inl upd_same)) ((hall.mono rr).new hl))⟩⟩
/-- list of a list or a tuple that the frame knows, of a tuple -/
theorem el_listV {a : Addr} {xs : List V} (h : EV M te σ H (.ref a)) (nm : ∀ u, ¬ M a u) (hs : SqL K H a xs ∨ SqT K H a xs) (hall : ItAll K H xs ds) : EL K M (tCB (rList K) (tCons te tNil)) σ H ds := fun H1 r Q k => h H1 r _ fun v H2 r2 p => by
  subst p
  have rr := r.trans r2
  refine ⟨a, xs, rfl, hs.imp (fun h => sql_mono rr nm h) (fun h => sqt_mono rr h), fun l hl => k l xs _ (r2.free hl) (r2.new hl) upd_same ((hall.mono rr).new hl)⟩
theorem el_listT (h : ED K M te σ H (.tuple ds)) : EL K M (tCB (rList K) (tCons te tNil)) σ H ds := fun H1 r Q k => h H1 r _ fun v H2 r2 p => by
  obtain ⟨a, xs, rfl, hs, hall⟩ := it_tup p
  exact ⟨a, xs, rfl, .inr hs, fun l hl => k l xs _ (r2.free hl) (r2.new hl) upd_same (hall.new hl)⟩
/-- all of a new list of truths -/
theorem ItAll.bools : ∀ {bs : List Bool} {xs : List V}, ItAll K H xs (bs.map .bool) → xs = bs.map .bl
  | [], _, .nil => rfl
  | n :: ns, _, .cons h hs => by rw [List.map_cons, it_bl h, ItAll.bools hs]
theorem ed_all {bs : List Bool} (h : EL K M te σ H (bs.map .bool)) : ED K M (tCB (rAll K) (tCons te tNil)) σ H (.bool (bs.all id)) := fun H1 r Q k => h H1 r _ fun p xs H2 hn r2 hp hall =>
  ⟨p, bs, rfl, .inl (.inl (by rw [hp, hall.bools])), k _ H2 r2 (.bl _)⟩
/-! ### lists of data, item by item -/
theorem ia1 {vs : List V} {d : PyData} (h : ItAll K H vs [d]) : ∃ v, vs = [v] ∧ It K H v d := by
  cases h with
  | cons h hs => cases hs; exact ⟨_, rfl, h⟩
theorem ia2 {vs : List V} {d e : PyData} (h : ItAll K H vs [d, e]) : ∃ v w, vs = [v, w] ∧ It K H v d ∧ It K H w e := by
  cases h with
  | cons h hs => obtain ⟨w, rfl, h2⟩ := ia1 hs; exact ⟨_, _, rfl, h, h2⟩
theorem ia3 {vs : List V} {d e f : PyData} (h : ItAll K H vs [d, e, f]) : ∃ v w x, vs = [v, w, x] ∧ It K H v d ∧ It K H w e ∧ It K H x f := by
  cases h with
  | cons h hs => obtain ⟨w, x, rfl, h2, h3⟩ := ia2 hs; exact ⟨_, _, _, rfl, h, h2, h3⟩
theorem ia4 {vs : List V} {d e f g : PyData} (h : ItAll K H vs [d, e, f, g]) : ∃ v w x y, vs = [v, w, x, y] ∧ It K H v d ∧ It K H w e ∧ It K H x f ∧ It K H y g := by
  cases h with
  | cons h hs => obtain ⟨w, x, y, rfl, h2, h3, h4⟩ := ia3 hs; exact ⟨_, _, _, _, rfl, h, h2, h3, h4⟩
end
end KP

/-! part KP1 -/
set_option Elab.async false
set_option linter.all false
set_option maxRecDepth 100000
set_option maxHeartbeats 4000000
/-! The program's defs: the checks. -/
namespace KP
open PySem PySem.Spec PyProof.Rows L2
def topS (i : Nat) : Stmt := PySem.Challenge.pw_everyflow_k65_whole_value_bounds.main.body.getD i (.Pass ⟨0, 0, 0, 0⟩)
/-- the names of the built-ins and the module's own whole numbers -/
structure GB (mg : Str → Option Value) : Prop where
  isinstance : mg "isinstance" = none
  int : mg "int" = none
  bool : mg "bool" = none
  tuple : mg "tuple" = none
  len : mg "len" = none
  all : mg "all" = none
  zip : mg "zip" = none
  enumerate : mg "enumerate" = none
  list : mg "list" = none
  min : mg "min" = none
  any : mg "any" = none
  range : mg "range" = none
  abs : mg "abs" = none
  repr : mg "repr" = none
  sorted : mg "sorted" = none
  set : mg "set" = none
  max : mg "max" = none
  MOST_PLACES : ∃ t, mg "MOST_PLACES" = some (.int 10 t)
  MOST_ARROWS : ∃ t, mg "MOST_ARROWS" = some (.int 15 t)
  MOST_BOUND : ∃ t, mg "MOST_BOUND" = some (.int 1000000 t)
structure Df (K : PySem.W.Frag) (mg : Str → Option Value) (x : Str) (st : Stmt) : Prop where
  ex : ∃ (f : Addr) (fd : FuncData), Fun K x x st f fd ∧ mg x = some (.ref f)

/-! ### data of the program -/
def pD (p : Int × Int) : PyData := .tuple [.int p.1, .int p.2]
def wD (n : Nat) (A : List (Int × Int)) : PyData := .tuple [.int n, .tuple (A.map pD)]
def bD (B : List (Int × Int)) : PyData := .tuple (B.map pD)
structure WebOk (n : Nat) (A : List (Int × Int)) : Prop where
  n0 : 1 ≤ n
  n1 : n ≤ 10
  m1 : A.length ≤ 15
  ends : ∀ p ∈ A, (0 ≤ p.1 ∧ p.1 < n) ∧ (0 ≤ p.2 ∧ p.2 < n)
structure BdsOk (A B : List (Int × Int)) : Prop where
  len : B.length = A.length
  bd : ∀ p ∈ B, -1000000 ≤ p.1 ∧ p.1 ≤ p.2 ∧ p.2 ≤ 1000000
section
variable {K : PySem.W.Frag} {M : MM} {σ : L2.St} {H H' : Hp} {ta tb te tx tl : TE} {t u : TT} {v x y z : V} {d e : PyData} {P P1 P2 P3 : V → Hp → Prop} {ds es : List PyData} {i j : Int}
theorem tyx_tup {a : Addr} {xs : List V} (h : SqT K H a xs) : TyX K H (.ref a) (.type "tuple") := by
  rcases h with (h | ⟨o, h⟩) | ⟨o, its, n, h, c, _⟩
  · exact .base (.tup h)
  · exact .fTuple h
  · exact .kTuple h c
/-- isinstance of data and a built-in class -/
def tyD : PyData → String
  | .none => "NoneType"
  | .bool _ => "bool"
  | .int _ => "int"
  | .str _ => "str"
  | .tuple _ => "tuple"
  | _ => "object"
theorem tyx_d (h : It K H v d) : TyX K H v (.type (tyD d)) := by
  cases h with
  | non => exact .base .non
  | bl b => exact .base (.bl b)
  | int i => exact .base (.int i)
  | str x => exact .base (.str x)
  | tup h hs => exact tyx_tup h
theorem kb_ii : kitB "int" "int" = some true := by decide +kernel
theorem kb_ib : kitB "int" "bool" = some false := by decide +kernel
theorem kb_tt : kitB "tuple" "tuple" = some true := by decide +kernel
theorem ed_isi {T : String} {b : Bool} (h : ED K M te σ H d) (hb : kitB (tyD d) T = some b) : ED K M (tCB (rIsi K) (tCons te (tCons (tC (.ty T)) tNil))) σ H (.bool b) := fun H1 r Q k => h H1 r _ fun v H2 r2 p =>
  ⟨v, .ty T, .type (tyD d), .type T, b, rfl, .ty T, tyx_d p, kit_ty hb, k _ H2 r2 (.bl b)⟩
theorem ed_eqI (ha : ED K M ta σ H (.int i)) (hb : ED K M tb σ H (.int j)) : ED K M (tOp (rEqD K) ta tb) σ H (.bool (decide (i = j))) := ed_is (ed_eqD ha hb rfl rfl) (by rw [eqv_int])
theorem ed_neI (ha : ED K M ta σ H (.int i)) (hb : ED K M tb σ H (.int j)) : ED K M (tOp (rNeD K) ta tb) σ H (.bool (!decide (i = j))) := ed_is (ed_neD ha hb rfl rfl) (by rw [eqv_int])
theorem got_true {n : Nat} (h : Got (fun _ => true) (fun _ d => d = .bool true) n ds) : ∃ bs : List Bool, ds = bs.map .bool ∧ bs.all id = true := by
  have e := Got.map (F := fun _ => .bool true) h
  refine ⟨(List.range n).map fun _ => true, by rw [e, List.map_map]; rfl, ?_⟩
  rw [List.all_map, List.all_eq_true]
  exact fun _ _ => rfl
theorem ed_allT {n : Nat} (h : ELP K M te σ H (Got (fun _ => true) (fun _ d => d = .bool true) n)) : ED K M (tCB (rAll K) (tCons te tNil)) σ H (.bool true) := fun H1 r Q k => h H1 r _ fun p xs ds H2 hn r2 hp hall hP => by
  obtain ⟨bs, rfl, hb⟩ := got_true hP
  refine ⟨p, bs, rfl, .inl (.inl (by rw [hp, hall.bools])), ?_⟩
  rw [hb]
  exact k _ H2 r2 (.bl _)
theorem et_yes : EvT M tYes σ H true := fun H1 r Q k => k H1 (R.refl _)
theorem non_M : ∀ a u, Non a u → H a ≠ none ∧ ¬ NoG a := fun _ _ h => h.elim
theorem ev_dd {P0 : PyData → Prop} (h : ED K M te σ H d) (p : P0 d) : Ev M te σ H fun v H2 => ∃ d, It K H2 v d ∧ P0 d := h.imp fun v H2 _ q => ⟨d, q, p⟩
/-- a call whose promise is of data: arguments data, result data -/
abbrev SpD (K : PySem.W.Frag) (pre : List PyData → PyData → Prop) : Sp := fun vs H Q _ => ∃ ds d, ItAll K H vs ds ∧ pre ds d ∧ RetD K d H Q
theorem ed_call {pre : List PyData → PyData → Prop} {E : XK} {ta : TA} (h : EA K M ta σ H ds) (hp : pre ds d) : ED K M (tCall (SpD K pre) [] E ta) σ H d := ev_call h fun vs H1 r p Q k => ⟨ds, d, p, hp, fun v H2 e p2 => k v H2 (R.of e) p2⟩
theorem ea1 (h : ED K M ta σ H d) : EA K M (tCons ta tNil) σ H [d] := ea_cons h ea_nil
theorem ea2 (h : ED K M ta σ H d) (h2 : ED K M tb σ H e) : EA K M (tCons ta (tCons tb tNil)) σ H [d, e] := ea_cons h (ea1 h2)
theorem ea3 {f : PyData} (h : ED K M ta σ H d) (h2 : ED K M tb σ H e) (h3 : ED K M tx σ H f) : EA K M (tCons ta (tCons tb (tCons tx tNil))) σ H [d, e, f] := ea_cons h (ea2 h2 h3)
end

section
variable {P : Program} {w : World} {K : PySem.W.Frag} {mg : Str → Option Value} {base : Heap}
-- is_integer: slots value=0
abbrev s_is_integer : Stmt := topS 9
abbrev N_is_integer : List Str := ["value"]
theorem sc_is_integer : FnScope N_is_integer ["value"] (defScope s_is_integer) := ⟨rfl, rfl, rfl, by decide +kernel, rfl, by decide +kernel, by decide +kernel⟩
abbrev sp_is_integer (K : PySem.W.Frag) : Sp := SpD K fun ds d => ∃ i, ds = [.int i] ∧ d = .bool true
theorem cl_is_integer (B : GB mg) (DF : Df K mg "is_integer" s_is_integer) : Cl P w K mg base 1 "is_integer" (sp_is_integer K) := by
  obtain ⟨f, fd, F, g⟩ := DF.ex
  refine ⟨f, fd, ["value"], F.ok sc_is_integer (fun vs H Q E h => ?_) (fun cdv A outer s H vs Q E hr h => ?_), g, F.kp, F.binds fun _ _ _ _ _ _ us hl => match us, hl with | [_], _ => rfl⟩
  · obtain ⟨ds, d, hv, ⟨i, rfl, rfl⟩, k⟩ := h
    exact hv.len
  · obtain ⟨ds, d, hv, ⟨i, rfl, rfl⟩, k⟩ := h
    obtain rfl := ItAll.ints (ns := [i]) hv
    have nd := sc_is_integer.nd
    refine ⟨_, (pss_one (ps_ret (pe_and (pe_callB (call_isi_K (K := K)) (by rfl) B.isinstance boot_isinstance (pa_cons (pv 0) (pa_cons (pe_bltn (v := V.ty "int") (by rfl) B.int boot_int rfl) pa_nil))) (pe_one (pe_not (pe_callB (call_isi_K (K := K)) (by rfl) B.isinstance boot_isinstance (pa_cons (pv 0) (pa_cons (pe_bltn (v := V.ty "bool") (by rfl) B.bool boot_bool rfl) pa_nil)))))))), ?_⟩
    refine s_ret (M := Non) (P := fun v H => It K H v (.bool true)) ?_ fun v H1 r p => k v H1 r.ex p
    have hv : ED K Non (tVar 0) (start N_is_integer [V.int i]) H (.int i) := ed_var rfl (.int i)
    exact ed_andV (a := true) (b := true) (ed_isi hv kb_ii) fun _ => ed_notV (a := false) (ed_isi hv kb_ib)

-- is_between: slots low=0 value=1 high=2
abbrev s_is_between : Stmt := topS 10
abbrev N_is_between : List Str := ["low", "value", "high"]
theorem sc_is_between : FnScope N_is_between ["low", "value", "high"] (defScope s_is_between) := ⟨rfl, rfl, rfl, by decide +kernel, rfl, by decide +kernel, by decide +kernel⟩
abbrev sp_is_between (K : PySem.W.Frag) : Sp := SpD K fun ds d => ∃ a i b : Int, ds = [.int a, .int i, .int b] ∧ (a ≤ i ∧ i ≤ b) ∧ d = .bool true
theorem cl_is_between (c_is_integer : Cl P w K mg base 1 "is_integer" (sp_is_integer K)) (B : GB mg) (DF : Df K mg "is_between" s_is_between) : Cl P w K mg base 2 "is_between" (sp_is_between K) := by
  obtain ⟨f, fd, F, g⟩ := DF.ex
  refine ⟨f, fd, ["low", "value", "high"], F.ok sc_is_between (fun vs H Q E h => ?_) (fun cdv A outer s H vs Q E hr h => ?_), g, F.kp, F.binds fun _ _ _ _ _ _ us hl => match us, hl with | [_, _, _], _ => rfl⟩
  · obtain ⟨ds, d, hv, ⟨a, i, b, rfl, _⟩, k⟩ := h
    exact hv.len
  · obtain ⟨ds, d, hv, ⟨a, i, b, rfl, ⟨hab, hbc⟩, rfl⟩, k⟩ := h
    obtain rfl := ItAll.ints (ns := [a, i, b]) hv
    have nd := sc_is_between.nd
    refine ⟨_, (pss_one (ps_ret (pe_and (pe_k c_is_integer hr (by decide) (by rfl) (pa_cons (pv 1) pa_nil)) (pe_one (pe_chain op_le op_le (pv 0) (pv 1) (pv 2)))))), ?_⟩
    refine s_ret (M := Non) (P := fun v H => It K H v (.bool true)) ?_ fun v H1 r p => k v H1 r.ex p
    have h0 : ED K Non (tVar 0) (start N_is_between [V.int a, V.int i, V.int b]) H (.int a) := ed_var rfl (.int a)
    have h1 : ED K Non (tVar 1) (start N_is_between [V.int a, V.int i, V.int b]) H (.int i) := ed_var rfl (.int i)
    have h2 : ED K Non (tVar 2) (start N_is_between [V.int a, V.int i, V.int b]) H (.int b) := ed_var rfl (.int b)
    refine ed_andV (a := true) (b := true) (ed_call (ea1 h1) ⟨i, rfl, rfl⟩) fun _ => ed_is (ed_chain h0 h1 h2) ?_
    simp [hab, hbc]

-- is_tuple_of: slots many=0 value=1
abbrev s_is_tuple_of : Stmt := topS 11
abbrev N_is_tuple_of : List Str := ["many", "value"]
theorem sc_is_tuple_of : FnScope N_is_tuple_of ["many", "value"] (defScope s_is_tuple_of) := ⟨rfl, rfl, rfl, by decide +kernel, rfl, by decide +kernel, by decide +kernel⟩
abbrev sp_is_tuple_of (K : PySem.W.Frag) : Sp := SpD K fun ds d => ∃ es : List PyData, ds = [.int es.length, .tuple es] ∧ d = .bool true
theorem cl_is_tuple_of (B : GB mg) (DF : Df K mg "is_tuple_of" s_is_tuple_of) : Cl P w K mg base 1 "is_tuple_of" (sp_is_tuple_of K) := by
  obtain ⟨f, fd, F, g⟩ := DF.ex
  refine ⟨f, fd, ["many", "value"], F.ok sc_is_tuple_of (fun vs H Q E h => ?_) (fun cdv A outer s H vs Q E hr h => ?_), g, F.kp, F.binds fun _ _ _ _ _ _ us hl => match us, hl with | [_, _], _ => rfl⟩
  · obtain ⟨ds, d, hv, ⟨i, rfl, rfl⟩, k⟩ := h
    exact hv.len
  · obtain ⟨ds, d, hv, ⟨es, rfl, rfl⟩, k⟩ := h
    obtain ⟨v0, v1, rfl, hv0, hv1⟩ := ia2 hv
    have nd := sc_is_tuple_of.nd
    refine ⟨_, (pss_one (ps_ret (pe_and (pe_callB (call_isi_K (K := K)) (by rfl) B.isinstance boot_isinstance (pa_cons (pv 1) (pa_cons (pe_bltn (v := V.ty "tuple") (by rfl) B.tuple boot_tuple rfl) pa_nil))) (pe_one (pe_cmpR (op_eq_K (K := K) hr.units) (pe_callB (call_len_K (K := K)) (by rfl) B.len boot_len (pa_cons (pv 1) pa_nil)) (pv 0) (nomark _)))))), ?_⟩
    refine s_ret (M := Non) (P := fun v H => It K H v (.bool true)) ?_ fun v H1 r p => k v H1 r.ex p
    have h0 : ED K Non (tVar 0) (start N_is_tuple_of [v0, v1]) H (.int es.length) := ed_var rfl hv0
    have h1 : ED K Non (tVar 1) (start N_is_tuple_of [v0, v1]) H (.tuple es) := ed_var rfl hv1
    refine ed_andV (a := true) (b := true) (ed_isi h1 kb_tt) fun _ => ed_is (ed_eqI (ed_lenT h1) h0) ?_
    simp

-- is_web: slots value=0c arrow=1
abbrev s_is_web : Stmt := topS 13
abbrev N_is_web : List Str := ["value", "arrow"]
theorem sc_is_web : FnScope N_is_web ["value"] (defScope s_is_web) := ⟨rfl, rfl, rfl, by decide +kernel, rfl, by decide +kernel, by decide +kernel⟩
abbrev sp_is_web (K : PySem.W.Frag) : Sp := SpD K fun ds d => ∃ n A, ds = [wD n A] ∧ WebOk n A ∧ d = .bool true
theorem cl_is_web (c_is_between : Cl P w K mg base 2 "is_between" (sp_is_between K)) (c_is_tuple_of : Cl P w K mg base 1 "is_tuple_of" (sp_is_tuple_of K)) (B : GB mg) (DF : Df K mg "is_web" s_is_web) : Cl P w K mg base 3 "is_web" (sp_is_web K) := by
  obtain ⟨f, fd, F, g⟩ := DF.ex
  refine ⟨f, fd, ["value"], F.ok sc_is_web (fun vs H Q E h => ?_) (fun cdv A outer s H vs Q E hr h => ?_), g, F.kp, F.binds fun _ _ _ _ _ _ us hl => match us, hl with | [_], _ => rfl⟩
  · obtain ⟨ds, d, hv, ⟨n, A, rfl, _⟩, k⟩ := h
    exact hv.len
  · obtain ⟨ds, d, hv, ⟨n, A, rfl, W, rfl⟩, k⟩ := h
    obtain ⟨v0, rfl, hv0⟩ := ia1 hv
    have nd := sc_is_web.nd
    refine ⟨_, (pss_cons (ps_if (PW.pt (pw_or (pt_not (pt_val (pe_k c_is_tuple_of hr (by decide) (by rfl) (pa_cons pe_int (pa_cons (pv 0) pa_nil))))) (pw_or (pt_not (pt_val (pe_k c_is_between hr (by decide) (by rfl) (pa_cons pe_int (pa_cons (pe_ix (ix_K (K := K)) (pv 0) pe_int (fun _ _ => rfl)) (pa_cons (pe_gl (by rfl) B.MOST_PLACES) pa_nil)))))) (pw_or1 (pt_not (pt_val (pe_callB (call_isi_K (K := K)) (by rfl) B.isinstance boot_isinstance (pa_cons (pe_ix (ix_K (K := K)) (pv 0) pe_int (fun _ _ => rfl)) (pa_cons (pe_bltn (v := V.ty "tuple") (by rfl) B.tuple boot_tuple rfl) pa_nil))))))))) (pss_one (ps_ret pe_bl)) pss_nil)
      (pss_cons (ps_if (PW.pt (pw_or (pt_cmpR op_gt (pe_callB (call_len_K (K := K)) (by rfl) B.len boot_len (pa_cons (pe_ix (ix_K (K := K)) (pv 0) pe_int (fun _ _ => rfl)) pa_nil)) (pe_gl (by rfl) B.MOST_ARROWS) (nomark _)) (pw_or1 (pt_not (pt_val (pe_callB (cr_all_K (K := K) rfl) (by rfl) B.all boot_all (pa_cons (pe_lc (own := [("arrow", 1)]) (g := (gName 1)) rfl nd (pi_tup_K (K := K) (pe_ix (ix_K (K := K)) (pv 0) pe_int (fun _ _ => rfl))) (blkOk_by (own := [("arrow", 1)]) (N := N_is_web) (sc := defScope s_is_web) (by decide +kernel)) (fun _ _ _ _ _ => (pg_name (i := 1) nd rfl (.inl rfl))) (fun _ _ _ _ _ => pts_nil) (fun _ _ _ _ _ => (pe_k c_is_tuple_of hr (by decide) (by rfl) (pa_cons pe_int (pa_cons (pv 1) pa_nil))))) pa_nil))))))) (pss_one (ps_ret pe_bl)) pss_nil)
      (pss_one (ps_ret (pe_callB (cr_all_K (K := K) rfl) (by rfl) B.all boot_all (pa_cons (pe_lc (own := [("arrow", 1)]) (g := (gName 1)) rfl nd (pi_tup_K (K := K) (pe_ix (ix_K (K := K)) (pv 0) pe_int (fun _ _ => rfl))) (blkOk_by (own := [("arrow", 1)]) (N := N_is_web) (sc := defScope s_is_web) (by decide +kernel)) (fun _ _ _ _ _ => (pg_name (i := 1) nd rfl (.inl rfl))) (fun _ _ _ _ _ => pts_nil) (fun _ _ _ _ _ => (pe_and (pe_k c_is_between hr (by decide) (by rfl) (pa_cons pe_int (pa_cons (pe_ix (ix_K (K := K)) (pv 1) pe_int (fun _ _ => rfl)) (pa_cons (pe_op op_sub (pe_ix (ix_K (K := K)) (pv 0) pe_int (fun _ _ => rfl)) pe_int) pa_nil)))) (pe_one (pe_k c_is_between hr (by decide) (by rfl) (pa_cons pe_int (pa_cons (pe_ix (ix_K (K := K)) (pv 1) pe_int (fun _ _ => rfl)) (pa_cons (pe_op op_sub (pe_ix (ix_K (K := K)) (pv 0) pe_int (fun _ _ => rfl)) pe_int) pa_nil)))))))) pa_nil)))))), ?_⟩
    have hw : ∀ {H'}, Ex H H' → ∀ {σ : L2.St}, σ[0]? = some (some v0) → ED K Non (tVar 0) σ H' (wD n A) := fun e σ hσ => ed_var hσ (hv0.mono (R.of (M := Non) e))
    have hn : ∀ {H'}, Ex H H' → ∀ {σ : L2.St}, σ[0]? = some (some v0) → ED K Non (tOp (rIx K) (tVar 0) (tC (.int 0))) σ H' (.int n) := fun e σ hσ => ed_ix (hw e hσ) ed_i rfl
    have hA : ∀ {H'}, Ex H H' → ∀ {σ : L2.St}, σ[0]? = some (some v0) → ED K Non (tOp (rIx K) (tVar 0) (tC (.int 1))) σ H' (.tuple (A.map pD)) := fun e σ hσ => ed_ix (hw e hσ) ed_i rfl
    have e0 := ex_rfl (H := H)
    refine q_when (M := Non) (b := false) ?_ (fun z => nomatch z) fun _ H1 r1 => ?_
    · refine et_or (a := false) (b := false) (et_not (a := true) (et_test (ed_call (ea2 ed_i (hw e0 rfl)) ⟨[.int n, .tuple (A.map pD)], rfl, rfl⟩))) fun _ => et_or (a := false) (b := false) (et_not (a := true) (et_test (ed_call (ea3 ed_i (hn e0 rfl) ed_i) ⟨1, n, 10, rfl, ⟨?_, ?_⟩, rfl⟩))) fun _ => et_not (a := true) (et_test (ed_isi (hA e0 rfl) kb_tt))
      · have := W.n0; omega
      · have := W.n1; omega
    refine q_when (M := Non) (b := false) ?_ (fun z => nomatch z) fun _ H2 r2 => ?_
    · refine et_or (a := false) (b := false) (et_is (et_test (ed_B0 (ed_lenT (hA r1.ex rfl)) ed_i)) ?_) fun _ => et_not (a := true) (et_test (ed_allT (n := (A.map pD).length) ?_))
      · have := W.m1
        simp
        omega
      · refine elp_lc (src_tup (hA r1.ex (σ := start N_is_web [v0]) rfl)) non_M ?_ _ _ (fun i v H3 hi r3 hy => ?_)
        · rw [List.length_map]; have := W.m1; omega
        · obtain ⟨d, hd, hv⟩ := hy
          rw [List.getElem?_map] at hd
          obtain ⟨p, hp, rfl⟩ := Option.map_eq_some_iff.mp hd
          exact ⟨_, bd_name, rfl, et_yes, fun _ => ev_dd (ed_call (ea2 ed_i (ed_var rfl hv)) ⟨[.int p.1, .int p.2], rfl, rfl⟩) rfl⟩
    · refine s_ret (M := Non) (P := fun v H => It K H v (.bool true)) ?_ fun v H1 r p => k v H1 ((r1.trans r2).trans r).ex p
      refine ed_allT (n := (A.map pD).length) ?_
      refine elp_lc (src_tup (hA (r1.trans r2).ex (σ := start N_is_web [v0]) rfl)) non_M ?_ _ _ (fun i v H3 hi r3 hy => ?_)
      · rw [List.length_map]; have := W.m1; omega
      · obtain ⟨d, hd, hv⟩ := hy
        rw [List.getElem?_map] at hd
        obtain ⟨p, hp, rfl⟩ := Option.map_eq_some_iff.mp hd
        have W2 := W.ends p (List.mem_of_getElem? hp)
        have hn' : ED K Non (tOp (rIx K) (tVar 0) (tC (.int 0))) ((wipe (start N_is_web [v0]) [1]).set 1 (some v)) H3 (.int n) := hn ((r1.trans r2).trans r3).ex rfl
        refine ⟨_, bd_name, rfl, et_yes, fun _ => ev_dd (ed_andV (a := true) (b := true) (ed_call (ea3 ed_i (ed_ix (ed_var rfl hv) ed_i rfl) (ed_I0 (g := fun i j => i - j) hn' ed_i)) ⟨0, p.1, n - 1, rfl, ?_, rfl⟩) fun _ => ed_call (ea3 ed_i (ed_ix (ed_var rfl hv) ed_i rfl) (ed_I0 (g := fun i j => i - j) hn' ed_i)) ⟨0, p.2, n - 1, rfl, ?_, rfl⟩) rfl⟩
        · omega
        · omega
end
end KP

/-! part KP2 -/
set_option Elab.async false
set_option linter.all false
set_option maxRecDepth 100000
set_option maxHeartbeats 4000000
/-! The program's defs: check_web, check_arrow, are_bounds, check_bounds, excess_of. -/
namespace KP
open PySem PySem.Spec PyProof.Rows L2
/-! ### webs and bounds as functions -/
def xW (A : List (Int × Int)) (k : Nat) : Int := (A.getD k (0, 0)).1
def yW (A : List (Int × Int)) (k : Nat) : Int := (A.getD k (0, 0)).2
theorem xW_at {A : List (Int × Int)} {k : Nat} {p : Int × Int} (h : A[k]? = some p) : xW A k = p.1 := by unfold xW; rw [List.getD_eq_getElem?_getD, h]; rfl
theorem yW_at {A : List (Int × Int)} {k : Nat} {p : Int × Int} (h : A[k]? = some p) : yW A k = p.2 := by unfold yW; rw [List.getD_eq_getElem?_getD, h]; rfl
def fL (c : List Int) (k : Nat) : Int := c.getD k 0
theorem fL_at {c : List Int} {k : Nat} {i : Int} (h : c[k]? = some i) : fL c k = i := by unfold fL; rw [List.getD_eq_getElem?_getD, h]; rfl
theorem WebOk.at {n : Nat} {A : List (Int × Int)} (W : WebOk n A) {k : Nat} {p : Int × Int} (h : A[k]? = some p) : ∃ X Y : Nat, X < n ∧ Y < n ∧ p = ((X : Int), (Y : Int)) := by
  obtain ⟨⟨h1, h2⟩, h3, h4⟩ := W.ends p (List.mem_of_getElem? h)
  refine ⟨p.1.toNat, p.2.toNat, by omega, by omega, ?_⟩
  rw [Int.toNat_of_nonneg h1, Int.toNat_of_nonneg h3]
theorem WebOk.Ends {n : Nat} {A : List (Int × Int)} (W : WebOk n A) : KM.Ends n A.length (xW A) (yW A) := fun k hk => by
  have h := List.getElem?_eq_getElem hk
  have z := W.ends _ (List.mem_of_getElem? h)
  rw [xW_at h, yW_at h]
  exact z
theorem get_map {α β : Type} {F : α → β} {A : List α} {i : Nat} {d : β} (h : (A.map F)[i]? = some d) : ∃ p, A[i]? = some p ∧ F p = d := by
  rw [List.getElem?_map] at h
  exact Option.map_eq_some_iff.mp h
theorem map_get {α β : Type} {F : α → β} {A : List α} {i : Nat} {p : α} (h : A[i]? = some p) : (A.map F)[i]? = some (F p) := by
  rw [List.getElem?_map, h]; rfl
theorem atI_nat {α : Type} {A : List α} {i : Nat} {p : α} (h : A[i]? = some p) : L2.atI A (i : Int) = some p := by
  unfold L2.atI
  rw [ixn_nat (List.getElem?_eq_some_iff.mp h).1]
  exact h
theorem set_rng {α : Type} {n k : Nat} {F : Nat → α} {v : α} : ((List.range n).map F).set k v = (List.range n).map fun j => if j = k then v else F j := by
  apply List.ext_getElem?
  intro j
  rw [List.getElem?_set]
  simp only [List.length_map, List.length_range, List.getElem?_map, List.getElem?_range]
  by_cases c : k = j
  · subst c
    by_cases d : k < n
    · simp [d]
    · simp [d]
  · rw [if_neg c]
    by_cases d : j < n
    · have c2 : ¬ j = k := fun z => c z.symm
      simp [d, c2]
    · simp [d]
theorem rng_get {α : Type} {n k : Nat} {F : Nat → α} (h : k < n) : ((List.range n).map F)[k]? = some (F k) := by simp [h]
theorem rep_flat (n : Nat) (v : V) : (List.replicate n [v]).flatten = List.replicate n v := by
  induction n with
  | zero => rfl
  | succ n ih => rw [List.replicate_succ, List.flatten_cons, ih, List.replicate_succ]; rfl
theorem rep_rng {α : Type} (n : Nat) (v : α) : List.replicate n v = (List.range n).map fun _ => v := by
  apply List.ext_getElem?
  intro j
  by_cases d : j < n
  · simp [d]
  · simp [d]
def excL (n : Nat) (A : List (Int × Int)) (c : List Int) : List Int := (List.range n).map fun v => KM.exc A.length (xW A) (yW A) (fL c) (v : Nat)
section
variable {K : PySem.W.Frag} {M : MM} {σ : L2.St} {H H' : Hp} {ta tb te tx tl : TE} {t u : TT} {v x y z : V} {d e : PyData} {P P1 P2 P3 : V → Hp → Prop} {ds es : List PyData} {i j : Int}
theorem ItAll.rep (h : It K H v d) : ∀ n : Nat, ItAll K H (List.replicate n v) (List.replicate n d)
  | 0 => .nil
  | n + 1 => .cons h (ItAll.rep h n)
/-- [c] * n -/
theorem el_rep {n : Nat} (ha : EL K Non ta σ H [d]) (hb : ED K Non tb σ H (.int (n : Nat))) (hn : n ≤ 100000) : EL K Non (tOp rRep ta tb) σ H (List.replicate n d) := fun H1 r Q k => ha H1 r _ fun p xs H2 hp r2 hx hall => hb H2 (r.trans r2) _ fun w H3 r3 e3 => by
  obtain ⟨v, rfl, hv⟩ := ia1 hall
  have h3 := r3.keep (fun z => z) hx
  have hl := line63
  have : n ≤ sizeLine := small hn
  refine ⟨p, n, [v], rfl, it_int e3, h3, by omega, by omega, ?_, fun l hl => ?_⟩
  · rw [Int.toNat_natCast]
    show 1 * n ≤ sizeLine
    omega
  · rw [Int.toNat_natCast, rep_flat]
    exact k l _ _ (r2.free (r3.free hl)) ((r2.trans r3).new hl) upd_same (ItAll.rep ((hv.mono r3).new hl) n)
theorem nn {a : Addr} {u : HO} (h : H a = some u) : H a ≠ none := by rw [h]; exact fun z => nomatch z
theorem yd_map {α : Type} {A : List α} {F : α → PyData} {i : Nat} (h : YD K (A.map F) i v H) : ∃ p, A[i]? = some p ∧ It K H v (F p) := by
  obtain ⟨d, hd, hv⟩ := h
  obtain ⟨p, hp, rfl⟩ := get_map hd
  exact ⟨p, hp, hv⟩
theorem ye_map {α : Type} {A : List α} {F : α → PyData} {i : Nat} (h : YE K (A.map F) i v H) : ∃ p, A[i]? = some p ∧ It K H v (.tuple [.int (i : Nat), F p]) := by
  obtain ⟨d, hd, hv⟩ := h
  obtain ⟨p, hp, rfl⟩ := get_map hd
  exact ⟨p, hp, hv⟩
theorem ed_allB {bs : List PyData} (h : ELP K M te σ H (fun ds => ds.length = n0 ∧ ∀ d ∈ ds, d = .bool true)) : ED K M (tCB (rAll K) (tCons te tNil)) σ H (.bool true) := fun H1 r Q k => h H1 r _ fun p xs ds H2 hn r2 hp hall hP => by
  have e : ds = (List.replicate ds.length true).map .bool := by
    rw [List.map_replicate]
    exact List.eq_replicate_iff.mpr ⟨rfl, hP.2⟩
  rw [e] at hall
  refine ⟨p, _, rfl, .inl (.inl (by rw [hp, hall.bools])), ?_⟩
  rw [show (List.replicate ds.length true).all id = true from List.all_eq_true.mpr fun x hx => by rw [List.eq_of_mem_replicate hx]; rfl]
  exact k _ H2 r2 (.bl _)
end

section
variable {P : Program} {w : World} {K : PySem.W.Frag} {mg : Str → Option Value} {base : Heap}
-- check_web: slots web=0
abbrev s_check_web : Stmt := topS 14
abbrev N_check_web : List Str := ["web"]
theorem sc_check_web : FnScope N_check_web ["web"] (defScope s_check_web) := ⟨rfl, rfl, rfl, by decide +kernel, rfl, by decide +kernel, by decide +kernel⟩
abbrev sp_check_web (K : PySem.W.Frag) : Sp := SpD K fun ds d => ∃ n A, ds = [wD n A] ∧ WebOk n A ∧ d = .none
theorem cl_check_web (c_is_web : Cl P w K mg base 3 "is_web" (sp_is_web K)) (B : GB mg) (DF : Df K mg "check_web" s_check_web) : Cl P w K mg base 4 "check_web" (sp_check_web K) := by
  obtain ⟨f, fd, F, g⟩ := DF.ex
  refine ⟨f, fd, ["web"], F.ok sc_check_web (fun vs H Q E h => ?_) (fun cdv A outer s H vs Q E hr h => ?_), g, F.kp, F.binds fun _ _ _ _ _ _ us hl => match us, hl with | [_], _ => rfl⟩
  · obtain ⟨ds, d, hv, ⟨n, A, rfl, _⟩, k⟩ := h
    exact hv.len
  · obtain ⟨ds, d, hv, ⟨n, A, rfl, W, rfl⟩, k⟩ := h
    obtain ⟨v0, rfl, hv0⟩ := ia1 hv
    have nd := sc_check_web.nd
    refine ⟨_, (pss_one (ps_if (pt_not (pt_val (pe_k c_is_web hr (by decide) (by rfl) (pa_cons (pv 0) pa_nil)))) (pss_one ps_never) pss_nil)), ?_⟩
    exact s_when (M := Non) (b := false) (et_not (a := true) (et_test (ed_call (ea1 (ed_var rfl hv0)) ⟨n, A, rfl, W, rfl⟩))) (fun z => nomatch z) fun _ H1 r => k _ H1 r.ex .non

-- check_arrow: slots web=0 arrow=1
abbrev s_check_arrow : Stmt := topS 15
abbrev N_check_arrow : List Str := ["web", "arrow"]
theorem sc_check_arrow : FnScope N_check_arrow ["web", "arrow"] (defScope s_check_arrow) := ⟨rfl, rfl, rfl, by decide +kernel, rfl, by decide +kernel, by decide +kernel⟩
abbrev sp_check_arrow (K : PySem.W.Frag) : Sp := SpD K fun ds d => ∃ n A, ∃ k : Nat, ds = [wD n A, .int k] ∧ k < A.length ∧ d = .none
theorem cl_check_arrow (c_is_between : Cl P w K mg base 2 "is_between" (sp_is_between K)) (B : GB mg) (DF : Df K mg "check_arrow" s_check_arrow) : Cl P w K mg base 3 "check_arrow" (sp_check_arrow K) := by
  obtain ⟨f, fd, F, g⟩ := DF.ex
  refine ⟨f, fd, ["web", "arrow"], F.ok sc_check_arrow (fun vs H Q E h => ?_) (fun cdv A outer s H vs Q E hr h => ?_), g, F.kp, F.binds fun _ _ _ _ _ _ us hl => match us, hl with | [_, _], _ => rfl⟩
  · obtain ⟨ds, d, hv, ⟨n, A, j, rfl, _⟩, k⟩ := h
    exact hv.len
  · obtain ⟨ds, d, hv, ⟨n, A, j, rfl, hj, rfl⟩, k⟩ := h
    obtain ⟨v0, v1, rfl, hv0, hv1⟩ := ia2 hv
    have nd := sc_check_arrow.nd
    refine ⟨_, (pss_one (ps_if (pt_not (pt_val (pe_k c_is_between hr (by decide) (by rfl) (pa_cons pe_int (pa_cons (pv 1) (pa_cons (pe_op op_sub (pe_callB (call_len_K (K := K)) (by rfl) B.len boot_len (pa_cons (pe_ix (ix_K (K := K)) (pv 0) pe_int (fun _ _ => rfl)) pa_nil)) pe_int) pa_nil)))))) (pss_one ps_never) pss_nil)), ?_⟩
    refine s_when (M := Non) (b := false) (et_not (a := true) (et_test (ed_call (ea3 ed_i (ed_var rfl hv1) (ed_I0 (g := fun i j => i - j) (ed_lenT (ed_ix (ed_var rfl hv0) ed_i rfl)) ed_i)) ⟨0, j, _, rfl, ⟨by omega, ?_⟩, rfl⟩))) (fun z => nomatch z) fun _ H1 r => k _ H1 r.ex .non
    rw [List.length_map]; omega

-- are_bounds: slots web=0 value=1 low=2 high=3 pair=4 side=5
abbrev s_are_bounds : Stmt := topS 19
abbrev N_are_bounds : List Str := ["web", "value", "low", "high", "pair", "side"]
theorem sc_are_bounds : FnScope N_are_bounds ["web", "value"] (defScope s_are_bounds) := ⟨rfl, rfl, rfl, by decide +kernel, rfl, by decide +kernel, by decide +kernel⟩
abbrev sp_are_bounds (K : PySem.W.Frag) : Sp := SpD K fun ds d => ∃ n A Bs, ds = [wD n A, bD Bs] ∧ WebOk n A ∧ BdsOk A Bs ∧ d = .bool true
theorem cl_are_bounds (c_is_between : Cl P w K mg base 2 "is_between" (sp_is_between K)) (c_is_tuple_of : Cl P w K mg base 1 "is_tuple_of" (sp_is_tuple_of K)) (B : GB mg) (DF : Df K mg "are_bounds" s_are_bounds) : Cl P w K mg base 3 "are_bounds" (sp_are_bounds K) := by
  obtain ⟨f, fd, F, g⟩ := DF.ex
  refine ⟨f, fd, ["web", "value"], F.ok sc_are_bounds (fun vs H Q E h => ?_) (fun cdv A outer s H vs Q E hr h => ?_), g, F.kp, F.binds fun _ _ _ _ _ _ us hl => match us, hl with | [_, _], _ => rfl⟩
  · obtain ⟨ds, d, hv, ⟨n, A, Bs, rfl, _⟩, k⟩ := h
    exact hv.len
  · obtain ⟨ds, d, hv, ⟨n, A, Bs, rfl, W, BO, rfl⟩, k⟩ := h
    obtain ⟨v0, v1, rfl, hv0, hv1⟩ := ia2 hv
    have nd := sc_are_bounds.nd
    refine ⟨_, (pss_cons (ps_if (PW.pt (pw_or (pt_not (pt_val (pe_k c_is_tuple_of hr (by decide) (by rfl) (pa_cons (pe_callB (call_len_K (K := K)) (by rfl) B.len boot_len (pa_cons (pe_ix (ix_K (K := K)) (pv 0) pe_int (fun _ _ => rfl)) pa_nil)) (pa_cons (pv 1) pa_nil))))) (pw_or1 (pt_not (pt_val (pe_callB (cr_all_K (K := K) rfl) (by rfl) B.all boot_all (pa_cons (pe_lc (own := [("pair", 4)]) (g := (gName 4)) rfl nd (pi_tup_K (K := K) (pv 1)) (blkOk_by (own := [("pair", 4)]) (N := N_are_bounds) (sc := defScope s_are_bounds) (by decide +kernel)) (fun _ _ _ _ _ => (pg_name (i := 4) nd rfl (.inl rfl))) (fun _ _ _ _ _ => pts_nil) (fun _ _ _ _ _ => (pe_k c_is_tuple_of hr (by decide) (by rfl) (pa_cons pe_int (pa_cons (pv 4) pa_nil))))) pa_nil))))))) (pss_one (ps_ret pe_bl)) pss_nil)
      (pss_cons (ps_if (pt_not (pt_val (pe_callB (cr_all_K (K := K) rfl) (by rfl) B.all boot_all (pa_cons (pe_lc2 (own := [("pair", 4), ("side", 5)]) (vs1 := [5]) (g := (gName 4)) (g1 := (gName 5)) rfl nd (pi_tup_K (K := K) (pv 1)) (blkOk_by (own := [("pair", 4), ("side", 5)]) (N := N_are_bounds) (sc := defScope s_are_bounds) (by decide +kernel)) (by decide) (fun _ _ _ _ _ => (pg_name (i := 4) nd rfl (.inl rfl))) (fun _ _ _ _ _ => pts_nil) (fun _ _ _ _ _ => (pi_tup_K (K := K) (pe_tup (pa_cons pe_int (pa_cons pe_int pa_nil))))) (fun _ _ _ _ _ => (pg_name (i := 5) nd rfl (.inl rfl))) (fun _ _ _ _ _ => pts_nil) (fun _ _ _ _ _ => (pe_k c_is_between hr (by decide) (by rfl) (pa_cons (pe_un un_neg (pe_gl (by rfl) B.MOST_BOUND)) (pa_cons (pe_ix (ix_K (K := K)) (pv 4) (pv 5) (fun _ _ => rfl)) (pa_cons (pe_gl (by rfl) B.MOST_BOUND) pa_nil)))))) pa_nil)))) (pss_one (ps_ret pe_bl)) pss_nil)
      (pss_one (ps_ret (pe_callB (cr_all_K (K := K) rfl) (by rfl) B.all boot_all (pa_cons (pe_lc (own := [("low", 2), ("high", 3)]) (g := (gTup K 2 (gCons (gName 2) (gCons (gName 3) gNil)))) rfl nd (pi_tup_K (K := K) (pv 1)) (blkOk_by (own := [("low", 2), ("high", 3)]) (N := N_are_bounds) (sc := defScope s_are_bounds) (by decide +kernel)) (fun _ _ _ _ _ => (pg_tup_K (K := K) (n := 2) rfl (pgs_cons (pg_name (i := 2) nd rfl (.inl rfl)) (pgs_cons (pg_name (i := 3) nd rfl (.inl rfl)) pgs_nil)))) (fun _ _ _ _ _ => pts_nil) (fun _ _ _ _ _ => (pe_cmpR op_le (pv 2) (pv 3) (nomark _)))) pa_nil)))))), ?_⟩
    have hm := W.m1
    have hl := BO.len
    have hB : ∀ {H'}, R Non H H' → ∀ {σ : L2.St}, σ[1]? = some (some v1) → ED K Non (tVar 1) σ H' (bD Bs) := fun e σ hσ => ed_var hσ (hv1.mono e)
    refine q_when (M := Non) (b := false) ?_ (fun z => nomatch z) fun _ H1 r1 => ?_
    · refine et_or (a := false) (b := false) (et_not (a := true) (et_test (ed_call (ea2 (ed_lenT (ed_ix (ed_var rfl hv0) ed_i rfl)) (hB (R.refl _) rfl)) ⟨Bs.map pD, ?_, rfl⟩))) fun _ => et_not (a := true) (et_test (ed_allT (n := (Bs.map pD).length) ?_))
      · rw [List.length_map, List.length_map, hl]; rfl
      · refine elp_lc (src_tup (hB (R.refl _) rfl)) non_M (by rw [List.length_map]; omega) _ _ fun i v H3 hi r3 hy => ?_
        obtain ⟨p, hp, hv⟩ := yd_map hy
        exact ⟨_, bd_name, rfl, et_yes, fun _ => ev_dd (ed_call (ea2 ed_i (ed_var rfl hv)) ⟨[.int p.1, .int p.2], rfl, rfl⟩) rfl⟩
    refine q_when (M := Non) (b := false) ?_ (fun z => nomatch z) fun _ H2 r2 => ?_
    · refine et_not (a := true) (et_test (ed_allB (n0 := (Bs.map pD).length * 2) (bs := []) ?_))
      refine elp_lc2 (src_tup (hB r1 rfl)) 2 (by rw [List.length_map]; omega) _ fun i v H3 hi r3 hy => ?_
      obtain ⟨p, hp, hv⟩ := yd_map hy
      have bd := BO.bd p (List.mem_of_getElem? hp)
      refine ⟨_, bd_name, rfl, et_yes, YD K [.int 0, .int 1], fun H4 r4 => src_tup (ed_tup (ea2 ed_i ed_i) (by decide)), fun M1 j v' H4 hj r4 hy' => ?_⟩
      obtain ⟨d, hd, hv'⟩ := hy'
      have hpr : It K H4 v (pD p) := hv.mono r4
      refine ⟨_, bd_name, rfl, et_yes, ?_⟩
      have key : ∃ z : Int, (-1000000 ≤ z ∧ z ≤ 1000000) ∧ ∃ s : Int, d = .int s ∧ L2.atI [PyData.int p.1, PyData.int p.2] s = some (.int z) := by
        match j, hj with
        | 0, _ => exact ⟨p.1, ⟨bd.1, by omega⟩, 0, (Option.some.inj hd).symm, rfl⟩
        | 1, _ => exact ⟨p.2, ⟨by omega, bd.2.2⟩, 1, (Option.some.inj hd).symm, rfl⟩
      obtain ⟨z, hz, s, rfl, ha⟩ := key
      exact ev_dd (ed_call (ea3 (ed_U (g := fun i => -i) ed_i) (ed_ix (ed_var rfl hpr) (ed_var rfl hv') ha) ed_i) ⟨_, z, _, rfl, hz, rfl⟩) rfl
    · refine s_ret (M := Non) (P := fun v H => It K H v (.bool true)) ?_ fun v H1 r p => k v H1 ((r1.trans r2).trans r).ex p
      refine ed_allT (n := (Bs.map pD).length) (elp_lc (src_tup (hB (r1.trans r2) rfl)) non_M (by rw [List.length_map]; omega) _ _ fun i v H3 hi r3 hy => ?_)
      obtain ⟨p, hp, hv⟩ := yd_map hy
      have bd := BO.bd p (List.mem_of_getElem? hp)
      obtain ⟨w1, w2, hw1, hw2, hb⟩ := un2 (i := 2) (j := 3) (σ := wipe (start N_are_bounds [v0, v1]) [2, 3]) hv
      exact ⟨_, hb, rfl, et_yes, fun _ => ev_dd (ed_is (ed_B0 (g := fun i j => decide (i ≤ j)) (ed_var rfl hw1) (ed_var rfl hw2)) (by rw [decide_eq_true bd.2.1])) rfl⟩

-- check_bounds: slots web=0 bounds=1
abbrev s_check_bounds : Stmt := topS 20
abbrev N_check_bounds : List Str := ["web", "bounds"]
theorem sc_check_bounds : FnScope N_check_bounds ["web", "bounds"] (defScope s_check_bounds) := ⟨rfl, rfl, rfl, by decide +kernel, rfl, by decide +kernel, by decide +kernel⟩
abbrev sp_check_bounds (K : PySem.W.Frag) : Sp := SpD K fun ds d => ∃ n A Bs, ds = [wD n A, bD Bs] ∧ WebOk n A ∧ BdsOk A Bs ∧ d = .none
theorem cl_check_bounds (c_are_bounds : Cl P w K mg base 3 "are_bounds" (sp_are_bounds K)) (B : GB mg) (DF : Df K mg "check_bounds" s_check_bounds) : Cl P w K mg base 4 "check_bounds" (sp_check_bounds K) := by
  obtain ⟨f, fd, F, g⟩ := DF.ex
  refine ⟨f, fd, ["web", "bounds"], F.ok sc_check_bounds (fun vs H Q E h => ?_) (fun cdv A outer s H vs Q E hr h => ?_), g, F.kp, F.binds fun _ _ _ _ _ _ us hl => match us, hl with | [_, _], _ => rfl⟩
  · obtain ⟨ds, d, hv, ⟨n, A, Bs, rfl, _⟩, k⟩ := h
    exact hv.len
  · obtain ⟨ds, d, hv, ⟨n, A, Bs, rfl, W, BO, rfl⟩, k⟩ := h
    obtain ⟨v0, v1, rfl, hv0, hv1⟩ := ia2 hv
    have nd := sc_check_bounds.nd
    refine ⟨_, (pss_one (ps_if (pt_not (pt_val (pe_k c_are_bounds hr (by decide) (by rfl) (pa_cons (pv 0) (pa_cons (pv 1) pa_nil))))) (pss_one ps_never) pss_nil)), ?_⟩
    exact s_when (M := Non) (b := false) (et_not (a := true) (et_test (ed_call (ea2 (ed_var rfl hv0) (ed_var rfl hv1)) ⟨n, A, Bs, rfl, W, BO, rfl⟩))) (fun z => nomatch z) fun _ H1 r => k _ H1 r.ex .non

/-! ### excess_of -/
/-- a new list of ints is given -/
def RetI (c : List Int) (H : Hp) (Q : VK) : Prop := ∀ p H2, H p = none → Ex H H2 → H2 p = some (.lst (c.map .int)) → Q (.ref p) H2
-- excess_of: slots web=0 amounts=1 found=2 x=3 y=4 amount=5
abbrev s_excess_of : Stmt := topS 16
abbrev N_excess_of : List Str := ["web", "amounts", "found", "x", "y", "amount"]
theorem sc_excess_of : FnScope N_excess_of ["web", "amounts"] (defScope s_excess_of) := ⟨rfl, rfl, rfl, by decide +kernel, rfl, by decide +kernel, by decide +kernel⟩
def sp_excess_of (K : PySem.W.Frag) : Sp := fun vs H Q _ => ∃ (u : V) (a : Addr) (n : Nat) (A : List (Int × Int)) (c : List Int), vs = [u, .ref a] ∧ It K H u (wD n A) ∧ WebOk n A ∧ H a = some (.lst (c.map .int)) ∧ c.length = A.length ∧ RetI (excL n A c) H Q
theorem cl_excess_of (B : GB mg) (DF : Df K mg "excess_of" s_excess_of) : Cl P w K mg base 1 "excess_of" (sp_excess_of K) := by
  obtain ⟨f, fd, F, g⟩ := DF.ex
  refine ⟨f, fd, ["web", "amounts"], F.ok sc_excess_of (fun vs H Q E h => ?_) (fun cdv A outer s H vs Q E hr h => ?_), g, F.kp, F.binds fun _ _ _ _ _ _ us hl => match us, hl with | [_, _], _ => rfl⟩
  · obtain ⟨u, a, n, A, c, rfl, _⟩ := h
    rfl
  · obtain ⟨u, a, n, A, c, rfl, hu, W, ha, hc, k⟩ := h
    have nd := sc_excess_of.nd
    refine ⟨_, (pss_cons (ps_set (i := 2) nd rfl (.inl rfl) (pe_op op_rep (pe_lst (pa_cons pe_int pa_nil)) (pe_ix (ix_K (K := K)) (pv 0) pe_int (fun _ _ => rfl))))
      (pss_cons (ps_for PassesOwn.never rfl (pi_zip_K (K := K) (by rfl) B.zip (pa_cons (pe_ix (ix_K (K := K)) (pv 0) pe_int (fun _ _ => rfl)) (pa_cons (pv 1) pa_nil))) (pg_tup_K (K := K) (n := 2) rfl (pgs_cons (pg_tup_K (K := K) (n := 2) rfl (pgs_cons (pg_name (i := 3) nd rfl (.inl rfl)) (pgs_cons (pg_name (i := 4) nd rfl (.inl rfl)) pgs_nil))) (pgs_cons (pg_name (i := 5) nd rfl (.inl rfl)) pgs_nil)))
        (pss_cons (ps_augS (pv 2) (pv 3) (get_list_K (K := K)) (pv 5) ip_add set_list)
        (pss_one (ps_augS (pv 2) (pv 4) (get_list_K (K := K)) (pv 5) ip_sub set_list))))
      (pss_one (ps_ret (pv 2))))), ?_⟩
    have hn : (n : Nat) ≤ 100000 := by have := W.n1; omega
    refine q_asgL (M := Non) (el_rep (el_lst (ea1 ed_i) (by decide)) (ed_ix (ed_var rfl hu) ed_i rfl) hn) fun p xs H1 hp r1 hx hall => ?_
    have e0 : xs = (((List.range n).map fun _ => (0 : Int))).map V.int := by
      apply ItAll.ints
      rw [← rep_rng, List.map_replicate]
      exact hall
    subst e0
    have hap : a ≠ p := ne_of_none ha hp
    have ha1 : H1 a = some (.lst (c.map .int)) := r1.keep (fun z => z) ha
    refine q_for (M := Non) (M' := Also Non p) (src_zip (ds := A.map pD) (es := c.map .int) (ed_ix (ed_var rfl (hu.mono r1)) ed_i rfl) (ev_var rfl) (fun _ z => z) (.inl (.inl ha1)) (nn ha1) (ItAll.ofInts c) (by rw [List.length_map, List.length_map, hc])) (fun b u' hb => ?_) fun H2 r2 => ?_
    · rcases hb with hb | rfl
      · exact hb.elim
      · exact ⟨nn hx, fun z => hap z.symm⟩
    · refine ⟨fun i σ' H' => (∃ o3 o4 o5, σ' = [some u, some (.ref a), some (.ref p), o3, o4, o5]) ∧ H' p = some (.lst (((List.range n).map fun v => KM.exc i (xW A) (yW A) (fL c) (v : Nat)).map .int)), ⟨⟨_, _, _, rfl⟩, r2.keep (fun z => z) hx⟩, fun i σ' H' hi r' hP v H4 e4 hy => ?_, fun σ' H' r' hP => ?_⟩
      · obtain ⟨⟨o3, o4, o5, rfl⟩, hp'⟩ := hP
        obtain ⟨d, e, hd, he, hv⟩ := hy
        obtain ⟨pr, hpr, rfl⟩ := get_map hd
        obtain ⟨am, ham, rfl⟩ := get_map he
        obtain ⟨X, Y, hX, hY, rfl⟩ := W.at hpr
        have xk := xW_at hpr
        have yk := yW_at hpr
        have ak := fL_at ham
        obtain ⟨w1, w2, w3, h1, h2, h3, bd⟩ := un21 (i := 3) (j := 4) (l := 5) (σ := [some u, some (.ref a), some (.ref p), o3, o4, o5]) hv
        obtain rfl := it_int h1
        obtain rfl := it_int h2
        obtain rfl := it_int h3
        refine bd _ ?_
        have hp4 := e4 _ _ hp'
        refine q_augL (M := Non) (k := X) hp4 (fun _ z => z) (ev_var rfl) (ed_var rfl (.int _)) (map_get (rng_get hX)) (ed_var rfl (.int _)) fun H5 r5 h5 => ?_
        rw [← List.map_set, set_rng]
        refine s_augL (M := Non) (k := Y) upd_same (fun _ z => z) (ev_var rfl) (ed_var rfl (.int _)) (map_get (rng_get hY)) (ed_var rfl (.int _)) fun H6 r6 h6 => ?_
        rw [← List.map_set, set_rng]
        refine ⟨((r'.trans (R.of e4)).trans r5.also).chgA h5 mt_l mt_l |>.trans r6.also |>.chgA h6 mt_l mt_l, ⟨_, _, _, rfl⟩, ?_⟩
        rw [upd_same]
        congr 3
        refine List.map_congr_left fun j hj => ?_
        show _ = KM.S (i + 1) _
        have e1 : KM.S (i + 1) (fun k => (if xW A k = ((j : Nat) : Int) then fL c k else 0) - (if yW A k = ((j : Nat) : Int) then fL c k else 0)) = KM.exc i (xW A) (yW A) (fL c) (j : Nat) + ((if xW A i = ((j : Nat) : Int) then fL c i else 0) - (if yW A i = ((j : Nat) : Int) then fL c i else 0)) := rfl
        rw [e1, xk, yk, ak]
        by_cases c1 : j = X <;> by_cases c2 : j = Y
        · subst c1; subst c2; simp
        · subst c1
          have : ¬ ((Y : Nat) : Int) = (j : Int) := by omega
          simp [c2, this]
        · subst c2
          have : ¬ ((X : Nat) : Int) = (j : Int) := by omega
          simp [c1, this]
          omega
        · have t1 : ¬ ((X : Nat) : Int) = (j : Int) := by omega
          have t2 : ¬ ((Y : Nat) : Int) = (j : Int) := by omega
          simp [c1, c2, t1, t2]
      · obtain ⟨⟨o3, o4, o5, rfl⟩, hp'⟩ := hP
        refine s_ret (M := Non) (ev_var (v := .ref p) rfl) fun v H5 r5 e => ?_
        subst e
        rw [List.length_map] at hp'
        refine k p H5 hp (((r1.trans r2).drop hp r').trans r5).ex (r5.keep (fun z => z) hp')
end
end KP

/-! part KP3 -/
set_option Elab.async false
set_option linter.all false
set_option maxRecDepth 100000
set_option maxHeartbeats 4000000
/-! Data compared, dicts of ways; steps_from, ways_with_room. -/
namespace KP
open PySem PySem.Spec PyProof.Rows L2
/-! ### what may be compared -/
structure Sh (n : Nat) (d : PyData) : Prop where
  c : d.canLay0 = true
  d : d.depth ≤ n
theorem Sh.shaped {n : Nat} {d : PyData} (h : Sh n d) (hn : n ≤ 64) : SeqAt.shaped d = true := by
  unfold SeqAt.shaped
  rw [h.c, decide_eq_true (Nat.le_trans h.d hn)]
  rfl
theorem sh_int {i : Int} : Sh 0 (.int i) := ⟨rfl, Nat.le_refl _⟩
theorem can_all : ∀ {ds : List PyData}, (∀ d ∈ ds, d.canLay0 = true) → PyData.canLayAll0 ds = true
  | [], _ => rfl
  | d :: ds, h => by
    show (d.canLay0 && PyData.canLayAll0 ds) = true
    rw [h d List.mem_cons_self, can_all fun e he => h e (List.mem_cons_of_mem _ he)]
    rfl
theorem depth_all {n : Nat} : ∀ {ds : List PyData}, (∀ d ∈ ds, d.depth ≤ n) → PyData.depthAll ds ≤ n
  | [], _ => Nat.zero_le _
  | d :: ds, h => by
    show max d.depth (PyData.depthAll ds) ≤ n
    have := h d List.mem_cons_self
    have := depth_all fun e he => h e (List.mem_cons_of_mem _ he)
    omega
theorem sh_list {n : Nat} {ds : List PyData} (h : ∀ d ∈ ds, Sh n d) : Sh (n + 1) (.list ds) := ⟨can_all fun d hd => (h d hd).c, Nat.succ_le_succ (depth_all fun d hd => (h d hd).d)⟩
theorem sh_tup {n : Nat} {ds : List PyData} (h : ∀ d ∈ ds, Sh n d) : Sh (n + 1) (.tuple ds) := ⟨can_all fun d hd => (h d hd).c, Nat.succ_le_succ (depth_all fun d hd => (h d hd).d)⟩
theorem sh_ints {ns : List Int} : ∀ d ∈ ns.map PyData.int, Sh 0 d := fun d hd => by
  obtain ⟨i, _, rfl⟩ := List.mem_map.mp hd
  exact sh_int
theorem eqvAll_ints : ∀ as bs : List Int, PyData.eqvAll (as.map .int) (bs.map .int) = decide (as = bs)
  | [], [] => by simp [PyData.eqvAll]
  | a :: as, [] => by simp [PyData.eqvAll]
  | [], b :: bs => by simp [PyData.eqvAll]
  | a :: as, b :: bs => by
    rw [List.map_cons, List.map_cons]
    show (PyData.eqv (.int a) (.int b) && PyData.eqvAll (as.map .int) (bs.map .int)) = _
    rw [eqvAll_ints as bs, eqv_int]
    by_cases c : a = b <;> by_cases d : as = bs <;> simp [c, d]
theorem eqv_lints {as bs : List Int} : PyData.eqv (.list (as.map .int)) (.list (bs.map .int)) = decide (as = bs) := by
  show PyData.eqvAll _ _ = _
  exact eqvAll_ints as bs
theorem eqv_tints {as bs : List Int} : PyData.eqv (.tuple (as.map .int)) (.tuple (bs.map .int)) = decide (as = bs) := by
  show PyData.eqvAll _ _ = _
  exact eqvAll_ints as bs
theorem eqv_lnil {ds : List PyData} : PyData.eqv (.list ds) (.list []) = decide (ds = []) := by
  show PyData.eqvAll _ _ = _
  cases ds <;> simp [PyData.eqvAll]
theorem eqv_tnil {ds : List PyData} : PyData.eqv (.tuple ds) (.tuple []) = decide (ds = []) := by
  show PyData.eqvAll _ _ = _
  cases ds <;> simp [PyData.eqvAll]
mutual
theorem dp_ex {K : PySem.W.Frag} {H H' : Hp} (e : Ex H H') : ∀ (d : PyData) (v : V), Dp K H v d → Dp K H' v d
  | .none, _, .non => .non
  | .bool b, _, .bl _ => .bl b
  | .int i, _, .int _ => .int i
  | .str x, _, .str _ => .str x
  | .list ds, _, .lst h hs => .lst (Evl.ex_l e h) (dpa_ex e ds _ hs)
  | .tuple ds, _, .tup h hs => .tup (Evl.ex_t e h) (dpa_ex e ds _ hs)
theorem dpa_ex {K : PySem.W.Frag} {H H' : Hp} (e : Ex H H') : ∀ (ds : List PyData) (vs : List V), DpAll K H vs ds → DpAll K H' vs ds
  | [], _, .nil => .nil
  | d :: ds, _, .cons h hs => .cons (dp_ex e d _ h) (dpa_ex e ds _ hs)
end
/-- data, lists too, that stays as it is -/
abbrev EDp (K : PySem.W.Frag) (te : TE) (σ : L2.St) (H : Hp) (d : PyData) : Prop := Ev Non te σ H fun v H2 => Dp K H2 v d
section
variable {K : PySem.W.Frag} {M : MM} {σ : L2.St} {H H' : Hp} {ta tb te tx tl : TE} {t u : TT} {v x y z : V} {d e : PyData} {P P1 P2 P3 : V → Hp → Prop} {ds es : List PyData} {i j : Int}
theorem stb_dp : Stb Non (fun v H => Dp K H v d) := fun _ _ _ r h => dp_ex r.ex _ _ h
theorem edp_d (h : ED K Non te σ H d) : EDp K te σ H d := h.imp fun _ _ _ p => p.dp
theorem edp_l (h : EL K Non te σ H ds) : EDp K te σ H (.list ds) := fun H1 r Q k => h H1 r _ fun p xs H2 hn r2 hp hall => k _ H2 r2 (.lst (.inl (.inl hp)) (ItAll.dp _ _ hall))
theorem edp_v {a : Addr} {xs : List V} {k : Nat} (hs : σ[k]? = some (some (.ref a))) (hl : SqL K H a xs) (hall : ItAll K H xs ds) : EDp K (tVar k) σ H (.list ds) := fun H1 r Q k =>
  ⟨_, hs, k _ H1 (R.refl _) (.lst (sql_mono r (fun _ z => z) hl) (ItAll.dp _ _ (hall.mono r)))⟩
theorem ed_eqP (ha : EDp K ta σ H d) (hb : EDp K tb σ H e) (s1 : SeqAt.shaped d = true) (s2 : SeqAt.shaped e = true) : ED K Non (tOp (rEqD K) ta tb) σ H (.bool (PyData.eqv d e)) :=
  ev_op ha stb_dp hb fun x y H1 r p1 p2 Q q => ⟨d, e, p1, p2, s1, s2, q _ H1 (R.refl _) (.bl _)⟩
theorem ed_neP (ha : EDp K ta σ H d) (hb : EDp K tb σ H e) (s1 : SeqAt.shaped d = true) (s2 : SeqAt.shaped e = true) : ED K Non (tOp (rNeD K) ta tb) σ H (.bool (!PyData.eqv d e)) :=
  ev_op ha stb_dp hb fun x y H1 r p1 p2 Q q => ⟨d, e, p1, p2, s1, s2, q _ H1 (R.refl _) (.bl _)⟩
theorem edp_nil : EDp K (tLst tNil) σ H (.list []) := edp_l (el_lst ea_nil (by decide))
/-- amounts: a list or a tuple of ints -/
def Am (K : PySem.W.Frag) (H : Hp) (a : Addr) (c : List Int) : Prop := H a = some (.lst (c.map .int)) ∨ SqT K H a (c.map .int)
theorem Am.mono (r : R M H H') {a : Addr} {c : List Int} (hm : ∀ u, ¬ M a u) (h : Am K H a c) : Am K H' a c := by
  rcases h with h | h
  · exact .inl (r.keep (hm _) h)
  · exact .inr (sqt_mono r h)
theorem ed_am {a : Addr} {c : List Int} {k : Nat} (hm : ∀ u, ¬ M a u) (h : Am K H a c) (ha : EV M ta σ H (.ref a)) (hb : ED K M tb σ H (.int (k : Nat))) (hk : c[k]? = some i) : ED K M (tOp (rIx K) ta tb) σ H (.int i) := by
  rcases h with h | h
  · exact ed_ixL ha hb (.inl (.inl h)) hm (ItAll.ofInts c) (atI_nat (map_get hk))
  · exact ed_ix (ha.imp fun v H2 r e => e ▸ .tup (sqt_mono r h) (ItAll.ofInts c)) hb (atI_nat (map_get hk))
end

/-! ### dicts of ways -/
def oD : Option (Nat × Int × Int) → PyData
  | none => .none
  | some (k, s, q) => .tuple [.int k, .int s, .int q]
inductive WR (K : PySem.W.Frag) (H : Hp) : List (Key × V) → KM.Ways → Prop
  | nil : WR K H [] []
  | cons {v : Int} {x : V} {o : Option (Nat × Int × Int)} {kvs : List (Key × V)} {ws : KM.Ways} : It K H x (oD o) → WR K H kvs ws → WR K H ((.inl v, x) :: kvs) ((v, o) :: ws)
section
variable {K : PySem.W.Frag} {M : MM} {H H' : Hp} {kvs : List (Key × V)} {ws : KM.Ways} {v : Int} {x : V} {o : Option (Nat × Int × Int)}
theorem WR.mapT (f : ∀ v d, It K H v d → It K H' v d) (h : WR K H kvs ws) : WR K H' kvs ws := by
  induction h with
  | nil => exact .nil
  | cons hx _ ih => exact .cons (f _ _ hx) ih
theorem WR.mono (r : R M H H') (h : WR K H kvs ws) : WR K H' kvs ws := h.mapT fun _ _ q => q.mono r
theorem WR.len (h : WR K H kvs ws) : kvs.length = ws.length := by
  induction h with
  | nil => rfl
  | cons _ _ ih => rw [List.length_cons, List.length_cons, ih]
theorem WR.keys (h : WR K H kvs ws) : kvs.map (·.1) = (KM.Keys ws).map Sum.inl := by
  induction h with
  | nil => rfl
  | cons _ _ ih =>
    unfold KM.Keys at ih ⊢
    rw [List.map_cons, List.map_cons, List.map_cons, ih]
theorem valV_cons {k k' : Key} {y : V} : valV ((k', y) :: kvs) k = if k' = k then some y else valV kvs k := by
  unfold valV
  rw [List.find?_cons]
  by_cases c : k' = k
  · rw [if_pos c]
    simp [c]
  · rw [if_neg c]
    simp [c]
theorem WR.get (h : WR K H kvs ws) (hv : v ∈ KM.Keys ws) : ∃ o x, (v, o) ∈ ws ∧ valV kvs (.inl v) = some x ∧ It K H x (oD o) := by
  induction h with
  | nil => cases hv
  | @cons v' x' o' kvs ws hx _ ih =>
    rw [valV_cons]
    by_cases c : v' = v
    · subst c
      exact ⟨o', x', List.mem_cons_self, if_pos rfl, hx⟩
    · have hv' : v ∈ KM.Keys ws := by
        unfold KM.Keys at hv ⊢
        rw [List.map_cons] at hv
        rcases List.mem_cons.mp hv with z | z
        · exact absurd z.symm c
        · exact z
      obtain ⟨o, x, h1, h2, h3⟩ := ih hv'
      refine ⟨o, x, List.mem_cons_of_mem _ h1, ?_, h3⟩
      rw [if_neg fun z => c (Sum.inl.inj z)]
      exact h2
theorem WR.none (h : WR K H kvs ws) (hv : v ∉ KM.Keys ws) : valV kvs (.inl v) = none := by
  induction h with
  | nil => rfl
  | @cons v' x' o' kvs ws hx _ ih =>
    unfold KM.Keys at hv ih
    rw [List.map_cons, List.mem_cons] at hv
    rw [valV_cons, if_neg fun z => hv (.inl (Sum.inl.inj z).symm)]
    exact ih fun z => hv (.inr z)
theorem WR.isSome (h : WR K H kvs ws) : (valV kvs (.inl v)).isSome = decide (v ∈ KM.Keys ws) := by
  by_cases c : v ∈ KM.Keys ws
  · obtain ⟨o, x, _, h2, _⟩ := h.get c
    rw [h2, decide_eq_true c]; rfl
  · rw [h.none c, decide_eq_false c]; rfl
theorem WR.app (h : WR K H kvs ws) (hx : It K H x (oD o)) : WR K H (kvs ++ [(.inl v, x)]) (ws ++ [(v, o)]) := by
  induction h with
  | nil => exact .cons hx .nil
  | cons hy _ ih => exact .cons hy ih
theorem WR.put (h : WR K H kvs ws) (hv : v ∉ KM.Keys ws) : putK kvs (.inl v) x = kvs ++ [(.inl v, x)] := by
  unfold putK
  rw [if_neg]
  intro z
  obtain ⟨kv, h1, h2⟩ := List.any_eq_true.mp z
  have h2 : kv.1 = .inl v := of_decide_eq_true h2
  have : (Sum.inl v : Key) ∈ (KM.Keys ws).map Sum.inl := by
    rw [← h.keys]
    exact List.mem_map.mpr ⟨kv, h1, h2⟩
  obtain ⟨v', h3, h4⟩ := List.mem_map.mp this
  exact hv (Sum.inl.inj h4 ▸ h3)
end

/-! ### steps_from -/
def tD (t : Nat × Int × Int) : PyData := .tuple [.int t.1, .int t.2.1, .int t.2.2]
def stepAt (A B : List (Int × Int)) (c : List Int) (p : Int) (k : Nat) : List (Nat × Int × Int) :=
  (if xW A k = p ∧ fL c k < yW B k then [(k, 1, yW A k)] else []) ++ (if yW A k = p ∧ xW B k < fL c k then [(k, -1, xW A k)] else [])
def stepsTo (A B : List (Int × Int)) (c : List Int) (p : Int) : Nat → List (Nat × Int × Int)
  | 0 => []
  | k + 1 => stepsTo A B c p k ++ stepAt A B c p k
theorem stepsTo_len (A B : List (Int × Int)) (c : List Int) (p : Int) : ∀ k, (stepsTo A B c p k).length ≤ 2 * k
  | 0 => Nat.le_refl _
  | k + 1 => by
    have := stepsTo_len A B c p k
    show (stepsTo A B c p k ++ stepAt A B c p k).length ≤ _
    rw [List.length_append]
    unfold stepAt
    rw [List.length_append]
    split <;> split <;> simp <;> omega
theorem mem_stepsTo {A B : List (Int × Int)} {c : List Int} {p : Int} {t : Nat × Int × Int} : ∀ m, t ∈ stepsTo A B c p m ↔ KM.Step m (xW A) (yW A) (xW B) (yW B) (fL c) p t.1 t.2.1 t.2.2
  | 0 => ⟨fun h => (List.not_mem_nil h).elim, fun h => absurd h.1 (Nat.not_lt_zero _)⟩
  | m + 1 => by
    obtain ⟨k, s, q⟩ := t
    show (k, s, q) ∈ stepsTo A B c p m ++ stepAt A B c p m ↔ _
    rw [List.mem_append, mem_stepsTo m]
    unfold stepAt KM.Step
    rw [List.mem_append]
    constructor
    · rintro (⟨h1, h2⟩ | h | h)
      · exact ⟨by omega, h2⟩
      · split at h
        · rename_i z
          have e := List.mem_singleton.mp h
          cases e
          exact ⟨Nat.lt_succ_self _, .inl ⟨rfl, z.1, rfl, z.2⟩⟩
        · cases h
      · split at h
        · rename_i z
          have e := List.mem_singleton.mp h
          cases e
          exact ⟨Nat.lt_succ_self _, .inr ⟨rfl, z.1, rfl, z.2⟩⟩
        · cases h
    · rintro ⟨h1, h2⟩
      by_cases c : k = m
      · subst c
        rcases h2 with ⟨a, b, d, e⟩ | ⟨a, b, d, e⟩
        · exact .inr (.inl (by rw [if_pos ⟨b, e⟩]; dsimp only at a d; rw [a, ← d]; exact List.mem_singleton.mpr rfl))
        · exact .inr (.inr (by rw [if_pos ⟨b, e⟩]; dsimp only at a d; rw [a, ← d]; exact List.mem_singleton.mpr rfl))
      · exact .inl ⟨by dsimp only at h1; omega, h2⟩
/-- a new list of data is given -/
def RetLD (K : PySem.W.Frag) (ds : List PyData) (H : Hp) (Q : VK) : Prop := ∀ p xs H2, H p = none → Ex H H2 → H2 p = some (.lst xs) → ItAll K H2 xs ds → Q (.ref p) H2
theorem el_call {K : PySem.W.Frag} {M : MM} {σ : L2.St} {H : Hp} {ds : List PyData} {sp : Sp} {E : XK} {ta : TA} {PL : List V → Hp → Prop} (h : EvA M ta σ H PL) (hs : ∀ vs H1, R M H H1 → PL vs H1 → ∀ Q : VK, RetLD K ds H1 Q → sp vs H1 Q E) : EL K M (tCall sp [] E ta) σ H ds := fun H1 r1 Q k =>
  h H1 r1 _ fun vs H2 r2 p => by
    show sp (vs ++ []) H2 Q E
    rw [List.append_nil]
    exact hs vs H2 (r1.trans r2) p Q fun p xs H3 hn e3 hp hall => k p xs H3 (r2.free hn) (r2.trans (R.of e3)) hp hall
section
variable {P : Program} {w : World} {K : PySem.W.Frag} {mg : Str → Option Value} {base : Heap}
-- steps_from: slots web=0 bounds=1 amounts=2 place=3 found=4 arrow=5 x=6 y=7
abbrev s_steps_from : Stmt := topS 21
abbrev N_steps_from : List Str := ["web", "bounds", "amounts", "place", "found", "arrow", "x", "y"]
theorem sc_steps_from : FnScope N_steps_from ["web", "bounds", "amounts", "place"] (defScope s_steps_from) := ⟨rfl, rfl, rfl, by decide +kernel, rfl, by decide +kernel, by decide +kernel⟩
def sp_steps_from (K : PySem.W.Frag) : Sp := fun vs H Q _ => ∃ (v0 v1 : V) (a : Addr) (n : Nat) (A Bs : List (Int × Int)) (c : List Int) (p : Int), vs = [v0, v1, .ref a, .int p] ∧ It K H v0 (wD n A) ∧ It K H v1 (bD Bs) ∧ Am K H a c ∧ WebOk n A ∧ Bs.length = A.length ∧ c.length = A.length ∧
  RetLD K ((stepsTo A Bs c p A.length).map tD) H Q
theorem cl_steps_from (B : GB mg) (DF : Df K mg "steps_from" s_steps_from) : Cl P w K mg base 1 "steps_from" (sp_steps_from K) := by
  obtain ⟨f, fd, F, g⟩ := DF.ex
  refine ⟨f, fd, ["web", "bounds", "amounts", "place"], F.ok sc_steps_from (fun vs H Q E h => ?_) (fun cdv A outer s H vs Q E hr h => ?_), g, F.kp, F.binds fun _ _ _ _ _ _ us hl => match us, hl with | [_, _, _, _], _ => rfl⟩
  · obtain ⟨v0, v1, a, n, A, Bs, c, p, rfl, _⟩ := h
    rfl
  · obtain ⟨v0, v1, a, n, A, Bs, c, p, rfl, h0, h1, ha, W, lB, lc, k⟩ := h
    have nd := sc_steps_from.nd
    refine ⟨_, (pss_cons (ps_set (i := 4) nd rfl (.inl rfl) (pe_lst pa_nil))
      (pss_cons (ps_for PassesOwn.never rfl (pi_enumT_K (K := K) (by rfl) B.enumerate (pa_cons (pe_ix (ix_K (K := K)) (pv 0) pe_int (fun _ _ => rfl)) pa_nil)) (pg_tup_K (K := K) (n := 2) rfl (pgs_cons (pg_name (i := 5) nd rfl (.inl rfl)) (pgs_cons (pg_tup_K (K := K) (n := 2) rfl (pgs_cons (pg_name (i := 6) nd rfl (.inl rfl)) (pgs_cons (pg_name (i := 7) nd rfl (.inl rfl)) pgs_nil))) pgs_nil)))
        (Evl.pss_cut (ps_if (PW.pt (pw_and (pt_cmpR (op_eq_K (K := K) hr.units) (pv 6) (pv 3) (nomark _)) (pw_and1 (pt_cmpR op_lt (pe_ix (ix_K (K := K)) (pv 2) (pv 5) (fun _ _ => rfl)) (pe_ix (ix_K (K := K)) (pe_ix (ix_K (K := K)) (pv 1) (pv 5) (fun _ _ => rfl)) pe_int (fun _ _ => rfl)) (nomark _))))) (pss_one (ps_expr (pe_bm PySem.F.plainAttrs_list PySem.F.slot_list_append PySem.F.type_list_append mt_append (pv 4) (pa_cons (pe_tup (pa_cons (pv 5) (pa_cons pe_int (pa_cons (pv 7) pa_nil)))) pa_nil)))) pss_nil)
        (pss_one (ps_if (PW.pt (pw_and (pt_cmpR (op_eq_K (K := K) hr.units) (pv 7) (pv 3) (nomark _)) (pw_and1 (pt_cmpR op_gt (pe_ix (ix_K (K := K)) (pv 2) (pv 5) (fun _ _ => rfl)) (pe_ix (ix_K (K := K)) (pe_ix (ix_K (K := K)) (pv 1) (pv 5) (fun _ _ => rfl)) pe_int (fun _ _ => rfl)) (nomark _))))) (pss_one (ps_expr (pe_bm PySem.F.plainAttrs_list PySem.F.slot_list_append PySem.F.type_list_append mt_append (pv 4) (pa_cons (pe_tup (pa_cons (pv 5) (pa_cons (pe_un un_neg pe_int) (pa_cons (pv 6) pa_nil)))) pa_nil)))) pss_nil))))
      (pss_one (ps_ret (pv 4))))), ?_⟩
    have hm := W.m1
    refine q_asgL (K := K) (M := Non) (el_lst ea_nil (by decide)) fun l xs H1 hl r1 hx hall => ?_
    cases hall
    refine q_for (M := Non) (M' := Also Non l) (src_enumT (ea1 (ed_ix (ed_var rfl (h0.mono r1)) ed_i rfl))) (fun b u' hb => ?_) fun H2 r2 => ?_
    · rcases hb with hb | rfl
      · exact hb.elim
      · exact ⟨nn hx, fun z => z⟩
    refine ⟨fun i σ' H' => (∃ o5 o6 o7, σ' = [some v0, some v1, some (.ref a), some (.int p), some (.ref l), o5, o6, o7]) ∧ ∃ xs, H' l = some (.lst xs) ∧ ItAll K H' xs ((stepsTo A Bs c p i).map tD), ⟨⟨_, _, _, rfl⟩, [], r2.keep (fun z => z) hx, .nil⟩, fun i σ' H' hi r' hP v H4 e4 hy => ?_, fun σ' H' r' hP => ?_⟩
    · obtain ⟨⟨o5, o6, o7, rfl⟩, xs, hx', hall'⟩ := hP
      obtain ⟨pr, hpr, hv⟩ := ye_map hy
      obtain ⟨w1, w2, w3, g1, g2, g3, bd⟩ := un12 (i := 5) (j := 6) (l := 7) (σ := [some v0, some v1, some (.ref a), some (.int p), some (.ref l), o5, o6, o7]) hv
      obtain rfl := it_int g1
      obtain rfl := it_int g2
      obtain rfl := it_int g3
      refine bd _ ?_
      have hiA : i < A.length := (List.getElem?_eq_some_iff.mp hpr).1
      have hBi : Bs[i]? = some Bs[i] := List.getElem?_eq_getElem (by omega)
      have hci : c[i]? = some c[i] := List.getElem?_eq_getElem (by omega)
      have r04 : R Non H H4 := (r1.trans r2).drop hl (r'.trans (R.of e4))
      have h1' : ∀ {H5 σ}, R Non H4 H5 → σ[1]? = some (some v1) → ED K Non (tVar 1) σ H5 (bD Bs) := fun r hσ => ed_var hσ (h1.mono (r04.trans r))
      have ha' : ∀ {H5}, R Non H4 H5 → Am K H5 a c := fun r => ha.mono (r04.trans r) (fun _ z => z)
      have xk := xW_at hpr
      have yk := yW_at hpr
      have xb := xW_at hBi
      have yb := yW_at hBi
      have ck := fL_at hci
      have hxl := e4 _ _ hx'
      have hall4 := hall'.mono (R.of (M := Non) e4)
      have len4 : xs.length ≤ 2 * i := by rw [hall'.len, List.length_map]; exact stepsTo_len A Bs c p i
      -- the first if
      refine q_cutS (Mid := fun H5 => R Non H H5 ∧ R (Also Non l) H4 H5 ∧ ∃ xs, H5 l = some (.lst xs) ∧ ItAll K H5 xs ((stepsTo A Bs c p i ++ (if xW A i = p ∧ fL c i < yW Bs i then [(i, 1, yW A i)] else [])).map tD)) ?_ fun H5 hM => ?_
      · refine s_when (M := Non) (b := decide (xW A i = p) && decide (fL c i < yW Bs i)) ?_ (fun hb H5 r5 => ?_) fun hb H5 r5 => ?_
        · rw [xk, ck, yb]
          exact et_and (et_test (ed_eqI (ed_var rfl (.int _)) (ed_var rfl (.int _)))) fun _ => et_test (ed_B0 (g := fun i j => decide (i < j)) (ed_am (fun _ z => z) (ha' (R.refl _)) (ev_var rfl) (ed_var rfl (.int _)) hci) (ed_ix (ed_ix (h1' (R.refl _) rfl) (ed_var rfl (.int _)) (atI_nat (map_get hBi))) ed_i rfl))
        · obtain ⟨hb1, hb2⟩ := Bool.and_eq_true_iff.mp hb
          have hb1 := of_decide_eq_true hb1
          have hb2 := of_decide_eq_true hb2
          refine s_app (M := Non) (P := fun v H => It K H v (tD (i, 1, yW A i))) (r5.keep (fun z => z) hxl) (fun _ z => z) (ev_var rfl) (by rw [yk]; exact ed_tup (ea3 (ed_var rfl (.int _)) ed_i (ed_var rfl (.int _))) (show 3 ≤ 100000 by decide)) (by omega) fun v H6 r6 hv6 h6 => ?_
          refine ⟨rfl, (r04.trans (r5.trans r6)).mut hl, ((r5.trans r6).also).chgA h6 mt_l mt_l, _, upd_same, ?_⟩
          rw [if_pos ⟨hb1, hb2⟩, List.map_append]
          exact ItAll.app ((hall4.mono (r5.trans r6)).updL h6) (.cons (hv6.updL h6) .nil)
        · have hb' : ¬ (xW A i = p ∧ fL c i < yW Bs i) := fun z => by
            rw [decide_eq_true z.1, decide_eq_true z.2] at hb
            cases hb
          refine ⟨rfl, r04.trans r5, r5.also, xs, r5.keep (fun z => z) hxl, ?_⟩
          rw [if_neg hb', List.append_nil]
          exact hall4.mono r5
      · obtain ⟨r05, r45, xs5, hx5, hall5⟩ := hM
        have h1' : ∀ {H6 σ}, R Non H5 H6 → σ[1]? = some (some v1) → ED K Non (tVar 1) σ H6 (bD Bs) := fun r hσ => ed_var hσ (h1.mono (r05.trans r))
        have ha' : ∀ {H6}, R Non H5 H6 → Am K H6 a c := fun r => ha.mono (r05.trans r) (fun _ z => z)
        have len5 : xs5.length ≤ 2 * i + 1 := by
          rw [hall5.len, List.length_map, List.length_append]
          have := stepsTo_len A Bs c p i
          split <;> simp <;> omega
        refine s_when (M := Non) (b := decide (yW A i = p) && decide (xW Bs i < fL c i)) ?_ (fun hb H6 r6 => ?_) fun hb H6 r6 => ?_
        · rw [yk, ck, xb]
          exact et_and (et_test (ed_eqI (ed_var rfl (.int _)) (ed_var rfl (.int _)))) fun _ => et_test (ed_B0 (g := fun i j => decide (j < i)) (ed_am (fun _ z => z) (ha' (R.refl _)) (ev_var rfl) (ed_var rfl (.int _)) hci) (ed_ix (ed_ix (h1' (R.refl _) rfl) (ed_var rfl (.int _)) (atI_nat (map_get hBi))) ed_i rfl))
        · obtain ⟨hb1, hb2⟩ := Bool.and_eq_true_iff.mp hb
          have hb1 := of_decide_eq_true hb1
          have hb2 := of_decide_eq_true hb2
          refine s_app (M := Non) (P := fun v H => It K H v (tD (i, -1, xW A i))) (r6.keep (fun z => z) hx5) (fun _ z => z) (ev_var rfl) (by rw [xk]; exact ed_tup (ea3 (ed_var rfl (.int _)) (ed_U (g := fun i => -i) ed_i) (ed_var rfl (.int _))) (show 3 ≤ 100000 by decide)) (by omega) fun v H7 r7 hv7 h7 => ?_
          refine ⟨(((r'.trans (R.of e4)).trans r45).trans (r6.trans r7).also).chgA h7 mt_l mt_l, ⟨_, _, _, rfl⟩, _, upd_same, ?_⟩
          show ItAll K _ _ ((stepsTo A Bs c p i ++ stepAt A Bs c p i).map tD)
          unfold stepAt
          rw [if_pos (And.intro hb1 hb2), ← List.append_assoc, List.map_append]
          exact ItAll.app ((hall5.mono (r6.trans r7)).updL h7) (.cons (hv7.updL h7) .nil)
        · have hb' : ¬ (yW A i = p ∧ xW Bs i < fL c i) := fun z => by
            rw [decide_eq_true z.1, decide_eq_true z.2] at hb
            cases hb
          refine ⟨((r'.trans (R.of e4)).trans r45).trans r6.also, ⟨_, _, _, rfl⟩, xs5, r6.keep (fun z => z) hx5, ?_⟩
          show ItAll K _ _ ((stepsTo A Bs c p i ++ stepAt A Bs c p i).map tD)
          unfold stepAt
          rw [if_neg hb', List.append_nil]
          exact hall5.mono r6
    · obtain ⟨⟨o5, o6, o7, rfl⟩, xs, hx', hall'⟩ := hP
      refine s_ret (M := Non) (ev_var (v := .ref l) rfl) fun v H5 r5 e => ?_
      subst e
      rw [List.length_map] at hall'
      exact k l xs H5 hl (((r1.trans r2).drop hl r').trans r5).ex (r5.keep (fun z => z) hx') (hall'.mono r5)
end
end KP

/-! part KDc -/
set_option Elab.async false
set_option linter.all false
set_option maxRecDepth 100000
set_option maxHeartbeats 4000000
/-! name = {k: v for ..} on one line, the name a local: the store stands between the comprehension's end and the end of its block. -/
namespace KP
open PySem PySem.Spec PyProof.Rows L2
/-- whatever block of this scope is entered: T of its frame -/
abbrev Blocks (X : Cx) (scope : Scope) (T : Cx → Prop) : Prop := ∀ (s : Shared) (H : Hp) (C : Addr) (cl : List (Str × Addr)) (fp : List Addr), T (X.blk s H scope (compEnvC scope cl C X.env) fp)
section
variable {X : Cx}
/-- what a comprehension made at L is stored in a local name while its block's namespace C still stands -/
theorem stored_in {i : Nat} {y : Str} {py : Pos} {pins : List (Addr × Obj)} {σ : L2.St} {H : Hp} {s : Shared} {D : Ends} {L C : Addr} {m : Str → Option Value} (hN : X.N.Nodup) (hy : X.N[i]? = some y) (hyl : X.env.scope.names.lookup y = some .local)
    (I : Inv X pins σ H s) (ns : s.heap.Ns C m) (own : FpOk X pins H C) (q : gName i (.ref L) σ H D.nx) :
    wpAny (model X.prog X.w) X.A (assign (.Name y py) X.env (.ref L)) (fun _ s2 => ∃ m2, s2.heap.Ns C m2 ∧ ∀ h3, Heap.SameBut C s2.heap h3 → SP X pins D .next { s2 with heap := h3 }) X.xe s := by
  obtain ⟨f0, fL, _, f3, fc, f5⟩ := own
  refine wpAny_assign_Name (store_ok2 (v := V.ref L) I hN hy (.inl hyl) rfl ?_ (.inr hyl))
  rintro s2 I2 ⟨a, same, there⟩
  have apart : C ≠ a := there.elim (fun z => z ▸ fL) fun z => (fc y a z).symm
  exact ⟨m, ns.sameBut same apart, fun h3 b => ⟨_, H, I2.turned (t' := s2.toks) (fun c o n z => (b.2 c n).trans z) f0 fL f3 fc f5, q⟩⟩
theorem ps_setDc {i : Nat} {y : Str} {py : Pos} {kx vx tg iter : Expr} {ifs : List Expr} {scope : Scope} {own : List (Str × Nat)} {pos spos : Pos} {wi : TI} {g : TG} {tt : TT} {tk tv : TE} (hc : X.calm = true) (hN : X.N.Nodup) (hy : X.N[i]? = some y)
    (hyl : X.env.scope.names.lookup y = some .local) (hsw : swapsWith (.DictComp kx vx [⟨tg, iter, ifs, 0⟩] scope pos) (some (.Name y py)) spos.line X.env = pure true) (hi : PI X tg iter wi) (ok : BlkOk X.N X.env.scope scope own)
    (hg : Blocks X scope fun B => PG B tg g) (ht : Blocks X scope fun B => PTs B ifs tt) (hk : Blocks X scope fun B => PE B kx tk) (he : Blocks X scope fun B => PE B vx tv) (hs : ∀ x, foldedSetIterable iter X.env x = pure x := by intro _; rfl) :
    PS X (.Assign [.Name y py] (.DictComp kx vx [⟨tg, iter, ifs, 0⟩] scope pos) spos) (tAsg (tDc wi g tt tk tv (own.map (·.2))) (gName i)) where
  run pins s σ H D I h := by
    have core := dc_core (pos := pos) (pos' := firstIterPos [⟨tg, iter, ifs, 0⟩] pos) (use := some (assign (.Name y py) X.env)) (Q := fun x H1 => gName i x σ H1 D.nx) (Qf := fun _ s2 => SP X pins D .next s2) hc hN I hi ok hg ht hk he hs h
      fun L C s2 m H2 I2 q ns f => stored_in hN hy hyl I2 ns f q
    rw [exec_Assign_Name_used _ _ _ _ hsw]
    exact wpAny_bind (wpAny_standAt (wpAny_bind (m := evalThenUse _ _ _) (wpAny_bind (thn core fun _ _ q => wpAny_pure (wpAny_pure q)))))
/-- a dict comprehension and a list comprehension are alike in this -/
theorem sw_trueD {kx vx : Expr} {gs : List Comprehension} {scope : Scope} {pos py : Pos} {y : Str} {l : Nat} {env : Env} (hk : env.scope.kind = .function) (hy : env.scope.names.lookup y = some .local) (hl : (py.line == pos.line) = true)
    (ha : (scope.names.any fun (n, k) => n == y && (k == .local || k == .cell)) = false) : swapsWith (.DictComp kx vx gs scope pos) (some (.Name y py)) l env = pure true :=
  (show _ = swapsWith (.ListComp kx gs scope pos) (some (.Name y py)) l env from rfl).trans (sw_true hk hy hl ha)
end
end KP

/-! part KRc -/
set_option Elab.async false
set_option linter.all false
set_option maxRecDepth 100000
set_option maxHeartbeats 4000000
/-! t[::c]: what it picks, in general; then of a pair, c 1 or -1. -/
namespace KP
open PySem PySem.Spec PyProof.Rows L2 HT
/-- where t[::c] of n items begins, and how many it takes -/
def stepFrom (c : Int) (n : Nat) : Int := (Builtin.Slice.sliceAdjust none none c n).1
def stepMany (c : Int) (n : Nat) : Nat := Builtin.Slice.slicePlaces (stepFrom c n) (Builtin.Slice.sliceAdjust none none c n).2 c
def stepAll (c : Int) (n : Nat) : Bool := stepFrom c n == 0 && c == 1 && stepMany c n == n
def stepPick (c : Int) (n : Nat) (its : Array Value) : Array Value := ((List.range (stepMany c n)).filterMap fun (k : Nat) => its[(stepFrom c n + (k : Int) * c).toNat]?).toArray
section
variable {prog : Program} {w : World} {A : Around} {E : Value → Shared → Prop} {s : Shared} {t sl : Addr} {vl vu vs : Value} {c : Int} {n : Nat} {its : Array Value}
theorem steps_applied {Q : Int × Int × Nat → Shared → Prop} (is : s.heap.IsSliceOf sl vl vu vs) (pl : IsPart vl none) (pu : IsPart vu none) (ps : IsPart vs (some c)) (nz : (c == 0) = false)
    (go : Q (stepFrom c n, c, stepMany c n) s) : wpAny (model prog w) A (Builtin.Slice.sliceApplied (.ref sl) (pure (n : Int))) Q E s := by
  obtain ⟨o, at_, _, d⟩ := is
  have rest : wpAny (model prog w) A (do let a ← Builtin.Slice.slicePartIndex vl; let b ← Builtin.Slice.slicePartIndex vu; let x ← pure (Builtin.Slice.sliceAdjust a b c n); pure (x.1, c, Builtin.Slice.slicePlaces x.1 x.2 c)) Q E s :=
    wpAny_bind (slicePart_ pl (wpAny_bind (slicePart_ pu (wpAny_bind (wpAny_pure (wpAny_pure go))))))
  unfold Builtin.Slice.sliceApplied Builtin.Slice.sliceFields
  refine wpAny_bind (wpAny_bind (wpAny_field at_ d rfl (wpAny_bind (wpAny_field at_ d rfl (wpAny_bind (wpAny_field at_ d rfl (wpAny_pure (wpAny_bind (slicePart_ ps ?_)))))))))
  show wpAny _ _ (if (c == 0) = true then _ else _) _ _ s
  rw [nz]
  exact rest
/-- t[::c] is t itself, or a new tuple -/
theorem getItem_steps {Q : Value → Shared → Prop} (tup : IsTup s.heap t its) (size : its.size = n) (is : s.heap.IsSliceOf sl vl vu vs) (pl : IsPart vl none) (pu : IsPart vu none) (ps : IsPart vs (some c)) (nz : (c == 0) = false)
    (all : stepAll c n = true → Q (.ref t) s)
    (new : stepAll c n = false → (stepPick c n its).size ≤ sizeLine ∧ Q (.ref s.heap.objs.size) { s with heap := s.heap.push { cls := .type "tuple", data := .seq (stepPick c n its) } }) :
    wpAny (model prog w) A (getItem (.ref t) (.ref sl)) Q E s := by
  subst size
  refine getItem_slot tup.typeIs rfl slot_tuple_getitem (wpAny_call_entry slot_tuple_getitem tup.typeIs entry_tuple_getitem ?_ (args_tuple_getitem _ _))
  have isSlice : s.TypeIs (.ref sl) "slice" := is.imp fun _ h => ⟨h.1, h.2.1⟩
  show wpAny _ _ (Builtin.Tuple.tupleItemsOf (.ref t) >>= _) _ _ s
  refine wpAny_bind (tupleItemsOf_ tup (wpAny_bind (wpAny_typeOf isSlice ?_)))
  rw [if_pos (by decide)]
  refine wpAny_bind (steps_applied (n := its.size) is pl pu ps nz ?_)
  show wpAny _ _ (if stepAll c its.size = true then _ else _) _ _ s
  cases h : stepAll c its.size with
  | true =>
    rw [if_pos rfl]
    refine wpAny_bind (m := Builtin.Tuple.tupleIsExact (.ref t)) (wpAny_bind (wpAny_typeOf tup.typeIs (wpAny_pure ?_)))
    rw [if_pos (by decide)]
    exact wpAny_bind (wpAny_rule (wpAny_bind (wpAny_pure (wpAny_pure ⟨_, rfl, all h⟩))))
  | false =>
    rw [if_neg nofun]
    exact wpAny_bind (m := Builtin.Tuple.tupleExact (stepPick c its.size its)) (wpAny_newObj_type (wpAny_bind (wpAny_pure (wpAny_pure ⟨_, rfl, (new h).2⟩))) (new h).1)
end
/-- t[::c], t a pair -/
def rS (K : PySem.W.Frag) (x : V) (c : Int) (H : Hp) (Q : VK) : Prop := ∃ a u v, x = .ref a ∧ SqT K H a [u, v] ∧ ((c = 1 ∧ Q (.ref a) H) ∨ (c = -1 ∧ ∀ p, H p = none → Q (.ref p) (upd H p (.tup [v, u]))))
def tStep (K : PySem.W.Frag) (te ts : TE) : TE := fun σ H Q => te σ H fun x H1 => tPart ts σ H1 fun o H2 => ∃ c, o = some c ∧ rS K x c H2 Q
theorem vals_pair {x y : V} : ∀ {us : List Value}, Vals [x, y] us → ∃ u v, us = [u, v] ∧ RelV x u ∧ RelV y v
  | _, .cons p (.cons q .nil) => ⟨_, _, rfl, p, q⟩
section
variable {X : Cx} {K : PySem.W.Frag} {pins : List (Addr × Obj)} {σ : L2.St} {H : Hp} {s : Shared} {Q : VK}
/-- a slice without its first two parts, its third read -/
theorem slice3 {es : Expr} {ts : TE} {p2 : Pos} {F : Value → Shared → Prop} (I : Inv X pins σ H s) (hes : PE X es ts) {R : Option Int → Hp → Prop} (q : tPart ts σ H R)
    (go : ∀ vl vu vs s2 o H2, Inv X pins σ H2 s2 → IsPart vl none → IsPart vu none → IsPart vs o → R o H2 → F (.ref s2.heap.objs.size) { s2 with heap := s2.heap.push { cls := .type "slice", data := .fields #[vl, vu, vs] } }) :
    wpAny (model X.prog X.w) X.A (eval (.Slice none none (some es) p2) X.env) F X.xe s := by
  refine wpAny_Slice (thn (po_none.run pins s σ H (fun o H2 => o = none ∧ H2 = H) I ⟨rfl, rfl⟩) ?_)
  rintro vl s1 ⟨_, _, I1, pl, rfl, rfl⟩
  refine thn (po_none.run pins s1 σ _ (fun o H2 => o = none ∧ H2 = _) I1 ⟨rfl, rfl⟩) ?_
  rintro vu s2 ⟨_, _, I2, pu, rfl, rfl⟩
  exact thn ((po_some hes : PO X (some es) (tPart ts)).run pins s2 σ _ R I2 q) fun vs s3 ⟨o, H3, I3, ps, r⟩ => go vl vu vs s3 o H3 I3 pl pu ps r
theorem pe_step_K {e es : Expr} {te ts : TE} {p2 pos : Pos} (he : PE X e te) (hes : PE X es ts) (h : X.K = K := by rfl) : PE X (.Subscript e (.Slice none none (some es) p2) pos) (tStep K te ts) where
  run pins s σ H Q I q := by
    subst h
    refine Subscript_ (thn (he.run pins s σ H _ I q) fun v s1 ⟨x, H1, I1, r1, q1⟩ => slice3 I1 hes q1 fun vl vu vs s2 o H2 I2 pl pu ps q2 => ?_)
    obtain ⟨c, rfl, a, x, y, rfl, pair, end_⟩ := q2
    obtain rfl : v = .ref a := r1
    have I3 : Inv X pins σ H2 { s2 with heap := s2.heap.push { cls := .type "slice", data := .fields #[vl, vu, vs] } } := I2.kept (t' := s2.toks) fun _ _ z => Heap.get?_push_of_some _ z
    obtain ⟨us, r, tup, _⟩ := I3.tuple pair
    obtain ⟨u, v, rfl, ru, rv⟩ := vals_pair r
    have is := Heap.IsSliceOf.new s2.heap vl vu vs
    refine tail_any (ops := [.ref a, .ref s2.heap.objs.size]) tup.typeIs slot_tuple_getitem.lookup ?_ (by with_unfolding_all rfl)
    rcases end_ with ⟨rfl, k⟩ | ⟨rfl, k⟩
    · exact getItem_steps tup (n := 2) rfl is pl pu ps rfl (fun _ => ⟨.ref a, H2, I3, rfl, k⟩) nofun
    · refine getItem_steps tup (n := 2) rfl is pl pu ps rfl nofun fun _ => ⟨by show 2 ≤ sizeLine; decide, .ref _, _, ?_, rfl, k _ (I3.hok.fresh (Nat.le_refl _))⟩
      exact I3.laid (t' := s2.toks) (o := .tup [y, x]) (fun _ _ z => Heap.get?_push_of_some _ z) (Nat.le_refl _) ⟨by show 2 ≤ sizeLine; decide, [v, u], .cons rv (.cons ru .nil), IsTup.new _ _⟩
end
end KP

/-! part KRe -/
set_option Elab.async false
set_option linter.all false
set_option maxRecDepth 100000
set_option maxHeartbeats 4000000
/-! NotWithin(lot): an own error over an own error over ValueError, whose __init__ says super().__init__(text) and keeps the lot. -/
namespace PySem
namespace NWX
open PySem.W PySem.Calls PyProof.Rows PySem.HandSPX PySem.Spec
/-! ### the text of __init__ -/
/-- the first statement of a class's body -/
def firstIn : Stmt → Stmt
  | .ClassDef (body := b :: _) .. => b
  | st => st
def nwI : Stmt := firstIn (PySem.Challenge.pw_everyflow_k65_whole_value_bounds.main.body.getD 5 (.Pass ⟨0, 0, 0, 0⟩))
/-- what the written part says of NotWithin, at C, and of its __init__, at fI -/
structure NwTxt (prog : Program) (K : Frag) (mg : Str → Option Value) (C fI : Addr) : Prop where
  gC : mg "NotWithin" = some (.ref C)
  cls : ∃ nm q N bs bm sn sub ab col dd k0 k1 k2 k3 k5, K.lookup C = some (excClassObj nm q C N bs bm true sn sub ab col dd k0 k1 k2 k3 k5 "ValueError.__new__") ∧ refsVE bm = true
  sa : findIn K (.ref C) "__setattr__" = some (some (.builtin "object.__setattr__"))
  noN : findIn K (.ref C) "lot" = some none
  iC : findIn K (.ref C) "__init__" = some (some (.ref fI))
  tC : typeIn K (.ref fI) = some (.type "function")
  kC : keepIn K (.ref C) = true
  exC : subIn K (.ref C) (.type "BaseException") = some true
  tyC : typeIn K (.ref C) = some (.type "type")
  sup : ks_superIn K C C "__init__" = some (some (.builtin "ValueError.__init__"))
  sV : subIn K (.ref C) (.type "ValueError") = some true
  sC : mroIn K C (.ref C) = some true
  op : nsIn K cStatics "thirdparty.any" = some none
  ms : mg "super" = none
  top : (prog.main.scope.names.lookup ("super" : Str)).isSome = false
  fn : ∃ (oc : Value) (od : Option Addr) (kV doc pm : Value) (an : Option Addr) (cc cda : Addr) (ct : Value) (osl : Array (Option Value)) (cl : Value) (cld : Option Addr) (csl : Array (Option Value)) (ccl : Value) (cdd : Option Addr) (vs : Array Value) (ccs : Array (Option Value)) (file : Str) (tf : Tok),
    K.lookup fI = some ⟨oc, od, .func (fnX "__init__" "NotWithin.__init__" (L2.defArgs nwI) (L2.defBody nwI) (L2.defScope nwI) [("__class__", cc)] .none kV doc pm an (.ref cda) ct), osl⟩ ∧ codeIn K (.ref cda) "NotWithin.__init__" = true ∧
    K.lookup cc = some ⟨cl, cld, .cell (some (.ref C)), csl⟩ ∧ K.lookup cda = some ⟨ccl, cdd, .fields vs, ccs⟩ ∧ vs[2]? = some (.str file tf) ∧ ((prog.main.file : Str) == file) = true
theorem boot_super : bootBuiltins ("super" : Str) = some (.type "super") := by first | rfl | kernel_rfl | decide +kernel
theorem one_size (v : Value) : [v].length ≤ sizeLine := by
  rw [sizeLine_eq]
  exact (by decide : 1 ≤ 16777216)
/-- what __init__ leaves of a fresh exception at x -/
structure InitEnd (h h' : Heap) (x C dx t1 : Addr) (v : Value) : Prop where
  keep : ∀ b o, b ≠ x → h.get? b = some o → h'.get? b = some o
  obj : h'.get? x = some { cls := .ref C, dict := some dx, data := .fields #[.ref t1, .none, .none, .none, .bool false, .none] }
  dbig : h.objs.size ≤ dx
  dne : dx ≠ x
  ns : h'.Ns1 dx (fun y => if y = "lot" then some v else none)
structure OwnMade (h h' : Heap) (e C d : Addr) (v : Value) : Prop where
  keep : ∀ b o, h.get? b = some o → h'.get? b = some o
  new : h.objs.size ≤ e
  obj : ∃ oe vs, h'.get? e = some oe ∧ oe.cls = .ref C ∧ oe.dict = some d ∧ oe.data = .fields vs ∧ vs[1]? = some .none
  dbig : h.objs.size ≤ d
  dne : d ≠ e
  ns : h'.Ns1 d (fun y => if y = "lot" then some v else none)
section
variable {prog : Program} {w : World} {A : Around} {E : Value → Shared → Prop} {R : Result → Shared → Prop} {s : Shared} {K : Frag} {mg mb : Str → Option Value} {C fI : Addr}
theorem mw_kind : (Value.type "method-wrapper" == Value.type "method" || Value.type "method-wrapper" == Value.type "builtin_function_or_method" || Value.type "method-wrapper" == Value.type "method-wrapper") = true := by decide
theorem mw_own : (Value.type "method-wrapper" != Value.type "method") = true := by decide
/-- a bound method of C level is called: its arguments are looked at, then the method runs with its object ahead -/
theorem mw_runs {id : String} {u x : Addr} {rest : List Value} {Q : Value → Shared → Prop} (at_ : s.heap.get? u = some (kxs_mw id x)) (quiet : (Code.builtin id ⟨.ref x :: rest, []⟩).quiet = true)
    (fits : ∀ {F : Unit → Shared → Prop} {A' : Around} {E' : Value → Shared → Prop}, F () s → wpAny (model prog w) A' (checkBoundCall id ⟨.ref x :: rest, []⟩) F E' s)
    (run : ∀ A', codeAny (model prog w) A' (.builtin id ⟨.ref x :: rest, []⟩) (wants Q E) s) : wpAny (model prog w) A (call (.ref u) rest) Q E s := by
  refine wpAny_call (codeAny_of_tree (show wpAny _ _ (callAny (.ref u) ⟨rest, []⟩) _ _ _ from ?_))
  unfold callAny
  refine wpAny_bind (wpAny_load at_ ?_)
  dsimp only
  rw [if_pos mw_kind]
  show wpAny _ _ (if (Value.type "method-wrapper" != Value.type "method") = true then _ else _) _ _ _
  rw [if_pos mw_own]
  exact wpAny_bind (fits (wpAny_bind (wpAny_pure (wpAny_pure ⟨quiet, run _⟩))))
/-- ValueError.__init__, bound to the exception at x, called -/
theorem mw_call {u x C t0 : Addr} {nm q : Str} {N : Addr} {bs bm : List Value} {hdct : Bool} {sn : List Str} {sub : List Value} {ab : Bool} {col : Option Bool} {dd : Option Addr} {k0 k1 k2 k3 k5 : Option Value} {rest : List Value} {Q : Value → Shared → Prop}
    (hC : s.heap.get? C = some (excClassObj nm q C N bs bm hdct sn sub ab col dd k0 k1 k2 k3 k5 "ValueError.__new__")) (hx : s.heap.get? x = some (HandSPX.excO C t0)) (hu : s.heap.get? u = some (kxs_mw "ValueError.__init__" x)) (hz : rest.length ≤ sizeLine)
    (h : ∀ h' t1, (∀ b o, b ≠ x → s.heap.get? b = some o → h'.get? b = some o) → h'.get? x = some (HandSPX.excO C t1) → Q .none { s with heap := h' }) :
    wpAny (model prog w) A (call (.ref u) rest) Q E s :=
  mw_runs hu (plainId_quiet F.excBase_ValueError.init.plain _) (fun q => check_bound_init F.excBase_ValueError.toExcCallFacts hC hx rfl q)
    fun A' => codeAny_builtin F.excBase_ValueError.initEntry (exc_init_tree (cls := .ref C) (t0 := t0) (dv := none) (c2 := .none) (c3 := .none) (b4 := .bool false) hx hz fun h' k new _ => h h' _ k new)
theorem nw_init (T : NwTxt prog K mg C fI) {x t0 : Addr} {v : Value} (X : K.In s.heap) (hg : s.heap.Ns mainGlobals mg) (hb : s.heap.Ns builtinsNs mb) (hbs : mb "super" = some (.type "super")) (hlim : s.heap.NoLimit) (hx : s.heap.get? x = some (HandSPX.excO C t0)) (hnx : K.lookup x = none) (hroom : A.depth < recursionLimit)
    (hq : ∀ h' tk dx t1, InitEnd s.heap h' x C dx t1 v → R (.ok (.ret .none)) { s with heap := h', toks := tk }) :
    codeAny (model prog w) A (.call (.ref fI) ⟨[.ref x, v], []⟩) R s := by
  obtain ⟨oc, od, kV, doc, pm, an, cc, cda, ct, osl, cl, cld, csl, ccl, cdd, vs, ccs, file, tf, ho, hcd, hcc, hcda, hvs, hfile⟩ := T.fn
  obtain ⟨nm, q, N, bs, bm, sn, sub, ab, col, dd, z0, z1, z2, z3, z5, hC, hbm⟩ := T.cls
  have hcl : clsIn K C = some { name := nm, bases := bs, mro := .ref C :: bm, ns := N, qualname := q, hasDict := true, slotNames := sn, subclasses := sub, abstract := ab, collection := col, hasDel := false } := by unfold clsIn; rw [hC] <;> rfl
  refine ks_codeAny_call_defAt (binds := [("self", .ref x), ("lot", v)]) hroom (X _ _ ho) rfl hlim (codeRec_of X hcd) rfl (BindsTo.of_eq (by first | rfl | with_unfolding_all rfl)) (show ∀ x ∈ (L2.defScope nwI).names, x.2 ≠ .cell by decide +kernel) (locs rfl) (fun h₁ hns hk₁ => ?_) rfl rfl rfl
  have X₁ : K.In h₁ := X.keeps hk₁
  have hx₁ := hk₁ _ _ hx
  have hxL : s.heap.objs.size ≠ x := Nat.ne_of_gt (Heap.lt_size hx)
  have hC₁ := X₁ _ _ hC
  refine ks_wpAt_execs_cons (ks_wpAt_Expr_any (ks_wpAt_MethodCall (ks_wpAt_super_base (by rfl) (by rfl) (by decide) rfl (X₁ _ _ ho) rfl (by rfl) rfl (X₁ _ _ hcda) rfl hvs hfile T.top ?_)))
  refine ks_loadName_global rfl (by rfl) (loadGlobal_builtin (hg.keeps hk₁) T.ms (hb.keeps hk₁) hbs ⟨rfl, ?_⟩)
  refine wpAny_loadName_free rfl (by rfl) (by rfl) ⟨_, X₁ _ _ hcc, rfl⟩ ?_
  refine wpAny_loadName_local rfl (by rfl) hns (v := .ref x) (by first | rfl | with_unfolding_all rfl | kernel_rfl) ?_
  refine ks_wpAny_isType_cls hC₁ rfl ⟨rfl, ?_⟩
  refine ks_wpAny_call_super hC₁ rfl hx₁ rfl (fun c z => nomatch z) (looks_mroIn X₁ T.sC) (fun h₂ hso k₂ => ?_)
  have X₂ : K.In h₂ := X₁.keeps k₂
  have hx₂ := k₂ _ _ hx₁
  have I₂ : InstAt h₂ x (HandSPX.excO C t0) C none := ⟨hx₂, rfl, rfl, trivial⟩
  have hI : Looks (model prog w) h₂ (isInstance (.ref x) (.type "ValueError")) true := I₂.type.andThen (looks_subIn X₂ T.sV)
  have hsup := T.sup
  unfold ks_superIn at hsup
  rw [hcl] at hsup
  refine kxs_getMethod kxs_ValueError hso (looks_opaque X₂ T.op) (l₀ := .ref C :: bm) ((looks_clsIn X₂ hcl).andThen .now) rfl X₂ hsup hI (ks_ne X₂ I₂ hcl) (by decide) ?_
  refine kxs_callWith (i := "ValueError.__init__") (x := x) (by rfl) ?_
  refine evalArgs_plain (rest := []) ?_
  refine spliced_cons (Calls.Constant_str (k := 0) (pos := ⟨13, 25, 13, 55⟩) (spliced_nil ⟨Heap.get?_push_at rfl rfl, ?_⟩))
  have k₃ : ∀ b o, h₂.get? b = some o → (h₂.push (kxs_mw "ValueError.__init__" x)).get? b = some o := fun b o e => Heap.get?_push_of_some _ e
  refine mw_call (s := ⟨h₂.push (kxs_mw "ValueError.__init__" x), _, _, _, _⟩) (k₃ _ _ (k₂ _ _ hC₁)) (k₃ _ _ hx₂) (Heap.get?_push_at rfl rfl) (one_size _) (fun h₄ t4 k₄ hx₄ => ?_)
  have kx : ∀ b o, b ≠ x → h₁.get? b = some o → h₄.get? b = some o := fun b o hb e => k₄ b o hb (k₃ _ _ (k₂ _ _ e))
  have X₄ : K.In h₄ := fun b o e => kx b o (fun z => by rw [z, hnx] at e; cases e) (X₁ b o e)
  have hn₄ : h₄.Ns s.heap.objs.size (fun y => [(("self" : Str), Value.ref x), ("lot", v)].reverse.lookup y) := hns.at fun o e => kx _ _ hxL e
  refine wpAt_of_wpAny (wpAny_execs_cons (plainObj_wpAny_Assign_Attribute ?_))
  refine wpAny_Name (wpAny_loadName_local rfl (by rfl) hn₄ (v := v) (by first | rfl | with_unfolding_all rfl | kernel_rfl) (wpAny_Name (wpAny_loadName_local rfl (by rfl) hn₄ (v := .ref x) (by first | rfl | with_unfolding_all rfl | kernel_rfl) ?_)))
  refine set_plain X₄ (ox := HandSPX.excO C t4) (od := none) ⟨hx₄, rfl, rfl, trivial⟩ T.sa ?_
  refine HandSPX.exc_osa X₄ hx₄ hcl (show refsVE (.ref C :: bm) = true from hbm) rfl T.noN (fun h₅ tk₅ dx k₅ dn dne hx₅ hn₅ => ?_)
  show wpAny _ _ (execs _ _) _ _ _
  have z : s.heap.objs.size < h₄.objs.size := hn₄.lt
  exact wpAny_execs_nil (hq h₅ tk₅ dx t4 ⟨fun b o hb e => k₅ b o hb (kx b o hb (hk₁ b o e)), hx₅, Nat.le_of_lt (Nat.lt_of_lt_of_le z dn), dne, hn₅⟩)
theorem nw_made (T : NwTxt prog K mg C fI) {v : Value} (X : K.In s.heap) (hg : s.heap.Ns mainGlobals mg) (hb : s.heap.Ns builtinsNs mb) (hbs : mb "super" = some (.type "super")) (hlim : s.heap.NoLimit) (hroom : A.depth + 1 < recursionLimit)
    (hq : ∀ h' tk e d, OwnMade s.heap h' e C d v → R (.ok (.ret (.ref e))) { s with heap := h', toks := tk }) :
    codeAny (model prog w) A (.call (.ref C) ⟨[v], []⟩) R s := by
  obtain ⟨nm, q, N, bs, bm, sn, sub, ab, col, dd, z0, z1, z2, z3, z5, hC, hbm⟩ := T.cls
  obtain ⟨hp, g, dr, tk, os⟩ := s
  have k : ∀ b o, hp.get? b = some o → ((hp.push (kdv_tup [v])).push (HandSPX.excO C hp.objs.size)).get? b = some o := fun b o e => Heap.get?_push_of_some _ (Heap.get?_push_of_some _ e)
  have hget : ((hp.push (kdv_tup [v])).push (HandSPX.excO C hp.objs.size)).get? (hp.objs.size + 1) = some (HandSPX.excO C hp.objs.size) := by heap_get
  have hnx : K.lookup (hp.objs.size + 1) = none := by
    cases e : K.lookup (hp.objs.size + 1) with
    | none => rfl
    | some o =>
      have z : hp.get? (hp.objs.size + 1) = some o := X _ _ e
      exact absurd (Nat.lt_of_succ_lt (Heap.lt_size z)) (Nat.lt_irrefl _)
  refine HandSPX.call_own F.excBase_ValueError (fun X => refsVE_contains X bm hbm) (X _ _ hC) (looks_findIn X T.iC) (fun self => bind_fn X self T.tC) (one_size v) ?_
  refine nw_init (s := ⟨(hp.push (kdv_tup [v])).push (HandSPX.excO C hp.objs.size), g, dr, tk, os⟩) T (X.keeps k) (hg.keeps k) (hb.keeps k) hbs (hlim.keeps k) hget hnx ?_ fun h' tk' dx t1 ⟨k', hx, dn, dne, hns⟩ => ?_
  · show A.depth + 1 < recursionLimit
    exact hroom
  · have old : ∀ b o, hp.get? b = some o → h'.get? b = some o := fun b o e => k' b o (Nat.ne_of_lt (Nat.lt_succ_of_lt (Heap.lt_size e))) (k b o e)
    have z : hp.objs.size + 1 + 1 ≤ dx := by
      first
        | (simpa only [Heap.size_push] using dn)
        | exact dn
        | (have q := dn; rw [Heap.size_push, Heap.size_push] at q; exact q)
    exact ⟨rfl, hq h' tk' (hp.objs.size + 1) dx ⟨old, Nat.le_succ _, ⟨_, _, hx, rfl, rfl, rfl, rfl⟩, Nat.le_trans (Nat.le_trans (Nat.le_succ _) (Nat.le_succ _)) z, dne, hns⟩⟩
end
end NWX
end PySem
namespace KP
open PySem PySem.Spec PyProof.Rows L2 PySem.NWX
theorem relO_lot {v : V} {v' : Value} (r : RelV v v') (f : Str) : RelO (List.lookup f [(("lot" : Str), v)]) (if f = "lot" then some v' else none) := by
  by_cases hw : f = "lot"
  · subst hw
    rw [if_pos rfl]
    have q : List.lookup ("lot" : Str) [(("lot" : Str), v)] = some v := by simp [List.lookup]
    rw [q]
    exact r
  · rw [if_neg hw]
    have qw : (f == ("lot" : Str)) = false := by simpa using hw
    have q2 : List.lookup f [(("lot" : Str), v)] = none := by simp [List.lookup, qw]
    rw [q2]
    trivial
section
variable {X : Cx} {C fI : Addr}
/-- NotWithin(e) -/
def tMkNw (C : Addr) (ta : TA) : L2.St → Hp → XK → Prop := fun σ H Q => ta σ H fun vs H1 => ∃ v, vs = [v] ∧ ∀ d, H1 d = none → Q (.ref C) (some d) (upd H1 d (.xd [(("lot" : Str), v)]))
theorem pmk_nw {a : Expr} {ta : TA} {p pos : Pos} {k : Nat} (T : NwTxt X.prog X.K X.mg C fI) (hr : Room k X.A) (ha : PA X [a] ta) (hg : Gl X "NotWithin" := by rfl)
    (he : starEach (a :: []) X.env = (false, eval a X.env) :: starEach [] X.env := by rfl) (hpl : (backTo pos (starEach [] X.env)).any (·.1) = false := by rfl) :
    PMk X (.Call (.Name "NotWithin" p) [a] [] pos) (tMkNw C ta) := by
  intro pins s σ H Q I h
  refine wpAny_Call_Name_kw (ld_glob I hg T.gC ?_)
  refine PySem.W.callWith_K (h₀ := X.base) I.ok.mod.kin T.kC (thn (ha.run pos pins s σ H _ I h) fun us s1 hh => ?_) he hpl
  obtain ⟨vs, H1, I1, r1, v, ev, q1⟩ := hh
  subst ev
  refine ⟨I1.kIn, ?_⟩
  cases r1 with
  | cons rv rn =>
    rename_i v' us'
    cases rn
    show wpAny _ _ (call (.ref C) [v']) _ _ _
    have hlim := I1.nolimit
    obtain ⟨mb, hb1, hb2⟩ := I1.mod.blt
    have hgl := I1.mod.glob.keeps I1.bk
    have hbl := hb1.keeps I1.bk
    obtain ⟨hp, g, dr, tk, os⟩ := s1
    refine wpAny_call (nw_made (mb := mb) T I1.kIn hgl hbl ((hb2 _ (by decide)).trans boot_super) hlim (by have := hr.dp; omega) fun h' tk' e d M => ?_)
    show MkP X pins σ Q (.ref e) ⟨h', g, dr, tk', os⟩
    obtain ⟨oe, fv, hoe, hc, hd, hdat, h1⟩ := M.obj
    have hns := M.ns
    obtain ⟨G', g1, g2⟩ := restrict h' fun b => decide (b ≠ e)
    have gk : ∀ b, b ≠ e → G'.get? b = h'.get? b := fun b hb => g1 b (decide_eq_true hb)
    have ge : G'.get? e = none := g2 e (by simp)
    have old : ∀ b o, hp.get? b = some o → G'.get? b = some o := fun b o q => (gk b (Nat.ne_of_lt (Nat.lt_of_lt_of_le (Heap.lt_size q) M.new))).trans (M.keep b o q)
    have ob : ObjOk X.prog X.w (upd H1 d (.xd [(("lot" : Str), v)])) G' d (.xd [(("lot" : Str), v)]) :=
      ⟨_, hns.at (fun o q => (gk d M.dne).trans q), fun f => relO_lot rv f⟩
    have J : Inv X pins σ (upd H1 d (.xd [(("lot" : Str), v)])) ⟨G', g, dr, tk', os⟩ := I1.laid (t' := tk') old M.dbig ob
    refine ⟨e, oe, fv, ⟨G', g, dr, tk', os⟩, _, .ref C, some d, rfl, J, fun b o q => ?_, ge, hoe, ⟨hc, hd⟩, hdat, h1, ?_, rfl, I1.bare, raises_own T.exC T.tyC, q1 d (I1.hok.fresh M.dbig)⟩
    · by_cases hb : b = e
      · have q' : G'.get? b = some o := q
        rw [hb, ge] at q'; cases q'
      · exact (gk b hb).symm.trans q
    · rw [upd_ne (Ne.symm M.dne)]
      exact I1.hok.fresh M.new
/-- raise NotWithin(e) -/
def tRaiseNw (C : Addr) (W : WX) (ta : TA) : TS := fun _ σ H => tMkNw C ta σ H fun cls d H' => W cls d σ H'
theorem ps_raiseNw {a : Expr} {ta : TA} {W : WX} {p pos pos2 : Pos} {k : Nat} (hc : X.calm = true) (T : NwTxt X.prog X.K X.mg C fI) (hr : Room k X.A) (tk : Takes X W) (ha : PA X [a] ta) (hg : Gl X "NotWithin" := by rfl)
    (he : starEach (a :: []) X.env = (false, eval a X.env) :: starEach [] X.env := by rfl) (hpl : (backTo pos (starEach [] X.env)).any (·.1) = false := by rfl) :
    PS X (.Raise (some (.Call (.Name "NotWithin" p) [a] [] pos)) none pos2) (tRaiseNw C W ta) := ps_raise hc tk (pmk_nw T hr ha hg he hpl)
end
end KP

/-! part KRf -/
set_option Elab.async false
set_option linter.all false
set_option maxRecDepth 100000
set_option maxHeartbeats 4000000
/-! Defs that raise, called by name, by keywords; a try with a clause «as e» ahead of others; isinstance of a caught error. -/
namespace KP
open PySem PySem.Spec PyProof.Rows L2 PySem.NWX
section
variable {X : Cx} {K : PySem.W.Frag}
/-! ### calls -/
structure ClX (P : Program) (w : World) (K : PySem.W.Frag) (mg : Str → Option Value) (base : Heap) (k : Nat) (x : Str) (ps : List Str) (sp : Sp) : Prop where
  ex : ∃ (f : Addr) (fd : FuncData), FnOk P w K mg base (L2.CX P w) k f fd ps sp ∧ mg x = some (.ref f) ∧ PySem.W.keepIn K (.ref f) = true ∧ Binds K fd ps [] ∧ ∀ (s : Shared) (ws : List Value), ws.length = ps.length → BindsTo s fd ⟨[], ps.reverse.zip ws⟩ (ps.zip ws.reverse)
theorem pe_kX {k j : Nat} {x : Str} {ps : List Str} {sp : Sp} {W : WX} {p pos : Pos} {e : Expr} {es : List Expr} {t : TA} (c : ClX X.prog X.w X.K X.mg X.base k x ps sp) (tk : Takes X W) (hr : Room j X.A) (hk : k ≤ j) (hg : Gl X x) (ha : PA X (e :: es) t)
    (pl : Plainly X x e es pos := by exact ⟨by decide, by rfl, by rfl⟩) : PE X (.Call (.Name x p) (e :: es) [] pos) (tCallS sp (WE W) t) :=
  let ⟨_, _, F, m, kp, b, _⟩ := c.ex
  pe_callS F (hr.mono hk) hg m kp b (passAt tk) ha pl.name pl.each pl.rest
/-- f(c = .., b = .., a = ..), the parameters' order turned round -/
def tCallR (sp : Sp) (E : L2.St → XK) (tk : TA) : TE := fun σ H Q => tk σ H fun zs H1 => sp zs.reverse H1 Q (E σ)
/-- such a call, its arguments there -/
theorem run_back {k : Nat} {f : Addr} {fd : FuncData} {ps : List Str} {sp : Sp} {W : WX} {pins : List (Addr × Obj)} {σ : L2.St} {H : Hp} {s : Shared} {Q : VK} {us : List Value} {vs : List V} (F : FnOk X.prog X.w X.K X.mg X.base (L2.CX X.prog X.w) k f fd ps sp)
    (room : Room k X.A) (bind : ∀ (s : Shared) (ws : List Value), ws.length = ps.length → BindsTo s fd ⟨[], ps.reverse.zip ws⟩ (ps.zip ws.reverse)) (tk : Takes X W) (I : Inv X pins σ H s) (r : Vals vs us) (q : sp vs.reverse H Q (WE W σ)) :
    wpAny (model X.prog X.w) X.A (call (.ref f) [] (ps.reverse.zip us)) (EP X pins σ Q) X.xe s := by
  have all : us.length = ps.length := r.length.symm.trans (List.length_reverse.symm.trans (F.len _ _ _ _ q))
  refine wpAny_call (codeAny_mono (F.run X.A X.stack s H _ us.reverse vs.reverse Q (WE W σ) room I.env0 (bind s us all) r.reverse q) fun res s2 out => ?_)
  match res, out with
  | .ok (.ret _), got => exact I.after got
  | .error e, air => exact passAt tk σ pins H s e s2 I air
theorem pe_kR {k j : Nat} {x : Str} {ps : List Str} {sp : Sp} {W : WX} {p pos : Pos} {kws : List Keyword} {t : TA} (c : ClX X.prog X.w X.K X.mg X.base k x ps sp) (tk : Takes X W) (hr : Room j X.A) (hk : k ≤ j) (hg : Gl X x) (ha : PK X kws t)
    (hall : (backToKw pos (keywordEach kws X.env)).all (·.1.isSome) = true := by rfl) (hks : (backToKw pos (keywordEach kws X.env)).filterMap (·.1) = ps.reverse := by rfl)
    (hdb : (x == ("__debug__" : Str)) = false := by decide) (hpl : ((backTo pos (starEach [] X.env)).any (·.1) || (backToKw pos (keywordEach kws X.env)).any (·.1.isNone)) = false := by rfl) :
    PE X (.Call (.Name x p) [] kws pos) (tCallR sp (WE W) t) where
  run pins s σ H Q I h :=
    let ⟨_, _, F, m, kp, _, b⟩ := c.ex
    wpAny_Call_Name_kw (ld_glob I hg m (PySem.W.callWith_KW0 (h₀ := X.base) I.ok.mod.kin kp hall
      (thn (ha.run pos pins s σ H _ I h) fun _ _ ⟨_, _, I1, r, q⟩ => ⟨I1.kIn, hks ▸ run_back F (hr.mono hk) b tk I1 r q⟩) hpl) hdb)

/-! ### try .. except x as n: .. (the body's errors are all x's) .. except ..: -/
/-- behind the suite slot i, the error's name, is gone -/
def unnamed (i : Nat) (D : Ends) : Ends where
  nx σ H := D.nx (σ.set i none) H
  rt := D.rt
  bk σ H := D.bk (σ.set i none) H
  ct σ H := D.ct (σ.set i none) H
def wAs1 (K : PySem.W.Frag) (c : Value) (i : Nat) (ts : Addr → Value → Option Addr → TS) (D : Ends) : WX := fun cls d σ H =>
  PySem.W.exmOne K cls c = some true ∧ ∀ a, H a = none → ts a cls d (unnamed i D) (σ.set i (some (.ref a))) H
/-- an end in one frame is that end in another -/
theorem sp_to {X Y : Cx} {p q : List (Addr × Obj)} {D : Ends} {f : Flow} {s : Shared} (t : ∀ {σ H}, Inv Y q σ H s → Inv X p σ H s) (h : SP Y q D f s) : SP X p D f s :=
  match f, h with
  | .next, ⟨σ, H, I, e⟩ => ⟨σ, H, t I, e⟩
  | .brk, ⟨σ, H, I, e⟩ => ⟨σ, H, t I, e⟩
  | .cont, ⟨σ, H, I, e⟩ => ⟨σ, H, t I, e⟩
  | .ret _, ⟨v, σ, H, I, r, e⟩ => ⟨v, σ, H, t I, r, e⟩
section
variable {pins : List (Addr × Obj)} {σ : L2.St} {H : Hp} {s : Shared} {a : Addr} {cls : Value} {d : Option Addr} {x n : Str} {c : Value} {i : Nat}
/-- an error that has landed lies apart from the frame: its suite may begin -/
theorem suite_in {B : Heap} (I : Inv X pins σ H s) (fl : HandSPX.FlyingZ B (X.env :: X.outer) a (Zc cls d) s.heap) (hf : X.env.frame = some X.env.locals) (na : H a = none) :
    ∃ oe, s.heap.get? a = some oe ∧ Zc cls d oe ∧ (∃ vs, oe.data = .fields vs) ∧ Inv (X.suite a ((a, oe) :: (X.pn ++ pins))) [] σ H s := by
  obtain ⟨oe, vs, here, z, dv⟩ := fl.there
  have out : ∀ env ∈ X.env :: X.outer, env.frame ≠ some a := fun env m q => by
    obtain ⟨_, o, e, no⟩ := fl.2.2.1.mem (List.mem_filterMap.mpr ⟨env, m, q⟩)
    cases here.symm.trans e
    exact no _ dv
  refine ⟨oe, here, z, ⟨vs, dv⟩, I.suite here dv na (fun q => out _ List.mem_cons_self (q ▸ hf)) fun m => ?_⟩
  obtain ⟨env, m2, q⟩ := List.mem_filterMap.mp m
  exact out env (List.mem_cons_of_mem _ m2) q
/-- the class that a clause names, read while the error at a is looked at -/
theorem clause_name {l : List (Addr × Obj)} {np : Pos} {Q E : Value → Shared → Prop} (S : Inv (X.suite a l) [] σ H s) (hc : Names X x c) (q : Q c s) : wpAny (model X.prog X.w) (X.A.mark (some (.ref a))) (eval (.Name x np) X.env) Q E s :=
  match hc with
  | ⟨gl, nd, .inl m⟩ => ld_glob (X := X.suite a l) S gl m q nd
  | ⟨gl, nd, .inr ⟨m, v, nn⟩⟩ => ld_blt (X := X.suite a l) S gl m v q nn nd
/-- the suite's end: the name goes, and the frame is the old one -/
theorem name_goes {o : Obj} {D : Ends} {f : Flow} {pos : Pos} (ok : X.Ok) (hN : X.N.Nodup) (hi : X.N[i]? = some n) (hn : X.env.kindOf n = some .local) (h : SP (X.suite a ((a, o) :: (X.pn ++ pins))) [] (unnamed i D) f s) :
    wpAny (model X.prog X.w) X.A (do bindName X.env n .none; unbindBehindTheSuite X.env n pos) (fun _ s2 => SP X pins D f s2) X.xe s := by
  have go : ∀ {σ H}, Inv (X.suite a ((a, o) :: (X.pn ++ pins))) [] σ H s → (∀ s2, Inv X pins (σ.set i none) H s2 → SP X pins D f s2) → wpAny (model X.prog X.w) X.A (do bindName X.env n .none; unbindBehindTheSuite X.env n pos) (fun _ s2 => SP X pins D f s2) X.xe s :=
    fun S k => gone_ok (S.unsuite ok) hN hi hn k
  match f, h with
  | .next, ⟨_, _, S, e⟩ => exact go S fun _ J => ⟨_, _, J, e⟩
  | .brk, ⟨_, _, S, e⟩ => exact go S fun _ J => ⟨_, _, J, e⟩
  | .cont, ⟨_, _, S, e⟩ => exact go S fun _ J => ⟨_, _, J, e⟩
  | .ret _, ⟨_, _, _, S, r, e⟩ => exact go S fun _ J => ⟨_, _, _, J, r, e⟩
end
section
variable {x n : Str} {c : Value} {i : Nat} {body suite : List Stmt} {b₀ : Stmt} {np pos pos' : Pos} {tb : WX → TS} {ts : Addr → Value → Option Addr → TS} {hds : List ExceptHandler}
/-- the first clause takes what is in the air -/
theorem first_takes {pins : List (Addr × Obj)} {D : Ends} {u : Value} {s : Shared} (ok : X.Ok) (hs : X.stack = X.env :: X.outer) (hf : X.env.frame = some X.env.locals) (hN : X.N.Nodup) (hi : X.N[i]? = some n) (hn : X.env.kindOf n = some .local) (hc : Names X x c)
    (hsu : ∀ (a : Addr) (oe : Obj) (cls : Value) (d : Option Addr) (pn : List (Addr × Obj)), Zc cls d oe → (∃ vs, oe.data = .fields vs) → PSs (X.suite a ((a, oe) :: pn)) (b₀ :: suite) (ts a cls d))
    {xe : Value → Shared → Prop} (up : XE (X.tr (X.pn ++ pins) xe) (wAs1 X.K c i ts D) u s) :
    wpAny (model X.prog X.w) X.A (noteFrame u X.env) (fun _ s2 => wpAny (model X.prog X.w) X.A (setFlight u none) (fun _ s3 =>
      wpAny (model X.prog X.w) X.A (handleBy u X.env (.ExceptHandler (some (.Name x np)) (some n) (b₀ :: suite) pos' :: hds)) (SP X pins D) X.xe s3) X.xe s2) X.xe s := by
  obtain ⟨a, B, sI, _, σ, H, cls, d, rfl, J, nb, ext, sky, na, os, bare, isC, then_⟩ := up
  have I : Inv X pins σ H sI := J.ofTry ok
  have fr : X.A.frames = some (X.env :: X.outer) := by rw [ok.frames, hs]
  have air : Sky B (X.env :: X.outer) a (Zc cls d) X.env.locals s.heap := hs ▸ sky
  refine air.land Zc.steady fr hf fun g fl e1 => ?_
  have I1 : Inv X pins σ H { s with heap := g } := I.landed nb fl.1 (ext.trans e1) os bare
  obtain ⟨oe, here, z, _, S1⟩ := suite_in I1 fl hf na
  have typ : PySem.W.Looks (model X.prog X.w) g (typeOf (.ref a)) cls := fun _ _ _ _ k q => wpAny_typeOf_ref (k _ _ here) (z.1 ▸ q)
  refine wpAny_handleBy_cons (codeAny_handlers_test (clause_name S1 hc ((PySem.W.exm_one I1.kIn typ isC).here ?_))) nofun
  refine codeAny_handlers_suite_as (HandSPX.lands_againZ fl fun g2 fl2 e2 => ?_)
  obtain ⟨oe2, _, z2, dv2, S2⟩ := suite_in (s := { s with heap := g2 }) (I.landed nb fl2.1 ((ext.trans e1).trans e2) os bare) fl2 hf na
  refine store_ok (X := X.suite a ((a, oe2) :: (X.pn ++ pins))) (v := .ref a) S2 hN hi (.inl hn) rfl (fun s5 S5 => ?_) (.inr hn)
  exact wpAny_mono ((hsu a oe2 cls d _ z2 dv2).run [] s5 _ H _ S5 (then_ a na)) (fun _ _ q => name_goes ok hN hi hn q) fun _ _ no => no.elim
theorem ps_try_as1 (hs : X.stack = X.env :: X.outer) (hf : X.env.frame = some X.env.locals) (hN : X.N.Nodup) (hi : X.N[i]? = some n) (hln : X.env.kindOf n = some .local) (hc : Names X x c)
    (hb : ∀ (W : WX) (pn : List (Addr × Obj)) (xe : Value → Shared → Prop), Takes (X.tr pn xe) W → PassesOwn (model X.prog X.w) X.A X.env xe → PSs (X.tr pn xe) body (tb W))
    (hsu : ∀ (a : Addr) (oe : Obj) (cls : Value) (d : Option Addr) (pn : List (Addr × Obj)), Zc cls d oe → (∃ vs, oe.data = .fields vs) → PSs (X.suite a ((a, oe) :: pn)) (b₀ :: suite) (ts a cls d)) :
    PS X (.Try body (.ExceptHandler (some (.Name x np)) (some n) (b₀ :: suite) pos' :: hds) [] [] pos) (fun D σ H => tb (wAs1 X.K c i ts D) D σ H) where
  run pins s σ H D I h := wpAny_Try_except (wpAny_mono ((hb _ _ _ (fun _ _ up => first_takes I.ok hs hf hN hi hln hc hsu up) PassesOwn.looking).run [] s σ H D (I.toTry _) h)
    (fun f s1 q => by
      have q2 : SP X pins D f s1 := sp_to (fun J => J.ofTry I.ok) q
      cases f with
      | next => exact wpAny_execs_nil q2
      | _ => exact q2) fun _ _ q => q)
end

/-! ### isinstance(e, c), e the caught error, which has a dict -/
def rIsED (K : PySem.W.Frag) (D a : Addr) (cls : Value) (d : Option Addr) : List V → Hp → VK → Prop := fun xs H Q => ∃ (c : V) (cv : Value) (b : Bool) (dd : Addr) (fs : List (Str × V)), xs = [.ref a, c] ∧ (∀ u, RelV c u → u = cv) ∧ cls = .ref D ∧ d = some dd ∧ H dd = some (.xd fs) ∧ PySem.W.kitOne K (.ref D) cv = some b ∧ Q (.bl b) H
theorem isED_vals {a : Addr} {c : V} {us : List Value} : Vals [V.ref a, c] us → ∃ u, us = [.ref a, u] ∧ RelV c u
  | .cons p (.cons q .nil) => ⟨_, by cases p; rfl, q⟩
theorem call_isED {a D : Addr} {oe : Obj} {cls : Value} {d : Option Addr} {pn : List (Addr × Obj)} (C : ExcC X.K D) (hz : Zc cls d oe) (hf : ∃ vs, oe.data = .fields vs) : CallR (X.suite a ((a, oe) :: pn)) (.builtin "isinstance") (rIsED X.K D a cls d) := by
  rintro pins s σ H _ us Q I r ⟨c, cv, b, dd, fs, rfl, one, rfl, rfl, own, ans, q⟩
  obtain ⟨u, rfl, ru⟩ := isED_vals r
  obtain rfl := one u ru
  obtain ⟨vs, dv⟩ := hf
  obtain ⟨m, ns, _⟩ := (I.hok dd _ own : ObjOk X.prog X.w H s.heap dd (.xd fs))
  obtain ⟨od, ho, hl⟩ := lookIn_ns ns
  have at_ : PySem.W.InstAt s.heap a oe D (some od) := by
    refine ⟨(I.pin (a, oe) (List.mem_append_left _ List.mem_cons_self)).1, hz.1, ?_, hz.2 ▸ ho⟩
    rw [PySem.W.notCls, dv]
  have isCls : (PySem.W.clsIn X.K D).isSome = true := by
    have h := C.hd
    cases z : PySem.W.clsIn X.K D with
    | some _ => rfl
    | none => simp [PySem.W.hasDictIn, z] at h
  exact PySem.W.kia_one (PySem.W.kitx_exc isCls C.hg C.hk C.hs C.ha C.hn C.ht C.hm) I.kIn at_ ans nofun fun tk => ⟨.bl b, H, I.kept (t' := tk) fun _ _ z => z, rfl, q⟩
end
end KP
namespace KP
open PySem PySem.Spec PyProof.Rows L2 PySem.NWX
theorem fun_rev {K : PySem.W.Frag} {x qual : Str} {st : Stmt} {f : Addr} {fd : FuncData} {ps : List Str} (F : Fun K x qual st f fd)
    (h : ∀ (kV doc pm : Value) (an : Option Addr) (cdv ct : Value) (ws : List Value), ws.length = ps.length → bindArgs (PySem.W.fnOf x qual (defArgs st) (defBody st) (defScope st) .none kV doc pm an cdv ct) ⟨[], ps.reverse.zip ws⟩ = pure (ps.zip ws.reverse)) :
    ∀ (s : Shared) (ws : List Value), ws.length = ps.length → BindsTo s fd ⟨[], ps.reverse.zip ws⟩ (ps.zip ws.reverse) := by
  obtain ⟨oc, od, kV, doc, pm, an, cdv, ct, osl, rfl, lk, hcd⟩ := F.ex
  exact fun s ws hw => BindsTo.of_eq (h kV doc pm an cdv ct ws hw)
end KP

/-! part KP4 -/
set_option Elab.async false
set_option linter.all false
set_option maxRecDepth 100000
set_option maxHeartbeats 4000000
/-! ways_with_room. -/
namespace KP
open PySem PySem.Spec PyProof.Rows L2
section
variable {K : PySem.W.Frag} {M : MM} {σ : L2.St} {H H' : Hp} {ta tb te tx tl td ty tv : TE} {t u : TT} {v x y z : V} {d e : PyData} {P P1 P2 P3 : V → Hp → Prop} {ds es : List PyData} {i j : Int} {D : Ends} {tz : TS}
/-- d[y] = v -/
theorem s_dput {F : Addr} {kvs : List (Key × V)} {qk : Int} (hF : H F = some (.dK kvs)) (h : ED K Non tv σ H d) (ho : EV Non td σ H (.ref F)) (hi : ED K Non ty σ H (.int qk)) (hl : kvs.length < 100000)
    (c : ∀ v H1, R Non H H1 → It K H1 v d → H1 F = some (.dK kvs) → D.nx σ (upd H1 F (.dK (putK kvs (.inl qk) v)))) : sDPut td ty tv D σ H := h H (R.refl H) _ fun v H1 r p => ho H1 r _ fun w H2 r2 e => hi H2 (r.trans r2) _ fun z H3 r3 e3 => by
  subst e
  obtain rfl := it_int e3
  have h3 := ((r.trans r2).trans r3).keep (fun z => z) hF
  exact ⟨F, _, rfl, DPut.k (k := .inl qk) h3 (smallL hl), c v H3 ((r.trans r2).trans r3) (p.mono (r2.trans r3)) h3⟩
theorem q_dput {F : Addr} {kvs : List (Key × V)} {qk : Int} (hF : H F = some (.dK kvs)) (h : ED K Non tv σ H d) (ho : EV Non td σ H (.ref F)) (hi : ED K Non ty σ H (.int qk)) (hl : kvs.length < 100000)
    (c : ∀ v H1, R Non H H1 → It K H1 v d → H1 F = some (.dK kvs) → tz D σ (upd H1 F (.dK (putK kvs (.inl qk) v)))) : tSeq (sDPut td ty tv) tz D σ H := s_dput (D := { D with nx := tz D }) hF h ho hi hl c
theorem et_dnotin {F : Addr} {kvs : List (Key × V)} {ws : KM.Ways} {qk : Int} (hF : H F = some (.dK kvs)) (hw : WR K H kvs ws) (ho : EV Non td σ H (.ref F)) (hi : ED K Non ty σ H (.int qk)) : EvT Non (tB (tDNotIn ty td)) σ H (!decide (qk ∈ KM.Keys ws)) := fun H1 r Q k =>
  hi H1 r _ fun y H2 r2 e2 => ho H2 (r.trans r2) _ fun w H3 r3 e => by
    subst e
    obtain rfl := it_int e2
    have h3 := ((r.trans r2).trans r3).keep (fun z => z) hF
    refine ⟨F, _, rfl, DGet.k (k := .inl qk) h3, !decide (qk ∈ KM.Keys ws), ?_, k _ (r2.trans r3)⟩
    rw [hw.isSome]
theorem ed_dget {F : Addr} {kvs : List (Key × V)} {ws : KM.Ways} {qk : Int} {o : Option (Nat × Int × Int)} (hF : H F = some (.dK kvs)) (hw : WR K H kvs ws) (nd : (KM.Keys ws).Nodup) (hm : (qk, o) ∈ ws) (ho : EV Non td σ H (.ref F)) (hi : ED K Non ty σ H (.int qk)) :
    ED K Non (tDGet td ty) σ H (oD o) := fun H1 r Q k => ho H1 r _ fun w H2 r2 e => hi H2 (r.trans r2) _ fun y H3 r3 e3 => by
    subst e
    obtain rfl := it_int e3
    have h3 := ((r.trans r2).trans r3).keep (fun z => z) hF
    obtain ⟨o', x, h1, h2, hx⟩ := hw.get (KM.mem_keys hm)
    obtain rfl := KM.entry_inj nd h1 hm
    refine ⟨F, x, rfl, ?_, k x H3 (r2.trans r3) (hx.mono ((r.trans r2).trans r3))⟩
    rw [← h2]
    exact DGet.k (k := .inl qk) h3
theorem q_asgRaw {k : Nat} (h : te σ H fun x H1 => tz D (σ.set k (some x)) H1) : tSeq (tAsg te (gName k)) tz D σ H := h
/-- {place: None for place in starts} -/
theorem dc_none {G : Addr → Prop} {wi : TI} {k : Nat} {vs : List Nat} {ss : List Int} (nd : ss.Nodup) (src : Src Non G wi σ H (ss.map PyData.int).length (YD K (ss.map .int))) (hn : ss.length ≤ 1000)
    (hb : ∀ v, ((wipe σ vs).set k (some v))[k]? = some (some v) ∧ wipe ((wipe σ vs).set k (some v)) vs = wipe σ vs) :
    ∀ H1, R Non H H1 → ∀ Q : VK, (∀ p kvs H2, H1 p = none → R Non H1 H2 → H2 p = some (.dK kvs) → WR K H2 kvs (ss.map fun v => (v, none)) → Q (.ref p) H2) → tDc wi (gName k) tYes (tVar k) (tC .non) vs σ H1 Q := fun H1 r Q kk => src H1 r _ fun J H2 g r2 hg hJ Dl hD => by
  rw [List.length_map] at hJ
  have hm : ∀ a u, g a → ¬ Also Non Dl a u := fun a u ha hu => by
    rcases hu with hu | hu
    · exact hu
    · exact (hg a ha).2 (hu ▸ hD)
  have e0 : R Non H2 (upd H2 Dl (.dK [])) := (R.refl H2).new hD
  refine ⟨fun i m H' => m = ss.length - i ∧ i ≤ ss.length ∧ R (Also Non Dl) (upd H2 Dl (.dK [])) H' ∧ ∃ kvs, H' Dl = some (.dK kvs) ∧ WR K H' kvs ((ss.take i).map fun v => (v, none)), ⟨ss.length, rfl, Nat.zero_le _, R.refl _, [], upd_same, .nil⟩, ?_⟩
  rintro i m H' ⟨rfl, hi, r', kvs, hx, hw⟩
  have r3 : R (Also Non Dl) H2 H' := e0.also.trans r'
  obtain ⟨j1, j2⟩ := hJ _ H' hm r3
  by_cases hlt : i < ss.length
  · obtain ⟨g1, g2⟩ := j1 i hlt
    refine .inr ⟨g1, fun H6 => R (Also Non Dl) (upd H2 Dl (.dK [])) H6 ∧ ∃ kvs, H6 Dl = some (.dK kvs) ∧ WR K H6 kvs ((ss.take (i + 1)).map fun v => (v, none)), fun H6 ⟨a, b⟩ => ⟨ss.length - (i + 1), by omega, rfl, hlt, a, b⟩, fun v H4 y => ?_⟩
    obtain ⟨e4, y4⟩ := g2 v H4 y
    obtain ⟨p, hp, hv⟩ := yd_map y4
    obtain rfl := it_int hv
    obtain ⟨b1, b2⟩ := hb (.int p)
    have hx4 := e4 _ _ hx
    have hw4 := hw.mono (R.of (M := Non) e4)
    have hnk : p ∉ KM.Keys ((ss.take i).map fun v => (v, (none : Option (Nat × Int × Int)))) := by
      unfold KM.Keys
      rw [List.map_map]
      intro z
      obtain ⟨v', hv', e⟩ := List.mem_map.mp z
      have e : v' = p := e
      subst e
      obtain ⟨j, hj⟩ := List.mem_iff_getElem?.mp hv'
      rw [List.getElem?_take] at hj
      split at hj
      · rename_i hji
        obtain ⟨l1, q1⟩ := List.getElem?_eq_some_iff.mp hj
        obtain ⟨l2, q2⟩ := List.getElem?_eq_some_iff.mp hp
        have := (List.getElem_inj nd).mp (q1.trans q2.symm)
        omega
      · cases hj
    have ln := hw.len
    refine ⟨b2, ⟨_, b1, kvs, .inl p, rfl, hx4, smallL ?_, (r'.trans (R.of e4)).chgA hx4 mt_d mt_d, _, upd_same, ?_⟩⟩
    · rw [ln, List.length_map, List.length_take]; omega
    · rw [hw4.put hnk, List.take_add_one, hp, List.map_append]
      exact (hw4.app (o := none) .non).mapT fun v d q => q.updD hx4
  · have e : i = ss.length := by omega
    subst e
    rw [List.take_length] at hw
    exact .inl ⟨j2, kk Dl kvs H' (r2.free hD) (r2.drop (r2.free hD) r3) hx hw⟩
end
/-- what is open may lead on; all else leads to what is found -/
def Cov (m : Nat) (x y lo hi a : Nat → Int) (ws : KM.Ways) (op : List Int) : Prop := ∀ p ∈ KM.Keys ws, p ∉ op → ∀ k s q, KM.Step m x y lo hi a p k s q → q ∈ KM.Keys ws
theorem keys_app {ws : KM.Ways} {v : Int} {o : Option (Nat × Int × Int)} {u : Int} : u ∈ KM.Keys (ws ++ [(v, o)]) ↔ u ∈ KM.Keys ws ∨ u = v := by
  unfold KM.Keys
  rw [List.map_append, List.mem_append]
  simp
/-- a dict of ways is given, closed -/
def RetW (K : PySem.W.Frag) (n : Nat) (A B : List (Int × Int)) (c ss : List Int) (H : Hp) (Q : VK) : Prop := ∀ p kvs ws H2, H p = none → Ex H H2 → H2 p = some (.dK kvs) → WR K H2 kvs ws →
  KM.WaysOk n A.length (xW A) (yW A) (xW B) (yW B) (fL c) (fun v => v ∈ ss) ws → KM.Closed A.length (xW A) (yW A) (xW B) (yW B) (fL c) ws → (∀ v ∈ ss, v ∈ KM.Keys ws) → Q (.ref p) H2
section
variable {P : Program} {w : World} {K : PySem.W.Frag} {mg : Str → Option Value} {base : Heap}
-- ways_with_room: slots web=0 bounds=1 amounts=2 starts=3 place=4 found=5 here=6 after=7 arrow=8 sign=9 other=10
abbrev s_ways_with_room : Stmt := topS 22
abbrev N_ways_with_room : List Str := ["web", "bounds", "amounts", "starts", "place", "found", "here", "after", "arrow", "sign", "other"]
theorem sc_ways_with_room : FnScope N_ways_with_room ["web", "bounds", "amounts", "starts"] (defScope s_ways_with_room) := ⟨rfl, rfl, rfl, by decide +kernel, rfl, by decide +kernel, by decide +kernel⟩
def sp_ways (K : PySem.W.Frag) : Sp := fun vs H Q _ => ∃ (v0 v1 : V) (a sa : Addr) (n : Nat) (A Bs : List (Int × Int)) (c ss : List Int), vs = [v0, v1, .ref a, .ref sa] ∧ It K H v0 (wD n A) ∧ It K H v1 (bD Bs) ∧ Am K H a c ∧ H sa = some (.lst (ss.map .int)) ∧ WebOk n A ∧ Bs.length = A.length ∧ c.length = A.length ∧
  ss.Nodup ∧ (∀ v ∈ ss, 0 ≤ v ∧ v < n) ∧ RetW K n A Bs c ss H Q
theorem cl_ways_with_room (c_steps_from : Cl P w K mg base 1 "steps_from" (sp_steps_from K)) (B : GB mg) (DF : Df K mg "ways_with_room" s_ways_with_room) : Cl P w K mg base 2 "ways_with_room" (sp_ways K) := by
  obtain ⟨f, fd, F, g⟩ := DF.ex
  refine ⟨f, fd, ["web", "bounds", "amounts", "starts"], F.ok sc_ways_with_room (fun vs H Q E h => ?_) (fun cdv A outer s H vs Q E hr h => ?_), g, F.kp, F.binds fun _ _ _ _ _ _ us hl => match us, hl with | [_, _, _, _], _ => rfl⟩
  · obtain ⟨v0, v1, a, sa, n, A, Bs, c, ss, rfl, _⟩ := h
    rfl
  · obtain ⟨v0, v1, a, sa, n, A, Bs, c, ss, rfl, h0, h1, ha, hsa, W, lB, lc, nd1, inn, k⟩ := h
    have nd := sc_ways_with_room.nd
    refine ⟨_, (pss_cons (ps_setDc (i := 5) (own := [("place", 4)]) (g := (gName 4)) rfl nd rfl rfl (sw_trueD rfl rfl rfl (by decide +kernel)) (pi_list_K (K := K) (pv 3)) (blkOk_by (own := [("place", 4)]) (N := N_ways_with_room) (sc := defScope s_ways_with_room) (by decide +kernel)) (fun _ _ _ _ _ => (pg_name (i := 4) nd rfl (.inl rfl))) (fun _ _ _ _ _ => pts_nil) (fun _ _ _ _ _ => (pv 4)) (fun _ _ _ _ _ => pe_non))
      (pss_cons (ps_set (i := 6) nd rfl (.inl rfl) (pe_callTy (call_list_K (K := K)) (by rfl) B.list boot_list (pa_cons (pv 3) pa_nil)))
      (pss_cons (ps_while PassesOwn.never (pt_cmpR (op_ne_K (K := K) hr.units) (pv 6) (pe_lst pa_nil) (nomark _))
        (pss_cons (ps_set (i := 7) nd rfl (.inl rfl) (pe_lst pa_nil))
        (pss_cons (ps_for PassesOwn.never rfl (pi_list_K (K := K) (pv 6)) (pg_name (i := 4) nd rfl (.inl rfl))
          (pss_one (ps_for PassesOwn.never rfl (pi_list_K (K := K) (pe_k c_steps_from hr (by decide) (by rfl) (pa_cons (pv 0) (pa_cons (pv 1) (pa_cons (pv 2) (pa_cons (pv 4) pa_nil)))))) (pg_tup_K (K := K) (n := 3) rfl (pgs_cons (pg_name (i := 8) nd rfl (.inl rfl)) (pgs_cons (pg_name (i := 9) nd rfl (.inl rfl)) (pgs_cons (pg_name (i := 10) nd rfl (.inl rfl)) pgs_nil))))
            (pss_one (ps_if (pt_cmp (pc_dnotin (hu_of hr) (pv 10) (pv 5))) (pss_cons (ps_dput (hu_of hr) (pv 5) (pv 10) (pe_tup (pa_cons (pv 8) (pa_cons (pv 9) (pa_cons (pv 4) pa_nil)))) rfl)
              (pss_one (ps_expr (pe_bm PySem.F.plainAttrs_list PySem.F.slot_list_append PySem.F.type_list_append mt_append (pv 7) (pa_cons (pv 10) pa_nil))))) pss_nil)))))
        (pss_one (ps_set (i := 6) nd rfl (.inl rfl) (pv 7))))))
      (pss_one (ps_ret (pv 5)))))), ?_⟩
    have hn1 := W.n1
    have lss : ss.length ≤ n := KM.nodup_len nd1 inn
    refine q_asgRaw (dc_none (K := K) (k := 4) (vs := [4]) (σ := start N_ways_with_room [v0, v1, .ref a, .ref sa]) nd1 (src_lv (K := K) (ev_var (k := 3) rfl) (fun _ z => z) (.inl (.inl hsa)) (nn hsa) (ItAll.ofInts ss)) (by omega) (fun v => ⟨rfl, rfl⟩) H (R.refl H) _ fun Fa kvs0 H1 hF r1 hx1 hw1 => ?_)
    refine q_asgL (K := K) (M := Non) (el_listV (ds := ss.map .int) (ev_var rfl) (fun _ z => z) (.inl (.inl (.inl (r1.keep (fun z => z) hsa)))) (ItAll.ofInts ss)) fun hh xs H2 hhn r2 hhx hall => ?_
    obtain rfl := hall.ints
    have hFh : Fa ≠ hh := ne_of_none hx1 hhn
    have ok0 : KM.WaysOk n A.length (xW A) (yW A) (xW Bs) (yW Bs) (fL c) (fun v => v ∈ ss) (ss.map fun v => (v, none)) := by
      have e : KM.Keys (ss.map fun v => (v, (none : Option (Nat × Int × Int)))) = ss := by
        unfold KM.Keys
        rw [List.map_map]
        exact List.map_id _
      refine ⟨by rw [e]; exact nd1, by rw [e]; exact inn, fun v hv => ?_, fun i v k s q hi => ?_⟩
      · obtain ⟨u, hu, e⟩ := List.mem_map.mp hv
        cases e
        exact hu
      · obtain ⟨u, _, e⟩ := get_map hi
        cases e
    have key0 : ∀ v ∈ ss, v ∈ KM.Keys (ss.map fun v => (v, (none : Option (Nat × Int × Int)))) := fun v hv => List.mem_map.mpr ⟨(v, none), List.mem_map.mpr ⟨v, hv, rfl⟩, rfl⟩
    refine q_while (M := Non) (fun m σ' H' => ∃ (o4 o7 o8 o9 o10 : Option V) (hh : Addr) (hs : List Int) (ws : KM.Ways) (kvs : List (Key × V)), σ' = [some v0, some v1, some (.ref a), some (.ref sa), o4, some (.ref Fa), some (.ref hh), o7, o8, o9, o10] ∧ R Non H H' ∧ Fa ≠ hh ∧ H' Fa = some (.dK kvs) ∧ WR K H' kvs ws ∧
      KM.WaysOk n A.length (xW A) (yW A) (xW Bs) (yW Bs) (fL c) (fun v => v ∈ ss) ws ∧ (∀ v ∈ ss, v ∈ KM.Keys ws) ∧ H' hh = some (.lst (hs.map .int)) ∧ (∀ v ∈ hs, v ∈ KM.Keys ws) ∧ Cov A.length (xW A) (yW A) (xW Bs) (yW Bs) (fL c) ws hs ∧ m = 2 * (n - ws.length) + (if hs = [] then 0 else 1))
      _ ⟨_, _, _, _, _, hh, ss, _, _, rfl, r1.trans r2, hFh, r2.keep (fun z => z) hx1, hw1.mono r2, ok0, key0, hhx, key0, fun p hp hno => absurd (by
        obtain ⟨w, hw, e⟩ := List.mem_map.mp hp
        obtain ⟨u, hu, e2⟩ := List.mem_map.mp hw
        subst e2
        exact e ▸ hu) hno, rfl⟩ fun m σ' H' hW => ?_
    obtain ⟨o4, o7, o8, o9, o10, hh, hs, ws, kvs, rfl, rH, hFh, hF', hw', ok, key, hh', hsk, cov, rfl⟩ := hW
    refine ⟨!decide (hs = []), et_is (et_test (ed_neP (K := K) (edp_v rfl (.inl (.inl hh')) (ItAll.ofInts hs)) edp_nil ((sh_list sh_ints).shaped (by decide)) rfl)) (by rw [eqv_lnil]; cases hs <;> simp), fun hb H3 r3 => ?_, fun hb H3 r3 => ?_⟩
    · -- a turn
      have hne : hs ≠ [] := fun z => by rw [z] at hb; cases hb
      refine ⟨fun σ2 H2 => ∃ m', m' < _ ∧ ∃ (o4 o7 o8 o9 o10 : Option V) (hh : Addr) (hs : List Int) (ws : KM.Ways) (kvs : List (Key × V)), σ2 = [some v0, some v1, some (.ref a), some (.ref sa), o4, some (.ref Fa), some (.ref hh), o7, o8, o9, o10] ∧ R Non H H2 ∧ Fa ≠ hh ∧ H2 Fa = some (.dK kvs) ∧ WR K H2 kvs ws ∧
        KM.WaysOk n A.length (xW A) (yW A) (xW Bs) (yW Bs) (fL c) (fun v => v ∈ ss) ws ∧ (∀ v ∈ ss, v ∈ KM.Keys ws) ∧ H2 hh = some (.lst (hs.map .int)) ∧ (∀ v ∈ hs, v ∈ KM.Keys ws) ∧ Cov A.length (xW A) (yW A) (xW Bs) (yW Bs) (fL c) ws hs ∧ m' = 2 * (n - ws.length) + (if hs = [] then 0 else 1), fun σ2 H2 z => z, ?_⟩
      refine q_asgL (K := K) (M := Non) (el_lst ea_nil (by decide)) fun l xs H4 hl r4 hx hall => ?_
      cases hall
      have r04 := rH.trans (r3.trans r4)
      have hF4 := (r3.trans r4).keep (fun z => z) hF'
      have hh4 := (r3.trans r4).keep (fun z => z) hh'
      have hFl : Fa ≠ l := fun e => by subst e; rw [r3.keep (fun z => z) hF'] at hl; cases hl
      have hhl : hh ≠ l := fun e => by subst e; rw [r3.keep (fun z => z) hh'] at hl; cases hl
      have hl0 : H l = none := (rH.trans r3).free hl
      have M'h : ∀ b u', Also (Also Non Fa) l b u' → b = Fa ∨ b = l := fun b u' h => by
        rcases h with (h | h) | h
        · exact h.elim
        · exact .inl h
        · exact .inr h
      have dropA : ∀ {H5 H6}, R Non H H5 → R (Also (Also Non Fa) l) H5 H6 → R Non H H6 := fun r r' => (R.refl H).drop hF ((r.also (p := Fa)).drop hl0 r')
      refine q_for (M := Non) (M' := Also (Also Non Fa) l) (src_lv (ev_var rfl) (fun _ z => z) (.inl (.inl hh4)) (nn hh4) (ItAll.ofInts hs)) (fun b u' hb => ?_) fun H5 r5 => ?_
      · rcases M'h b u' hb with rfl | rfl
        · exact ⟨nn hF4, hFh⟩
        · exact ⟨nn hx, fun z => hhl z.symm⟩
      refine ⟨fun i σ' H' => ∃ (o4 o8 o9 o10 : Option V) (ws' : KM.Ways) (kvs' : List (Key × V)) (as : List Int), σ' = [some v0, some v1, some (.ref a), some (.ref sa), o4, some (.ref Fa), some (.ref hh), some (.ref l), o8, o9, o10] ∧ H' Fa = some (.dK kvs') ∧ WR K H' kvs' ws' ∧
        KM.WaysOk n A.length (xW A) (yW A) (xW Bs) (yW Bs) (fL c) (fun v => v ∈ ss) ws' ∧ (∀ v ∈ KM.Keys ws, v ∈ KM.Keys ws') ∧ H' l = some (.lst (as.map .int)) ∧ (∀ v ∈ as, v ∈ KM.Keys ws') ∧ ws'.length = ws.length + as.length ∧ Cov A.length (xW A) (yW A) (xW Bs) (yW Bs) (fL c) ws' (hs.drop i ++ as),
        ⟨_, _, _, _, ws, kvs, [], rfl, r5.keep (fun z => z) hF4, hw'.mono ((r3.trans r4).trans r5), ok, fun _ z => z, r5.keep (fun z => z) hx, (fun _ z => nomatch z), rfl, by rw [List.drop_zero, List.append_nil]; exact cov⟩, fun i σ6 H6 hi r6 hP v H7 e7 hy => ?_, fun σ6 H6 r6 hP => ?_⟩
      · obtain ⟨o4, o8, o9, o10, ws', kvs', as, rfl, hF6, hw6, ok6, sub6, hl6, as6, len6, cov6⟩ := hP
        obtain ⟨p, hp, hv⟩ := yd_map hy
        obtain rfl := it_int hv
        show tFor _ _ _ _ ([some v0, some v1, some (.ref a), some (.ref sa), some (.int p), some (.ref Fa), some (.ref hh), some (.ref l), o8, o9, o10] : L2.St) H7
        have hpk : p ∈ KM.Keys ws' := sub6 p (hsk p (List.mem_of_getElem? hp))
        have r07 : R Non H H7 := (dropA (r04.trans r5) r6).trans (R.of e7)
        have src : Src Non NoG _ ([some v0, some v1, some (.ref a), some (.ref sa), some (.int p), some (.ref Fa), some (.ref hh), some (.ref l), o8, o9, o10] : L2.St) H7 _ _ := src_list (K := K) (el_call (E := E0) (sp := sp_steps_from K) (ds := (stepsTo A Bs c p A.length).map tD)
          (va_cons (ed_var (k := 0) rfl (h0.mono r07)) stb_d (va_cons (ed_var (k := 1) rfl (h1.mono r07)) stb_d (va_cons (ev_var (k := 2) rfl) stb_v (va_cons (ev_var (k := 4) rfl) stb_v va_nil)))) fun vs H8 r8 hvs Q k => by
            obtain ⟨_, _, rfl, q0, _, _, rfl, q1, _, _, rfl, rfl, _, _, rfl, rfl, rfl⟩ := hvs
            exact ⟨_, _, a, n, A, Bs, c, p, rfl, q0, q1, ha.mono (r07.trans r8) (fun _ z => z), W, lB, lc, k⟩)
        refine s_for (M := Non) (M' := Also (Also Non Fa) l) src (fun b u' hb => ?_) fun H8 r8 => ?_
        · rcases M'h b u' hb with rfl | rfl
          · exact ⟨nn (e7 _ _ hF6), fun z => z⟩
          · exact ⟨nn (e7 _ _ hl6), fun z => z⟩
        have e78 : R Non H6 H8 := (R.of e7).trans r8
        refine ⟨fun j σ' H' => ∃ (o8 o9 o10 : Option V) (ws' : KM.Ways) (kvs' : List (Key × V)) (as : List Int), σ' = [some v0, some v1, some (.ref a), some (.ref sa), some (.int p), some (.ref Fa), some (.ref hh), some (.ref l), o8, o9, o10] ∧ H' Fa = some (.dK kvs') ∧ WR K H' kvs' ws' ∧
          KM.WaysOk n A.length (xW A) (yW A) (xW Bs) (yW Bs) (fL c) (fun v => v ∈ ss) ws' ∧ (∀ v ∈ KM.Keys ws, v ∈ KM.Keys ws') ∧ H' l = some (.lst (as.map .int)) ∧ (∀ v ∈ as, v ∈ KM.Keys ws') ∧ ws'.length = ws.length + as.length ∧ Cov A.length (xW A) (yW A) (xW Bs) (yW Bs) (fL c) ws' (hs.drop i ++ as) ∧
          ∀ t ∈ (stepsTo A Bs c p A.length).take j, t.2.2 ∈ KM.Keys ws', ⟨_, _, _, ws', kvs', as, rfl, e78.keep (fun z => z) hF6, hw6.mono e78, ok6, sub6, e78.keep (fun z => z) hl6, as6, len6, cov6, fun t ht => nomatch ht⟩, fun j σ9 H9 hj r9 hP v H10 e10 hy => ?_, fun σ9 H9 r9 hP => ?_⟩
        · obtain ⟨o8, o9, o10, ws', kvs', as, rfl, hF9, hw9, ok9, sub9, hl9, as9, len9, cov9, til9⟩ := hP
          obtain ⟨t, ht, hv⟩ := yd_map hy
          obtain ⟨kk, s, qq⟩ := t
          obtain ⟨w1, w2, w3, g1, g2, g3, bd⟩ := un3 (i := 8) (j := 9) (l := 10) (σ := [some v0, some v1, some (.ref a), some (.ref sa), some (.int p), some (.ref Fa), some (.ref hh), some (.ref l), o8, o9, o10]) hv
          obtain rfl := it_int g1
          obtain rfl := it_int g2
          obtain rfl := it_int g3
          refine bd _ ?_
          have hst : KM.Step A.length (xW A) (yW A) (xW Bs) (yW Bs) (fL c) p kk s qq := (mem_stepsTo A.length).mp (List.mem_of_getElem? ht)
          have hF10 := e10 _ _ hF9
          have hl10 := e10 _ _ hl9
          have hpk9 : p ∈ KM.Keys ws' := sub9 p (hsk p (List.mem_of_getElem? hp))
          have tk : (stepsTo A Bs c p A.length).take (j + 1) = (stepsTo A Bs c p A.length).take j ++ [(kk, s, qq)] := by
            rw [List.take_add_one, ht]; rfl
          refine s_when (M := Non) (b := !decide (qq ∈ KM.Keys ws')) (et_dnotin hF10 (hw9.mono (R.of (M := Non) e10)) (ev_var rfl) (ed_var rfl (.int _))) (fun hb H11 r11 => ?_) fun hb H11 r11 => ?_
          · have hq : qq ∉ KM.Keys ws' := fun z => by rw [decide_eq_true z] at hb; cases hb
            have okN := KM.ways_more W.Ends ok9 hpk9 hst hq
            have lenN := KM.nodup_len okN.nd okN.inn
            have lnW : (KM.Keys (ws' ++ [(qq, some (kk, s, p))])).length = ws'.length + 1 := by
              unfold KM.Keys
              simp
            have hF11 := r11.keep (fun z => z) hF10
            have hw11 := hw9.mono ((R.of (M := Non) e10).trans r11)
            have lk := hw9.len
            refine q_dput (K := K) (d := .tuple [.int kk, .int s, .int p]) hF11 (ed_tup (ea3 (ed_var rfl (.int _)) (ed_var rfl (.int _)) (ed_var rfl (.int _))) (show 3 ≤ 100000 by decide)) (ev_var rfl) (ed_var rfl (.int _)) (by omega) fun vv H12 r12 hvv hF12 => ?_
            have hl12 := (r11.trans r12).keep (fun z => z) hl10
            have hlu : (upd H12 Fa (.dK (putK kvs' (.inl qq) vv))) l = some (.lst (as.map .int)) := by rw [upd_ne (fun z => hFl z.symm)]; exact hl12
            refine s_app (M := Non) (P := fun v _ => v = .int qq) hlu (fun _ z => z) (ev_var rfl) (ev_var rfl) (by rw [List.length_map]; omega) fun v13 H13 r13 e13 hl13 => ?_
            subst e13
            have rA : R (Also (Also Non Fa) l) H10 H12 := (r11.trans r12).non
            have rB : R (Also (Also Non Fa) l) H10 (upd H12 Fa (.dK (putK kvs' (.inl qq) vv))) := rA.chg hF12 mt_d mt_d (.inl (.inr rfl)) (.inl (.inr rfl))
            have rC := (rB.trans r13.non).chgA hl13 mt_l (u := .lst (as.map .int ++ [.int qq])) mt_l
            have hF13 : H13 Fa = some (.dK (putK kvs' (.inl qq) vv)) := r13.keep (fun z => z) upd_same
            refine ⟨(r9.trans (R.of e10)).trans rC, _, _, _, ws' ++ [(qq, some (kk, s, p))], putK kvs' (.inl qq) vv, as ++ [qq], rfl, by rw [upd_ne hFl]; exact hF13, ?_, okN, fun v hv => keys_app.mpr (.inl (sub9 v hv)), by rw [upd_same, List.map_append]; rfl, fun v hv => ?_, by rw [List.length_append, List.length_append, len9]; rfl, fun p' hp' hno k s q st => ?_, fun t ht => ?_⟩
            · rw [hw11.put hq]
              have a1 := (hw11.mono r12).app (v := qq) (o := some (kk, s, p)) hvv
              have a2 := a1.mapT (H' := upd H12 Fa (.dK (putK kvs' (.inl qq) vv))) fun v d q => q.updD hF12
              exact (a2.mono r13).mapT fun v d q => q.updL hl13
            · rcases List.mem_append.mp hv with hv | hv
              · exact keys_app.mpr (.inl (as9 v hv))
              · exact keys_app.mpr (.inr (List.mem_singleton.mp hv))
            · rw [← List.append_assoc, List.mem_append] at hno
              rcases keys_app.mp hp' with z | z
              · exact keys_app.mpr (.inl (cov9 p' z (fun y => hno (.inl y)) k s q st))
              · exact absurd (.inr (List.mem_singleton.mpr z)) hno
            · rw [tk, List.mem_append] at ht
              rcases ht with ht | ht
              · exact keys_app.mpr (.inl (til9 t ht))
              · rw [List.mem_singleton.mp ht]
                exact keys_app.mpr (.inr rfl)
          · have hq : qq ∈ KM.Keys ws' := Classical.byContradiction fun z => by rw [decide_eq_false z] at hb; cases hb
            have rr : R Non H9 H11 := (R.of e10).trans r11
            refine ⟨r9.trans rr.non, _, _, _, ws', kvs', as, rfl, rr.keep (fun z => z) hF9, hw9.mono rr, ok9, sub9, rr.keep (fun z => z) hl9, as9, len9, cov9, fun t ht => ?_⟩
            rw [tk, List.mem_append] at ht
            rcases ht with ht | ht
            · exact til9 t ht
            · rw [List.mem_singleton.mp ht]
              exact hq
        · -- behind the inner loop
          obtain ⟨o8, o9, o10, ws', kvs', as, rfl, hF9, hw9, ok9, sub9, hl9, as9, len9, cov9, til9⟩ := hP
          rw [List.length_map, List.take_length] at til9
          refine ⟨(r6.trans e78.non).trans r9, _, _, _, _, ws', kvs', as, rfl, hF9, hw9, ok9, sub9, hl9, as9, len9, fun p' hp' hno k s q st => ?_⟩
          by_cases cp : p' = p
          · subst cp
            exact til9 (k, s, q) ((mem_stepsTo A.length).mpr st)
          · refine cov9 p' hp' (fun z => hno ?_) k s q st
            rw [List.mem_append] at z ⊢
            rcases z with z | z
            · rw [List.drop_eq_getElem_cons (List.getElem?_eq_some_iff.mp hp).1] at z
              rcases List.mem_cons.mp z with z | z
              · have := (List.getElem?_eq_some_iff.mp hp).2
                exact absurd (z.trans this) cp
              · exact .inl z
            · exact .inr z
      · -- behind the walk over here
        obtain ⟨o4, o8, o9, o10, ws', kvs', as, rfl, hF6, hw6, ok6, sub6, hl6, as6, len6, cov6⟩ := hP
        rw [List.length_map, List.drop_length, List.nil_append] at cov6
        refine s_asg (M := Non) (ev_var (v := .ref l) rfl) fun v H7 r7 e => ?_
        subst e
        have lenN := KM.nodup_len ok6.nd ok6.inn
        have lnW : (KM.Keys ws').length = ws'.length := List.length_map ..
        refine ⟨_, ?_, _, _, _, _, _, l, as, ws', kvs', rfl, (dropA (r04.trans r5) r6).trans r7, hFl, r7.keep (fun z => z) hF6, hw6.mono r7, ok6, fun v hv => sub6 v (key v hv), r7.keep (fun z => z) hl6, as6, cov6, rfl⟩
        rw [if_neg hne]
        cases as with
        | nil =>
          rw [if_pos rfl]
          have : ws'.length = ws.length := len6
          omega
        | cons q as =>
          rw [if_neg (fun z => nomatch z)]
          rw [List.length_cons] at len6
          omega
    · -- all is found
      have he : hs = [] := by
        cases hs with
        | nil => rfl
        | cons => cases hb
      subst he
      refine s_ret (M := Non) (ev_var (v := .ref Fa) rfl) fun v H4 r4 e => ?_
      subst e
      have r04 := rH.trans (r3.trans r4)
      exact k Fa kvs ws H4 hF r04.ex ((r3.trans r4).keep (fun z => z) hF') (hw'.mono (r3.trans r4)) ok (fun p hp k s q st => cov p hp (fun z => nomatch z) k s q st) key
end
end KP

/-! part KP5 -/
set_option Elab.async false
set_option linter.all false
set_option maxRecDepth 100000
set_option maxHeartbeats 4000000
/-! way_to, room_of, led_along. -/
namespace KP
open PySem PySem.Spec PyProof.Rows L2
def sD (t : Nat × Int) : PyData := .tuple [.int t.1, .int t.2]
/-- the least of most and the steps' rooms -/
def roomL (lo hi a : Nat → Int) : List (Nat × Int) → Int → Int
  | [], m => m
  | (k, s) :: st, m => roomL lo hi a st (min m (KM.roomAt lo hi a k s))
theorem roomL_le {lo hi a : Nat → Int} : ∀ (st : List (Nat × Int)) (m : Int), roomL lo hi a st m ≤ m ∧ ∀ k s, (k, s) ∈ st → roomL lo hi a st m ≤ KM.roomAt lo hi a k s
  | [], m => ⟨Int.le_refl _, fun _ _ h => nomatch h⟩
  | (k, s) :: st, m => by
    obtain ⟨h1, h2⟩ := roomL_le (lo := lo) (hi := hi) (a := a) st (min m (KM.roomAt lo hi a k s))
    refine ⟨by show roomL lo hi a st _ ≤ m; omega, fun k' s' h => ?_⟩
    rcases List.mem_cons.mp h with e | h
    · cases e
      show roomL lo hi a st _ ≤ _
      omega
    · exact h2 k' s' h
theorem roomL_pos {lo hi a : Nat → Int} : ∀ (st : List (Nat × Int)) (m : Int), 1 ≤ m → (∀ k s, (k, s) ∈ st → 1 ≤ KM.roomAt lo hi a k s) → 1 ≤ roomL lo hi a st m
  | [], m, h, _ => h
  | (k, s) :: st, m, h, hs => by
    have := hs k s List.mem_cons_self
    exact roomL_pos st _ (by omega) fun k' s' h' => hs k' s' (List.mem_cons_of_mem _ h')
def ledL : List Int → List (Nat × Int) → Int → List Int
  | c, [], _ => c
  | c, (k, s) :: st, r => ledL (c.set k (fL c k + s * r)) st r
theorem ledL_len : ∀ (st : List (Nat × Int)) (c : List Int) (r : Int), (ledL c st r).length = c.length
  | [], _, _ => rfl
  | (k, s) :: st, c, r => by
    show (ledL (c.set k _) st r).length = _
    rw [ledL_len st, List.length_set]
theorem fL_set {c : List Int} {k : Nat} {v : Int} (hk : k < c.length) (j : Nat) : fL (c.set k v) j = if j = k then v else fL c j := by
  unfold fL
  rw [List.getD_eq_getElem?_getD, List.getD_eq_getElem?_getD, List.getElem?_set]
  by_cases e : k = j
  · subst e
    rw [if_pos rfl, if_pos hk, if_pos rfl]
    rfl
  · rw [if_neg e, if_neg fun z => e z.symm]
theorem ledL_fun : ∀ (st : List (Nat × Int)) (c : List Int) (r : Int), (∀ k s, (k, s) ∈ st → k < c.length) → fL (ledL c st r) = KM.led (fL c) st r
  | [], _, _, _ => rfl
  | (k, s) :: st, c, r, h => by
    show fL (ledL (c.set k _) st r) = KM.led (KM.upd1 (fL c) k (s * r)) st r
    have hk := h k s List.mem_cons_self
    rw [ledL_fun st _ r fun k' s' h' => by rw [List.length_set]; exact h k' s' (List.mem_cons_of_mem _ h')]
    congr 1
    funext j
    rw [fL_set hk]
    unfold KM.upd1
    by_cases e : j = k
    · subst e; simp
    · simp [e]
section
variable {K : PySem.W.Frag} {M : MM} {σ : L2.St} {H H' : Hp} {ta tb te tx tl td ty tv : TE} {t u : TT} {v x y z : V} {d e : PyData} {P P1 P2 P3 : V → Hp → Prop} {ds es : List PyData} {i j : Int} {D : Ends} {tz : TS}
def rNN : R2 := fun x y H Q => y = .non ∧ Q (.bl (!decide (x = .non))) H
def rNI : R2 := fun x y H Q => y = .non ∧ Q (.bl (decide (x = .non))) H
def isNone : PyData → Bool
  | .none => true
  | _ => false
theorem it_isnon (h : It K H v d) : decide (v = .non) = isNone d := by
  cases h <;> simp [isNone]
theorem ed_notN (h : ED K M ta σ H d) : ED K M (tOp rNN ta (tC .non)) σ H (.bool (!isNone d)) := ev_op h stb_d (ed_n (K := K)) fun x y H1 r p1 p2 Q q => ⟨it_non p2, by rw [it_isnon p1]; exact q _ H1 (R.refl _) (.bl _)⟩
theorem ed_isN (h : ED K M ta σ H d) : ED K M (tOp rNI ta (tC .non)) σ H (.bool (isNone d)) := ev_op h stb_d (ed_n (K := K)) fun x y H1 r p1 p2 Q q => ⟨it_non p2, by rw [it_isnon p1]; exact q _ H1 (R.refl _) (.bl _)⟩
abbrev rMin : List V → Hp → VK → Prop := fun xs H Q => ∃ i j, xs = [.int i, .int j] ∧ Q (.int (if j < i then j else i)) H
theorem ed_min (ha : ED K M ta σ H (.int i)) (hb : ED K M tb σ H (.int j)) : ED K M (tCB rMin (tCons ta (tCons tb tNil))) σ H (.int (min i j)) := ev_cb (PL := fun vs H2 => ItAll K H2 vs [.int i, .int j]) (ea2 ha hb) fun vs H1 r p Q q => by
  have e := ItAll.ints (ns := [i, j]) p
  subst e
  refine ⟨i, j, rfl, ?_⟩
  have e : (if j < i then j else i) = min i j := by split <;> omega
  rw [e]
  exact q _ H1 (R.refl _) (.int _)
theorem ed_mul1 (ha : ED K M ta σ H (.int i)) (hb : ED K M tb σ H (.int j)) (h : i = 1 ∨ i = -1) : ED K M (tOp (rI CMul fun i j => .int (i * j)) ta tb) σ H (.int (i * j)) := ed_I (g := fun i j => i * j) ha hb (.inl (by rcases h with rfl | rfl <;> decide))
end
/-- a way is given -/
def RetWay (K : PySem.W.Frag) (ws : KM.Ways) (v : Int) (H : Hp) (Q : VK) : Prop := ∀ st r t l xs H2, KM.Path ws st v r → H t = none → H l = none → Ex H H2 → H2 t = some (.tup [.ref l, .int r]) → H2 l = some (.lst xs) → ItAll K H2 xs (st.map sD) → Q (.ref t) H2
section
variable {P : Program} {w : World} {K : PySem.W.Frag} {mg : Str → Option Value} {base : Heap}
-- way_to: slots ways=0 place=1 steps=2 arrow=3 sign=4
abbrev s_way_to : Stmt := topS 23
abbrev N_way_to : List Str := ["ways", "place", "steps", "arrow", "sign"]
theorem sc_way_to : FnScope N_way_to ["ways", "place"] (defScope s_way_to) := ⟨rfl, rfl, rfl, by decide +kernel, rfl, by decide +kernel, by decide +kernel⟩
def sp_way_to (K : PySem.W.Frag) : Sp := fun vs H Q _ => ∃ (Fa : Addr) (kvs : List (Key × V)) (ws : KM.Ways) (n m : Nat) (x y lo hi a : Nat → Int) (S : Int → Prop) (v : Int), vs = [.ref Fa, .int v] ∧ H Fa = some (.dK kvs) ∧ WR K H kvs ws ∧ KM.WaysOk n m x y lo hi a S ws ∧ v ∈ KM.Keys ws ∧ m ≤ 100 ∧ RetWay K ws v H Q
theorem cl_way_to (B : GB mg) (DF : Df K mg "way_to" s_way_to) : Cl P w K mg base 1 "way_to" (sp_way_to K) := by
  obtain ⟨f, fd, F, g⟩ := DF.ex
  refine ⟨f, fd, ["ways", "place"], F.ok sc_way_to (fun vs H Q E h => ?_) (fun cdv A outer s H vs Q E hr h => ?_), g, F.kp, F.binds fun _ _ _ _ _ _ us hl => match us, hl with | [_, _], _ => rfl⟩
  · obtain ⟨Fa, kvs, ws, n, m, x, y, lo, hi, a, S, v, rfl, _⟩ := h
    rfl
  · obtain ⟨Fa, kvs, ws, n, m, x, y, lo, hi, a, S, v, rfl, hF, hw, ok, hv, hn, k⟩ := h
    have nd := sc_way_to.nd
    refine ⟨_, (pss_cons (ps_set (i := 2) nd rfl (.inl rfl) (pe_lst pa_nil))
      (pss_cons (ps_while PassesOwn.never (pt_cmpR op_notN (pe_dget (hu_of hr) (pv 0) (pv 1) (fun _ _ => rfl)) pe_non (nomark _))
        (pss_cons (ps_asg (pe_dget (hu_of hr) (pv 0) (pv 1) (fun _ _ => rfl)) (pg_tup_K (K := K) (n := 3) rfl (pgs_cons (pg_name (i := 3) nd rfl (.inl rfl)) (pgs_cons (pg_name (i := 4) nd rfl (.inl rfl)) (pgs_cons (pg_name (i := 1) nd rfl (.inl rfl)) pgs_nil)))))
        (pss_one (ps_expr (pe_bm PySem.F.plainAttrs_list PySem.F.slot_list_append PySem.F.type_list_append mt_append (pv 2) (pa_cons (pe_tup (pa_cons (pv 3) (pa_cons (pv 4) pa_nil))) pa_nil))))))
      (pss_one (ps_ret (pe_tup (pa_cons (pv 2) (pa_cons (pv 1) pa_nil))))))), ?_⟩
    obtain ⟨st, r, pth⟩ := KM.path_key ok hv
    have lenW := KM.nodup_len ok.nd ok.inn
    refine q_asgL (K := K) (M := Non) (el_lst ea_nil (by decide)) fun l xs H1 hl r1 hx hall => ?_
    cases hall
    refine q_while (M := Non) (fun m σ' H' => ∃ (p : Int) (o3 o4 : Option V) (don rest : List (Nat × Int)) (xs : List V), σ' = [some (.ref Fa), some (.int p), some (.ref l), o3, o4] ∧ R Non H H' ∧ H' l = some (.lst xs) ∧ ItAll K H' xs (don.map sD) ∧ st = don ++ rest ∧ KM.Path ws rest p r ∧ m = rest.length)
      _ ⟨v, _, _, [], st, [], rfl, r1, hx, .nil, rfl, pth, rfl⟩ fun m' σ' H' hW => ?_
    obtain ⟨p, o3, o4, don, rest, xs, rfl, rH, hl', hall, est, pth', rfl⟩ := hW
    have hF' := rH.keep (fun z => z) hF
    have hw' := hw.mono rH
    cases pth' with
    | nil hm =>
      refine ⟨false, et_test (ed_notN (d := oD none) (ed_dget (K := K) hF' hw' ok.nd hm (ev_var rfl) (ed_var rfl (.int _)))), (fun z => nomatch z), fun _ H3 r3 => ?_⟩
      have hl3 := r3.keep (fun z => z) hl'
      refine s_ret (M := Non) (P := fun v H2 => ∃ t, v = .ref t ∧ H t = none ∧ H2 t = some (.tup [.ref l, .int r])) (fun H4 r4 Q q => ?_) fun v' H4 r4 hP => ?_
      · refine ⟨_, rfl, _, rfl, small (show 2 ≤ 100000 by decide), fun t ht => ?_⟩
        exact q _ _ ((R.refl _).new ht) ⟨t, rfl, ((rH.trans r3).trans r4).free ht, upd_same⟩
      · obtain ⟨t, rfl, ht, ht2⟩ := hP
        rw [List.append_nil] at est
        subst est
        exact k st r t l xs H4 pth ht hl ((rH.trans r3).trans r4).ex ht2 (r4.keep (fun z => z) hl3) (hall.mono (r3.trans r4))
    | @cons _ q' _ kk s rest' hm pth' =>
      refine ⟨true, et_test (ed_notN (d := oD (some (kk, s, q'))) (ed_dget (K := K) hF' hw' ok.nd hm (ev_var rfl) (ed_var rfl (.int _)))), fun _ H3 r3 => ?_, (fun z => nomatch z)⟩
      refine ⟨fun σ2 H2 => ∃ m', m' < _ ∧ ∃ (p : Int) (o3 o4 : Option V) (don rest : List (Nat × Int)) (xs : List V), σ2 = [some (.ref Fa), some (.int p), some (.ref l), o3, o4] ∧ R Non H H2 ∧ H2 l = some (.lst xs) ∧ ItAll K H2 xs (don.map sD) ∧ st = don ++ rest ∧ KM.Path ws rest p r ∧ m' = rest.length, fun σ2 H2 z => z, ?_⟩
      have hF3 := r3.keep (fun z => z) hF'
      refine q_asgT (K := K) (M := Non) (d := oD (some (kk, s, q'))) (ed_dget (K := K) hF3 (hw'.mono r3) ok.nd hm (ev_var rfl) (ed_var rfl (.int _))) fun v4 H4 r4 hv4 => ?_
      obtain ⟨w1, w2, w3, g1, g2, g3, bd⟩ := un3 (i := 3) (j := 4) (l := 1) (σ := [some (.ref Fa), some (.int p), some (.ref l), o3, o4]) hv4
      obtain rfl := it_int g1
      obtain rfl := it_int g2
      obtain rfl := it_int g3
      refine bd _ ?_
      have hl4 := (r3.trans r4).keep (fun z => z) hl'
      have len1 := hall.len
      have nd := pth.nodup ok
      -- how long a way may be
      have lenD : don.length ≤ 100 := by
        have hk : ∀ k ∈ st.map (·.1), k < m := fun k hk => by
          obtain ⟨⟨k', s'⟩, h1, rfl⟩ := List.mem_map.mp hk
          obtain ⟨_, _, h2, _⟩ := pth.step ok k' s' h1
          exact h2
        have l1 := KM.nodup_sub _ (List.range m) nd fun k h => List.mem_range.mpr (hk k h)
        rw [List.length_map, List.length_range, est, List.length_append] at l1
        omega
      refine s_app (M := Non) (P := fun v H => It K H v (sD (kk, s))) hl4 (fun _ z => z) (ev_var rfl) (ed_tup (ea2 (ed_var rfl (.int _)) (ed_var rfl (.int _))) (show 2 ≤ 100000 by decide)) (by rw [List.length_map] at len1; omega) fun v5 H5 r5 hv5 h5 => ?_
      refine ⟨_, Nat.lt_succ_self _, q', _, _, don ++ [(kk, s)], rest', _, rfl, ((rH.trans r3).trans (r4.trans r5)).mut hl, upd_same, ?_, by rw [est, List.append_assoc]; rfl, pth', rfl⟩
      rw [List.map_append]
      exact ItAll.app ((hall.mono (r3.trans (r4.trans r5))).updL h5) (.cons (hv5.updL h5) .nil)

-- room_of: slots bounds=0 amounts=1 steps=2 most=3 arrow=4 sign=5
abbrev s_room_of : Stmt := topS 24
abbrev N_room_of : List Str := ["bounds", "amounts", "steps", "most", "arrow", "sign"]
theorem sc_room_of : FnScope N_room_of ["bounds", "amounts", "steps", "most"] (defScope s_room_of) := ⟨rfl, rfl, rfl, by decide +kernel, rfl, by decide +kernel, by decide +kernel⟩
abbrev Stp (m : Nat) (st : List (Nat × Int)) : Prop := ∀ k s, (k, s) ∈ st → k < m ∧ (s = 1 ∨ s = -1)
def sp_room_of (K : PySem.W.Frag) : Sp := fun vs H Q _ => ∃ (v0 : V) (a l : Addr) (Bs : List (Int × Int)) (c : List Int) (xs : List V) (st : List (Nat × Int)) (most : Int), vs = [v0, .ref a, .ref l, .int most] ∧ It K H v0 (bD Bs) ∧ Am K H a c ∧ H l = some (.lst xs) ∧ ItAll K H xs (st.map sD) ∧ Stp Bs.length st ∧ c.length = Bs.length ∧
  RetD K (.int (roomL (xW Bs) (yW Bs) (fL c) st most)) H Q
theorem roomL_take {lo hi a : Nat → Int} {st : List (Nat × Int)} {m : Int} {i : Nat} {k : Nat} {s : Int} (h : st[i]? = some (k, s)) : roomL lo hi a (st.take (i + 1)) m = min (roomL lo hi a (st.take i) m) (KM.roomAt lo hi a k s) := by
  induction st generalizing i m with
  | nil => simp at h
  | cons t st ih =>
    cases i with
    | zero =>
      have e : t = (k, s) := by simpa using h
      subst e
      rfl
    | succ i =>
      obtain ⟨k', s'⟩ := t
      rw [List.take_succ_cons, List.take_succ_cons]
      exact ih (by simpa using h)
theorem cl_room_of (B : GB mg) (DF : Df K mg "room_of" s_room_of) : Cl P w K mg base 1 "room_of" (sp_room_of K) := by
  obtain ⟨f, fd, F, g⟩ := DF.ex
  refine ⟨f, fd, ["bounds", "amounts", "steps", "most"], F.ok sc_room_of (fun vs H Q E h => ?_) (fun cdv A outer s H vs Q E hr h => ?_), g, F.kp, F.binds fun _ _ _ _ _ _ us hl => match us, hl with | [_, _, _, _], _ => rfl⟩
  · obtain ⟨v0, a, l, Bs, c, xs, st, most, rfl, _⟩ := h
    rfl
  · obtain ⟨v0, a, l, Bs, c, xs, st, most, rfl, h0, ha, hl, hall, hst, lc, k⟩ := h
    have nd := sc_room_of.nd
    refine ⟨_, (pss_cons (ps_for PassesOwn.never rfl (pi_list_K (K := K) (pv 2)) (pg_tup_K (K := K) (n := 2) rfl (pgs_cons (pg_name (i := 4) nd rfl (.inl rfl)) (pgs_cons (pg_name (i := 5) nd rfl (.inl rfl)) pgs_nil)))
        (pss_one (ps_set (i := 3) nd rfl (.inl rfl) (pe_callB (call_min2 rfl) (by rfl) B.min boot_min (pa_cons (pv 3) (pa_cons (pe_ifExp (pt_cmpR (op_eq_K (K := K) hr.units) (pv 5) pe_int (nomark _)) (pe_op op_sub (pe_ix (ix_K (K := K)) (pe_ix (ix_K (K := K)) (pv 0) (pv 4) (fun _ _ => rfl)) pe_int (fun _ _ => rfl)) (pe_ix (ix_K (K := K)) (pv 1) (pv 4) (fun _ _ => rfl))) (pe_op op_sub (pe_ix (ix_K (K := K)) (pv 1) (pv 4) (fun _ _ => rfl)) (pe_ix (ix_K (K := K)) (pe_ix (ix_K (K := K)) (pv 0) (pv 4) (fun _ _ => rfl)) pe_int (fun _ _ => rfl)))) pa_nil))))))
      (pss_one (ps_ret (pv 3)))), ?_⟩
    refine q_for (M := Non) (M' := Non) (src_lv (ev_var rfl) (fun _ z => z) (.inl (.inl hl)) (nn hl) hall) (fun b u' hb => hb.elim) fun H2 r2 => ?_
    refine ⟨fun i σ' H' => ∃ o4 o5, σ' = [some v0, some (.ref a), some (.ref l), some (.int (roomL (xW Bs) (yW Bs) (fL c) (st.take i) most)), o4, o5], ⟨_, _, rfl⟩, fun i σ' H' hi r' hP v H4 e4 hy => ?_, fun σ' H' r' hP => ?_⟩
    · obtain ⟨o4, o5, rfl⟩ := hP
      obtain ⟨⟨kk, s⟩, ht, hv⟩ := yd_map hy
      obtain ⟨w1, w2, g1, g2, bd⟩ := un2 (i := 4) (j := 5) (σ := [some v0, some (.ref a), some (.ref l), some (.int (roomL (xW Bs) (yW Bs) (fL c) (st.take i) most)), o4, o5]) hv
      obtain rfl := it_int g1
      obtain rfl := it_int g2
      refine bd _ ?_
      have r04 : R Non H H4 := r2.trans (r'.trans (R.of e4))
      obtain ⟨hk, hs⟩ := hst kk s (List.mem_of_getElem? ht)
      have hBi : Bs[kk]? = some Bs[kk] := List.getElem?_eq_getElem hk
      have hci : c[kk]? = some (c[kk]'(by omega)) := List.getElem?_eq_getElem (by omega)
      have hB : ∀ (z : Int) (i' : Int), L2.atI [PyData.int Bs[kk].1, PyData.int Bs[kk].2] z = some (.int i') → ED K Non (tOp (rIx K) (tOp (rIx K) (tVar 0) (tVar 4)) (tC (.int z))) [some v0, some (.ref a), some (.ref l), some (.int (roomL (xW Bs) (yW Bs) (fL c) (st.take i) most)), some (.int (kk : Nat)), some (.int s)] H4 (.int i') := fun z i' h =>
        ed_ix (ed_ix (ed_var (k := 0) rfl (h0.mono r04)) (ed_var (k := 4) rfl (.int (kk : Nat))) (atI_nat (map_get hBi))) ed_i h
      have hA : ED K Non (tOp (rIx K) (tVar 1) (tVar 4)) [some v0, some (.ref a), some (.ref l), some (.int (roomL (xW Bs) (yW Bs) (fL c) (st.take i) most)), some (.int (kk : Nat)), some (.int s)] H4 (.int c[kk]) := ed_am (fun _ z => z) (ha.mono r04 (fun _ z => z)) (ev_var (k := 1) rfl) (ed_var (k := 4) rfl (.int (kk : Nat))) hci
      have yb := yW_at hBi
      have xb := xW_at hBi
      have ck := fL_at hci
      refine s_asg (M := Non) (P := fun v H => It K H v (.int (min (roomL (xW Bs) (yW Bs) (fL c) (st.take i) most) (KM.roomAt (xW Bs) (yW Bs) (fL c) kk s)))) (ed_min (ed_var rfl (.int _)) (ev_if (b := decide (s = 1)) (et_test (ed_eqI (ed_var rfl (.int _)) ed_i)) (fun hb => ?_) (fun hb => ?_))) fun v5 H5 r5 p5 => ?_
      · have e := of_decide_eq_true hb
        refine ed_is (ed_I0 (g := fun i j => i - j) (hB 1 Bs[kk].2 rfl) hA) ?_
        unfold KM.roomAt
        rw [if_pos e, yb, ck]
      · have e := of_decide_eq_false hb
        refine ed_is (ed_I0 (g := fun i j => i - j) hA (hB 0 Bs[kk].1 rfl)) ?_
        unfold KM.roomAt
        rw [if_neg e, xb, ck]
      · rw [it_int p5, ← roomL_take ht]
        exact ⟨(r'.trans (R.of e4)).trans r5, _, _, rfl⟩
    · obtain ⟨o4, o5, rfl⟩ := hP
      rw [List.length_map, List.take_length]
      exact s_ret (M := Non) (ed_var (K := K) rfl (.int _)) fun v H5 r5 p => k v H5 (r2.trans (r'.trans r5)).ex p

/-! ### led_along -/
-- led_along: slots amounts=0 steps=1 amount=2 found=3 arrow=4 sign=5
abbrev s_led_along : Stmt := topS 25
abbrev N_led_along : List Str := ["amounts", "steps", "amount", "found", "arrow", "sign"]
theorem sc_led_along : FnScope N_led_along ["amounts", "steps", "amount"] (defScope s_led_along) := ⟨rfl, rfl, rfl, by decide +kernel, rfl, by decide +kernel, by decide +kernel⟩
def sp_led_along (K : PySem.W.Frag) : Sp := fun vs H Q _ => ∃ (a l : Addr) (c : List Int) (xs : List V) (st : List (Nat × Int)) (r : Int), vs = [.ref a, .ref l, .int r] ∧ Am K H a c ∧ H l = some (.lst xs) ∧ ItAll K H xs (st.map sD) ∧ Stp c.length st ∧ RetI (ledL c st r) H Q
theorem ledL_take {c : List Int} {st : List (Nat × Int)} {r : Int} {i : Nat} {k : Nat} {s : Int} (h : st[i]? = some (k, s)) : ledL c (st.take (i + 1)) r = (ledL c (st.take i) r).set k (fL (ledL c (st.take i) r) k + s * r) := by
  induction st generalizing i c with
  | nil => simp at h
  | cons t st ih =>
    cases i with
    | zero =>
      have e : t = (k, s) := by simpa using h
      subst e
      rfl
    | succ i =>
      obtain ⟨k', s'⟩ := t
      rw [List.take_succ_cons, List.take_succ_cons]
      exact ih (by simpa using h)
theorem cl_led_along (B : GB mg) (DF : Df K mg "led_along" s_led_along) : Cl P w K mg base 1 "led_along" (sp_led_along K) := by
  obtain ⟨f, fd, F, g⟩ := DF.ex
  refine ⟨f, fd, ["amounts", "steps", "amount"], F.ok sc_led_along (fun vs H Q E h => ?_) (fun cdv A outer s H vs Q E hr h => ?_), g, F.kp, F.binds fun _ _ _ _ _ _ us hl => match us, hl with | [_, _, _], _ => rfl⟩
  · obtain ⟨a, l, c, xs, st, r, rfl, _⟩ := h
    rfl
  · obtain ⟨a, l, c, xs, st, r, rfl, ha, hl, hall, hst, k⟩ := h
    have nd := sc_led_along.nd
    refine ⟨_, (pss_cons (ps_set (i := 3) nd rfl (.inl rfl) (pe_callTy (call_list_K (K := K)) (by rfl) B.list boot_list (pa_cons (pv 0) pa_nil)))
      (pss_cons (ps_for PassesOwn.never rfl (pi_list_K (K := K) (pv 1)) (pg_tup_K (K := K) (n := 2) rfl (pgs_cons (pg_name (i := 4) nd rfl (.inl rfl)) (pgs_cons (pg_name (i := 5) nd rfl (.inl rfl)) pgs_nil)))
        (pss_one (ps_augS (pv 3) (pv 4) (get_list_K (K := K)) (pe_op op_mul (pv 5) (pv 2)) ip_add set_list)))
      (pss_one (ps_ret (pv 3))))), ?_⟩
    refine q_asgL (K := K) (M := Non) (el_listV (ds := c.map .int) (xs := c.map .int) (ev_var rfl) (fun _ z => z) (ha.imp (fun h => .inl (.inl h)) (fun h => h)) (ItAll.ofInts c)) fun p xs1 H1 hp r1 hx1 hall1 => ?_
    obtain rfl := hall1.ints
    have hlp : l ≠ p := ne_of_none hl hp
    refine q_for (M := Non) (M' := Also Non p) (src_lv (ev_var rfl) (fun _ z => z) (.inl (.inl (r1.keep (fun z => z) hl))) (nn (r1.keep (fun z => z) hl)) (hall.mono r1)) (fun b u' hb => ?_) fun H2 r2 => ?_
    · rcases hb with hb | rfl
      · exact hb.elim
      · exact ⟨nn hx1, fun z => hlp z.symm⟩
    refine ⟨fun i σ' H' => ∃ o4 o5, σ' = [some (.ref a), some (.ref l), some (.int r), some (.ref p), o4, o5] ∧ H' p = some (.lst ((ledL c (st.take i) r).map .int)), ⟨_, _, rfl, r2.keep (fun z => z) hx1⟩, fun i σ' H' hi r' hP v H4 e4 hy => ?_, fun σ' H' r' hP => ?_⟩
    · obtain ⟨o4, o5, rfl, hp'⟩ := hP
      obtain ⟨⟨kk, s⟩, ht, hv⟩ := yd_map hy
      obtain ⟨w1, w2, g1, g2, bd⟩ := un2 (i := 4) (j := 5) (σ := [some (.ref a), some (.ref l), some (.int r), some (.ref p), o4, o5]) hv
      obtain rfl := it_int g1
      obtain rfl := it_int g2
      refine bd _ ?_
      obtain ⟨hk, hs⟩ := hst kk s (List.mem_of_getElem? ht)
      have hk2 : kk < (ledL c (st.take i) r).length := by rw [ledL_len]; exact hk
      have hg : (ledL c (st.take i) r)[kk]? = some (fL (ledL c (st.take i) r) kk) := by
        unfold fL
        rw [List.getD_eq_getElem?_getD, List.getElem?_eq_getElem hk2]
        rfl
      refine s_augL (K := K) (M := Non) (k := kk) (e4 _ _ hp') (fun _ z => z) (ev_var rfl) (ed_var rfl (.int _)) (map_get hg) (ed_mul1 (ed_var rfl (.int _)) (ed_var rfl (.int _)) hs) fun H5 r5 h5 => ?_
      refine ⟨((r'.trans (R.of e4)).trans r5.also).chgA h5 mt_l mt_l, _, _, rfl, ?_⟩
      rw [upd_same, ← List.map_set, ledL_take ht]
    · obtain ⟨o4, o5, rfl, hp'⟩ := hP
      rw [List.length_map, List.take_length] at hp'
      refine s_ret (M := Non) (ev_var (v := .ref p) rfl) fun v H5 r5 e => ?_
      subst e
      exact k p H5 hp (((r1.trans r2).drop hp r').trans r5).ex (r5.keep (fun z => z) hp')
end
end KP

/-! part KP6 -/
set_option Elab.async false
set_option linter.all false
set_option maxRecDepth 100000
set_option maxHeartbeats 4000000
/-! flow_or_lot. -/
namespace KP
open PySem PySem.Spec PyProof.Rows L2
/-! ### lots -/
def lotL (n : Nat) (f : Nat → Bool) : List Int := ((List.range n).filter f).map fun v => ((v : Nat) : Int)
theorem lot_mem {n : Nat} {f : Nat → Bool} {v : Int} : v ∈ lotL n f ↔ ∃ u : Nat, u < n ∧ f u = true ∧ v = (u : Int) := by
  unfold lotL
  rw [List.mem_map]
  constructor
  · rintro ⟨u, hu, rfl⟩
    obtain ⟨h1, h2⟩ := List.mem_filter.mp hu
    exact ⟨u, List.mem_range.mp h1, h2, rfl⟩
  · rintro ⟨u, h1, h2, rfl⟩
    exact ⟨u, List.mem_filter.mpr ⟨List.mem_range.mpr h1, h2⟩, rfl⟩
theorem lot_nodup {n : Nat} {f : Nat → Bool} : (lotL n f).Nodup := KM.cast_nodup (List.Nodup.sublist List.filter_sublist List.nodup_range)
theorem lot_in {n : Nat} {f : Nat → Bool} {v : Int} (h : v ∈ lotL n f) : 0 ≤ v ∧ v < n := by
  obtain ⟨u, hu, _, rfl⟩ := lot_mem.mp h
  omega
theorem lot_len {n : Nat} {f : Nat → Bool} : (lotL n f).length ≤ n := KM.nodup_len lot_nodup fun _ h => lot_in h
theorem lot_map {n : Nat} {f : Nat → Bool} : ((List.range n).filter f).map (fun i => PyData.int ((i : Nat) : Int)) = (lotL n f).map .int := by
  unfold lotL
  rw [List.map_map]
  rfl
abbrev exA (A : List (Int × Int)) (c : List Int) (v : Int) : Int := KM.exc A.length (xW A) (yW A) (fL c) v
theorem excL_get {n : Nat} {A : List (Int × Int)} {c : List Int} {v : Nat} (h : v < n) : (excL n A c)[v]? = some (exA A c v) := rng_get h
section
variable {K : PySem.W.Frag} {M : MM} {σ : L2.St} {H H' : Hp} {ta tb te tx tl td ty tv : TE} {t u : TT} {v x y z : V} {d e : PyData} {P P1 P2 P3 : V → Hp → Prop} {ds es : List PyData} {i j : Int} {D : Ends} {tz : TS} {gt : TG}
theorem q_asgC {k : Nat} {sp : Sp} {E : XK} {ta : TA} {PL : List V → Hp → Prop} (h : EvA M ta σ H PL) (c : ∀ vs H1, R M H H1 → PL vs H1 → sp vs H1 (fun x H2 => tz D (σ.set k (some x)) H2) E) : tSeq (tAsg (tCall sp [] E ta) (gName k)) tz D σ H := h H (R.refl H) _ fun vs H1 r p => by
  show sp (vs ++ []) H1 _ E
  rw [List.append_nil]
  exact c vs H1 r p
theorem s_asgC {k : Nat} {sp : Sp} {E : XK} {ta : TA} {PL : List V → Hp → Prop} (h : EvA M ta σ H PL) (c : ∀ vs H1, R M H H1 → PL vs H1 → sp vs H1 (fun x H2 => D.nx (σ.set k (some x)) H2) E) : tAsg (tCall sp [] E ta) (gName k) D σ H := h H (R.refl H) _ fun vs H1 r p => by
  show sp (vs ++ []) H1 _ E
  rw [List.append_nil]
  exact c vs H1 r p
theorem q_asgCg {sp : Sp} {E : XK} {ta : TA} {PL : List V → Hp → Prop} (h : EvA M ta σ H PL) (c : ∀ vs H1, R M H H1 → PL vs H1 → sp vs H1 (fun x H2 => gt x σ H2 (tz D)) E) : tSeq (tAsg (tCall sp [] E ta) gt) tz D σ H := h H (R.refl H) _ fun vs H1 r p => by
  show sp (vs ++ []) H1 _ E
  rw [List.append_nil]
  exact c vs H1 r p
/-- a list of data at an address -/
def LsD (K : PySem.W.Frag) (ds : List PyData) (v : V) (H : Hp) : Prop := ∃ p xs, v = .ref p ∧ H p = some (.lst xs) ∧ ItAll K H xs ds
theorem stb_ls : Stb Non (LsD K ds) := fun v H H' r ⟨p, xs, e, h, ha⟩ => ⟨p, xs, e, r.keep (fun z => z) h, ha.mono r⟩
theorem ev_el (h : EL K Non te σ H ds) : Ev Non te σ H (LsD K ds) := fun H1 r Q k => h H1 r _ fun p xs H2 _ r2 hp ha => k _ H2 r2 ⟨p, xs, rfl, hp, ha⟩
theorem ed_any {a : Addr} {ns : List Int} (h : EV M te σ H (.ref a)) (nm : ∀ u, ¬ M a u) (hs : H a = some (.lst (ns.map .int))) : ED K M (tCB (rAnyI K) (tCons te tNil)) σ H (.bool (ns.any (· != 0))) := fun H1 r Q k => h H1 r _ fun v H2 r2 p => by
  subst p
  exact ⟨a, ns, rfl, .inl (.inl ((r.trans r2).keep (nm _) hs)), k _ H2 r2 (.bl _)⟩
/-- an item of a list of ints that stays -/
theorem ed_li {a : Addr} {ns : List Int} {k : Nat} (ha : EV M ta σ H (.ref a)) (nm : ∀ u, ¬ M a u) (hs : H a = some (.lst (ns.map .int))) (hb : ED K M tb σ H (.int (k : Nat))) (hk : ns[k]? = some i) : ED K M (tOp (rIx K) ta tb) σ H (.int i) :=
  ed_ixL ha hb (.inl (.inl hs)) nm (ItAll.ofInts ns) (atI_nat (map_get hk))
/-- the keys of a locked dict -/
theorem src_keys {dd : Addr} {o : Obj} {kvs : List (Key × V)} {ks : List Int} (h : EV Non td σ H (.ref dd)) (hd : H dd = some (.frz o (.dK kvs))) (hk : kvs.map (·.1) = ks.map Sum.inl) :
    Src Non NoG (iKeys td) σ H ks.length (fun i v _ => ∃ p, ks[i]? = some p ∧ v = .int p) := fun H1 r Rk k => h H1 r _ fun v H2 r2 e => by
  subst e
  have h2 := (r.trans r2).keep (fun z => z) hd
  have hl : kvs.length = ks.length := by rw [← List.length_map (f := (·.1)), hk, List.length_map]
  refine ⟨dd, o, rfl, .inl ⟨kvs, h2, k _ H2 (fun _ => False) r2 (fun _ h => h.elim) fun M' H3 _ r3 => ⟨fun i hi => ⟨⟨r3.hard nm_f h2, by omega⟩, fun v H4 q => ?_⟩, r3.hard nm_f h2, by omega⟩⟩⟩
  obtain ⟨rfl, kk, v', h1, rfl⟩ := q
  have e1 : (kvs.map (·.1))[i]? = some kk := by rw [List.getElem?_map, h1]; rfl
  rw [hk] at e1
  obtain ⟨p, hp, rfl⟩ := get_map e1
  exact ⟨ex_rfl, p, hp, rfl⟩
theorem pos_of {c : Int} (h : c = 1 ∨ c = -1) : True := trivial
end
/-- a flow or a lot -/
def RetFL (K : PySem.W.Frag) (n : Nat) (A Bs : List (Int × Int)) (H : Hp) (Q : VK) : Prop :=
  (∀ c : List Int, c.length = A.length → KM.Within A.length (xW Bs) (yW Bs) (fL c) → KM.Flow n A.length (xW A) (yW A) (fL c) → RetD K (.tuple [.tuple (c.map .int), .none]) H Q) ∧
  ∀ f : Nat → Bool, 0 < KM.need A.length (xW A) (yW A) (xW Bs) (yW Bs) (fun v => decide (v ∈ lotL n f)) → RetD K (.tuple [.none, .tuple ((lotL n f).map .int)]) H Q
theorem need_congr {n m : Nat} {x y lo hi : Nat → Int} {T T' : Int → Bool} (he : KM.Ends n m x y) (h : ∀ v : Int, 0 ≤ v → v < n → T v = T' v) : KM.need m x y lo hi T = KM.need m x y lo hi T' := KM.S_congr fun k hk => by
  obtain ⟨⟨a1, a2⟩, a3, a4⟩ := he k hk
  rw [h _ a1 a2, h _ a3 a4]
section
variable {P : Program} {w : World} {K : PySem.W.Frag} {mg : Str → Option Value} {base : Heap}
-- flow_or_lot: slots web=0 bounds=1 amounts=2 excess=3c ways=4c ends=5 steps=6 start=7 room=8 low=9 high=10 place=11
abbrev s_flow_or_lot : Stmt := topS 26
abbrev N_flow_or_lot : List Str := ["web", "bounds", "amounts", "excess", "ways", "ends", "steps", "start", "room", "low", "high", "place"]
theorem sc_flow_or_lot : FnScope N_flow_or_lot ["web", "bounds"] (defScope s_flow_or_lot) := ⟨rfl, rfl, rfl, by decide +kernel, rfl, by decide +kernel, by decide +kernel⟩
def sp_flow_or_lot (K : PySem.W.Frag) : Sp := fun vs H Q _ => ∃ (v0 v1 : V) (n : Nat) (A Bs : List (Int × Int)), vs = [v0, v1] ∧ It K H v0 (wD n A) ∧ It K H v1 (bD Bs) ∧ WebOk n A ∧ BdsOk A Bs ∧ RetFL K n A Bs H Q
theorem cl_flow_or_lot (c_excess_of : Cl P w K mg base 1 "excess_of" (sp_excess_of K)) (c_ways_with_room : Cl P w K mg base 2 "ways_with_room" (sp_ways K)) (c_way_to : Cl P w K mg base 1 "way_to" (sp_way_to K)) (c_room_of : Cl P w K mg base 1 "room_of" (sp_room_of K)) (c_led_along : Cl P w K mg base 1 "led_along" (sp_led_along K))
    (B : GB mg) (DF : Df K mg "flow_or_lot" s_flow_or_lot) : Cl P w K mg base 3 "flow_or_lot" (sp_flow_or_lot K) := by
  obtain ⟨f, fd, F, g⟩ := DF.ex
  refine ⟨f, fd, ["web", "bounds"], F.ok sc_flow_or_lot (fun vs H Q E h => ?_) (fun cdv A outer s H vs Q E hr h => ?_), g, F.kp, F.binds fun _ _ _ _ _ _ us hl => match us, hl with | [_, _], _ => rfl⟩
  · obtain ⟨v0, v1, n, A, Bs, rfl, _⟩ := h
    rfl
  · obtain ⟨v0, v1, n, A, Bs, rfl, h0, h1, W, BO, kF, kL⟩ := h
    have nd := sc_flow_or_lot.nd
    refine ⟨_, (pss_cons (ps_setLc (i := 2) (own := [("low", 9), ("high", 10)]) (g := (gTup K 2 (gCons (gName 9) (gCons (gName 10) gNil)))) rfl nd rfl rfl (sw_true rfl rfl rfl (by decide +kernel)) (pi_tup_K (K := K) (pv 1)) (blkOk_by (own := [("low", 9), ("high", 10)]) (N := N_flow_or_lot) (sc := defScope s_flow_or_lot) (by decide +kernel)) (fun _ _ _ _ _ => (pg_tup_K (K := K) (n := 2) rfl (pgs_cons (pg_name (i := 9) nd rfl (.inl rfl)) (pgs_cons (pg_name (i := 10) nd rfl (.inl rfl)) pgs_nil)))) (fun _ _ _ _ _ => pts_nil) (fun _ _ _ _ _ => (pv 9)))
      (pss_cons (ps_set (i := 3) nd rfl (.inr rfl) (pe_k c_excess_of hr (by decide) (by rfl) (pa_cons (pv 0) (pa_cons (pv 2) pa_nil))))
      (pss_cons (ps_while PassesOwn.never (pt_val (pe_callB (cr_anyI_K (K := K) rfl) (by rfl) B.any boot_any (pa_cons (pv 3) pa_nil)))
        (pss_cons (ps_set (i := 4) nd rfl (.inr rfl) (pe_k c_ways_with_room hr (by decide) (by rfl) (pa_cons (pv 0) (pa_cons (pv 1) (pa_cons (pv 2) (pa_cons (pe_lc (own := [("place", 11)]) (g := (gName 11)) rfl nd (pi_range1 (by rfl) B.range (pa_cons (pe_ix (ix_K (K := K)) (pv 0) pe_int (fun _ _ => rfl)) pa_nil)) (blkOk_by (own := [("place", 11)]) (N := N_flow_or_lot) (sc := defScope s_flow_or_lot) (by decide +kernel)) (fun _ _ _ _ _ => (pg_name (i := 11) nd rfl (.inl rfl))) (fun _ _ _ _ _ => (pts_one (pt_cmpR op_lt (pe_ix (ix_K (K := K)) (pv 3) (pv 11) (fun _ _ => rfl)) pe_int (nomark _)))) (fun _ _ _ _ _ => (pv 11))) pa_nil))))))
        (pss_cons (ps_lock (ps_setLc (i := 5) (own := [("place", 11)]) (g := (gName 11)) rfl nd rfl rfl (sw_true rfl rfl rfl (by decide +kernel)) (pi_keys (pv 4)) (blkOk_by (own := [("place", 11)]) (N := N_flow_or_lot) (sc := defScope s_flow_or_lot) (by decide +kernel)) (fun _ _ _ _ _ => (pg_name (i := 11) nd rfl (.inl rfl))) (fun _ _ _ _ _ => (pts_one (pt_cmpR op_gt (pe_ix (ix_K (K := K)) (pv 3) (pv 11) (fun _ _ => rfl)) pe_int (nomark _)))) (fun _ _ _ _ _ => (pv 11))))
        (pss_cons (ps_if (pt_cmpR (op_eq_K (K := K) hr.units) (pv 5) (pe_lst pa_nil) (nomark _)) (pss_one (ps_ret (pe_tup (pa_cons pe_non (pa_cons (pe_callTy (call_tuple_K (K := K)) (by rfl) B.tuple boot_tuple (pa_cons (pe_lc (own := [("place", 11)]) (g := (gName 11)) rfl nd (pi_range1 (by rfl) B.range (pa_cons (pe_ix (ix_K (K := K)) (pv 0) pe_int (fun _ _ => rfl)) pa_nil)) (blkOk_by (own := [("place", 11)]) (N := N_flow_or_lot) (sc := defScope s_flow_or_lot) (by decide +kernel)) (fun _ _ _ _ _ => (pg_name (i := 11) nd rfl (.inl rfl))) (fun _ _ _ _ _ => (pts_one (pt_cmp (pc_dnotin (hu_of hr) (pv 11) (pv 4))))) (fun _ _ _ _ _ => (pv 11))) pa_nil)) pa_nil))))) pss_nil)
        (pss_cons (ps_asg (pe_k c_way_to hr (by decide) (by rfl) (pa_cons (pv 4) (pa_cons (pe_ix (ix_K (K := K)) (pv 5) pe_int (fun _ _ => rfl)) pa_nil))) (pg_tup_K (K := K) (n := 2) rfl (pgs_cons (pg_name (i := 6) nd rfl (.inl rfl)) (pgs_cons (pg_name (i := 7) nd rfl (.inl rfl)) pgs_nil))))
        (pss_cons (ps_set (i := 8) nd rfl (.inl rfl) (pe_k c_room_of hr (by decide) (by rfl) (pa_cons (pv 1) (pa_cons (pv 2) (pa_cons (pv 6) (pa_cons (pe_callB (call_min2 rfl) (by rfl) B.min boot_min (pa_cons (pe_un un_neg (pe_ix (ix_K (K := K)) (pv 3) (pv 7) (fun _ _ => rfl))) (pa_cons (pe_ix (ix_K (K := K)) (pv 3) (pe_ix (ix_K (K := K)) (pv 5) pe_int (fun _ _ => rfl)) (fun _ _ => rfl)) pa_nil))) pa_nil))))))
        (pss_cons (ps_set (i := 2) nd rfl (.inl rfl) (pe_k c_led_along hr (by decide) (by rfl) (pa_cons (pv 2) (pa_cons (pv 6) (pa_cons (pv 8) pa_nil)))))
        (pss_one (ps_set (i := 3) nd rfl (.inr rfl) (pe_k c_excess_of hr (by decide) (by rfl) (pa_cons (pv 0) (pa_cons (pv 2) pa_nil))))))))))))
      (pss_one (ps_ret (pe_tup (pa_cons (pe_callTy (call_tuple_K (K := K)) (by rfl) B.tuple boot_tuple (pa_cons (pv 2) pa_nil)) (pa_cons pe_non pa_nil)))))))), ?_⟩
    have hn1 := W.n1
    have hm1 := W.m1
    have lB := BO.len
    refine q_asgL (K := K) (M := Non) (ds := (Bs.map (·.1)).map .int) ((elp_lc (K := K) (src_tup (ed_var (k := 1) rfl h1)) non_M (by rw [List.length_map]; omega) (fun _ => true) (fun i d => d = .int (Bs.getD i (0, 0)).1) fun i v H3 hi r3 hy => ?_).el fun es he => ?_) fun ca xs H1 hca r1 hx1 hall1 => ?_
    · obtain ⟨p, hp, hv⟩ := yd_map hy
      obtain ⟨w1, w2, hw1, hw2, hb⟩ := un2 (i := 9) (j := 10) (σ := wipe (start N_flow_or_lot [v0, v1]) [9, 10]) hv
      exact ⟨_, hb, rfl, et_yes, fun _ => ev_dd (ed_var rfl hw1) (by rw [List.getD_eq_getElem?_getD, hp]; rfl)⟩
    · rw [Got.map he]
      apply List.ext_getElem?
      intro j
      by_cases hj : j < Bs.length
      · simp [hj]
      · simp [hj]
    obtain rfl := hall1.ints
    have c0len : (Bs.map (·.1)).length = A.length := by rw [List.length_map]; exact lB
    have c0win : KM.Within A.length (xW Bs) (yW Bs) (fL (Bs.map (·.1))) := fun k hk => by
      have hB : Bs[k]? = some Bs[k] := List.getElem?_eq_getElem (by omega)
      rw [fL_at (map_get hB), xW_at hB, yW_at hB]
      have := BO.bd _ (List.mem_of_getElem? hB)
      exact ⟨Int.le_refl _, this.2.1⟩
    refine q_asgC (M := Non) (va_cons (ed_var (k := 0) rfl (h0.mono r1)) stb_d (va_cons (ev_var (k := 2) rfl) stb_v va_nil)) fun vs H2 r2 hvs => ?_
    obtain ⟨_, _, rfl, q0, _, _, rfl, rfl, rfl⟩ := hvs
    refine ⟨_, ca, n, A, _, rfl, q0, W, r2.keep (fun z => z) hx1, c0len, fun ea H3 hea e3 hx3 => ?_⟩
    have r3 : R Non H2 H3 := R.of e3
    refine q_while (M := Non) (fun mm σ' H' => ∃ (o4 o5 o6 o7 o8 : Option V) (ca ea : Addr) (c : List Int), σ' = [some v0, some v1, some (.ref ca), some (.ref ea), o4, o5, o6, o7, o8, none, none, none] ∧ R Non H H' ∧ H' ca = some (.lst (c.map .int)) ∧ H' ea = some (.lst ((excL n A c).map .int)) ∧ c.length = A.length ∧
      KM.Within A.length (xW Bs) (yW Bs) (fL c) ∧ mm = (KM.left n A.length (xW A) (yW A) (fL c)).toNat)
      _ ⟨_, _, _, _, _, ca, ea, _, rfl, r1.trans (r2.trans r3), (r2.trans r3).keep (fun z => z) hx1, hx3, c0len, c0win, rfl⟩ fun mm σ' H' hW => ?_
    clear hx3 hea hx1 hca r1 r2 r3 e3 hall1 c0len c0win
    obtain ⟨o4, o5, o6, o7, o8, ca, ea, c, rfl, rH, hca, hea, lc, win, rfl⟩ := hW
    refine ⟨(excL n A c).any (· != 0), et_test (ed_any (K := K) (ev_var rfl) (fun _ z => z) hea), fun hb H3 r3 => ?_, fun hb H3 r3 => ?_⟩
    · -- a turn
      refine ⟨fun σ2 H2 => ∃ m', m' < _ ∧ ∃ (o4 o5 o6 o7 o8 : Option V) (ca ea : Addr) (c : List Int), σ2 = [some v0, some v1, some (.ref ca), some (.ref ea), o4, o5, o6, o7, o8, none, none, none] ∧ R Non H H2 ∧ H2 ca = some (.lst (c.map .int)) ∧ H2 ea = some (.lst ((excL n A c).map .int)) ∧ c.length = A.length ∧
        KM.Within A.length (xW Bs) (yW Bs) (fL c) ∧ m' = (KM.left n A.length (xW A) (yW A) (fL c)).toNat, fun σ2 H2 z => z, ?_⟩
      have r03 := rH.trans r3
      have hca3 := r3.keep (fun z => z) hca
      have hea3 := r3.keep (fun z => z) hea
      have stL : EL K Non _ [some v0, some v1, some (.ref ca), some (.ref ea), o4, o5, o6, o7, o8, none, none, none] H3 ((lotL n fun i => decide (exA A c (i : Nat) < 0)).map .int) :=
        (elp_lc (K := K) (vs := [11]) (gt := gName 11) (te := tVar 11) (t := tTest (tOp (rI0 fun i j => V.bl (decide (i < j))) (tOp (rIx K) (tVar 3) (tVar 11)) (tC (V.int 0)))) (src_rng1 (ta := tCons (tOp (rIx K) (tVar 0) (tC (V.int 0))) tNil) (n := (n : Nat)) (ea1 (ed_ix (ed_var (k := 0) rfl (h0.mono r03)) ed_i rfl)) (by omega) (by omega)) non_M (by rw [Int.toNat_natCast]; omega) (fun i => decide (exA A c (i : Nat) < 0)) (fun i d => d = .int (i : Nat)) fun i v H4 hi r4 hy => by
          subst hy
          rw [Int.toNat_natCast] at hi
          refine ⟨_, bd_name, rfl, ?_, fun _ => ev_dd (ed_var rfl (.int _)) rfl⟩
          exact et_test (ed_B0 (g := fun i j => decide (i < j)) (ed_li (ev_var rfl) (fun _ z => z) (r4.keep (fun z => z) hea3) (ed_var rfl (.int _)) (excL_get hi)) ed_i)).el fun es he => by
          rw [Int.toNat_natCast] at he
          rw [he.fun, lot_map]
      refine q_asgC (M := Non) (va_cons (ed_var (k := 0) rfl (h0.mono r03)) stb_d (va_cons (ed_var (k := 1) rfl (h1.mono r03)) stb_d (va_cons (ev_var (k := 2) rfl) stb_v (va_cons (ev_el stL) stb_ls va_nil)))) fun vs H4 r4 hvs => ?_
      obtain ⟨_, _, rfl, q0, _, _, rfl, q1, _, _, rfl, rfl, _, _, rfl, ⟨sa, xss, rfl, hsa, hals⟩, rfl⟩ := hvs
      obtain rfl := hals.ints
      refine ⟨_, _, ca, sa, n, A, Bs, c, _, rfl, q0, q1, .inl (r4.keep (fun z => z) hca3), hsa, W, lB, lc, lot_nodup, fun v hv => lot_in hv, fun Fa kvs ws H5 hFn e5 hF hw ok cl key => ?_⟩
      have r5 : R Non H4 H5 := R.of e5
      have r35 := r4.trans r5
      have r05 := r03.trans r35
      have hca5 := r35.keep (fun z => z) hca3
      have hea5 := r35.keep (fun z => z) hea3
      have hFe : ea ≠ Fa := fun z => by subst z; rw [r4.keep (fun z => z) hea3] at hFn; cases hFn
      have hFc : ca ≠ Fa := fun z => by subst z; rw [r4.keep (fun z => z) hca3] at hFn; cases hFn
      have lenW := KM.nodup_len ok.nd ok.inn
      have lkv := hw.len
      have lkk : (KM.Keys ws).length = ws.length := List.length_map ..
      -- ends
      refine (show tSeq _ _ _ _ H5 from ⟨Fa, .dK kvs, hF, trivial, fun od => ?_⟩)
      have hFf : (upd H5 Fa (.frz od (.dK kvs))) Fa = some (.frz od (.dK kvs)) := upd_same
      have hef : (upd H5 Fa (.frz od (.dK kvs))) ea = some (.lst ((excL n A c).map .int)) := by rw [upd_ne hFe]; exact hea5
      refine (elp_lc (K := K) (src_keys (ks := KM.Keys ws) (ev_var (k := 4) rfl) hFf hw.keys) non_M (by omega) (fun i => decide (0 < exA A c ((KM.Keys ws).getD i 0))) (fun i d => d = .int ((KM.Keys ws).getD i 0)) (fun i v H6 hi r6 hy => ?_)) _ (R.refl _) _ fun ep exs eds H6 hep r6 hex heall hgot => ?_
      · obtain ⟨p, hp, rfl⟩ := hy
        have hpi := ok.inn p (List.mem_of_getElem? hp)
        have hg : (KM.Keys ws).getD i 0 = p := by rw [List.getD_eq_getElem?_getD, hp]; rfl
        rw [hg]
        obtain ⟨p', rfl⟩ := Int.eq_ofNat_of_zero_le hpi.1
        exact ⟨_, bd_name, rfl, et_test (ed_B0 (g := fun i j => decide (j < i)) (ed_li (ev_var rfl) (fun _ z => z) (r6.keep (fun z => z) hef) (ed_var rfl (.int _)) (excL_get (by omega))) ed_i), fun _ => ev_dd (ed_var rfl (.int _)) rfl⟩
      refine ⟨r6.keep (fun z => z) hFf, ?_⟩
      have hends : ∃ es : List Int, eds = es.map .int ∧ (∀ v ∈ es, v ∈ KM.Keys ws ∧ 0 < exA A c v) ∧ (es = [] → ∀ v ∈ KM.Keys ws, exA A c v ≤ 0) := by
        refine ⟨((List.range (KM.Keys ws).length).filter fun i => decide (0 < exA A c ((KM.Keys ws).getD i 0))).map fun i => (KM.Keys ws).getD i 0, ?_, fun v hv => ?_, fun he v hv => ?_⟩
        · rw [hgot.fun, List.map_map]; rfl
        · obtain ⟨i, hi, rfl⟩ := List.mem_map.mp hv
          obtain ⟨h1, h2⟩ := List.mem_filter.mp hi
          have h1 := List.mem_range.mp h1
          refine ⟨?_, of_decide_eq_true h2⟩
          rw [List.getD_eq_getElem?_getD, List.getElem?_eq_getElem h1]
          exact List.getElem_mem h1
        · obtain ⟨i, hi⟩ := List.mem_iff_getElem?.mp hv
          have hl := (List.getElem?_eq_some_iff.mp hi).1
          have hg : (KM.Keys ws).getD i 0 = v := by rw [List.getD_eq_getElem?_getD, hi]; rfl
          rcases Int.lt_or_le 0 (exA A c v) with q | q
          · exfalso
            have hm : i ∈ (List.range (KM.Keys ws).length).filter fun i => decide (0 < exA A c ((KM.Keys ws).getD i 0)) := List.mem_filter.mpr ⟨List.mem_range.mpr hl, by rw [hg]; exact decide_eq_true q⟩
            have := List.mem_map_of_mem (f := fun i => (KM.Keys ws).getD i 0) hm
            rw [he] at this
            cases this
          · exact q
      obtain ⟨es, rfl, hes, hno⟩ := hends
      obtain rfl := heall.ints
      clear hgot
      have hep5 : H5 ep = none := by
        by_cases c : ep = Fa
        · subst c; rw [hFf] at hep; cases hep
        · rw [upd_ne c] at hep; exact hep
      have r57 : R Non H5 (upd H6 Fa (.dK kvs)) := fun b u hu => by
        by_cases c : b = Fa
        · subst c
          rw [hF] at hu; cases hu
          exact ⟨_, upd_same, .inl rfl⟩
        · obtain ⟨u', h', dd⟩ := r6 b u (by rw [upd_ne c]; exact hu)
          exact ⟨u', by rw [upd_ne c]; exact h', dd⟩
      have hex7 : (upd H6 Fa (.dK kvs)) ep = some (.lst (es.map .int)) := by
        rw [upd_ne (fun z => by subst z; rw [hF] at hep5; cases hep5)]; exact hex
      generalize hH7 : upd H6 Fa (.dK kvs) = H7 at r57 hex7
      have r07 := r05.trans r57
      have hF7 := r57.keep (fun z => z) hF
      have hw7 := hw.mono r57
      have hea7 := r57.keep (fun z => z) hea5
      have hca7 := r57.keep (fun z => z) hca5
      refine q_when (M := Non) (b := decide (es = [])) (et_is (et_test (ed_eqP (K := K) (edp_v rfl (.inl (.inl hex7)) (ItAll.ofInts es)) edp_nil ((sh_list sh_ints).shaped (by decide)) rfl)) (by rw [eqv_lnil]; cases es <;> simp)) (fun he H8 r8 => ?_) fun he H8 r8 => ?_
      · -- a lot
        have he := of_decide_eq_true he
        have neg : ∀ v : Nat, v < n → exA A c v < 0 → (v : Int) ∈ KM.Keys ws := fun v hv hl => key v (lot_mem.mpr ⟨v, hv, decide_eq_true hl, rfl⟩)
        have some0 : ∃ v : Nat, v < n ∧ exA A c v ≠ 0 := by
          obtain ⟨z, hz, hne⟩ := List.any_eq_true.mp hb
          obtain ⟨v, hv, rfl⟩ := List.mem_map.mp hz
          exact ⟨v, List.mem_range.mp hv, by simpa using hne⟩
        have nb := KM.bars W.Ends cl win neg (fun v hv hk => hno he v hk) some0
        rw [need_congr (T' := fun v => decide (v ∈ lotL n fun i => !decide (((i : Nat) : Int) ∈ KM.Keys ws))) W.Ends fun v hv1 hv2 => by
          obtain ⟨v', rfl⟩ := Int.eq_ofNat_of_zero_le hv1
          unfold KM.Out
          by_cases q : ((v' : Nat) : Int) ∈ KM.Keys ws
          · rw [decide_eq_true q, decide_eq_false]; rfl
            intro z
            obtain ⟨u, _, hu, e⟩ := lot_mem.mp z
            have : u = v' := by omega
            subst this
            rw [decide_eq_true q] at hu
            cases hu
          · rw [decide_eq_false q, decide_eq_true (lot_mem.mpr ⟨v', by omega, by rw [decide_eq_false q]; rfl, rfl⟩)]
            rfl] at nb
        have r08 := r07.trans r8
        refine s_ret (M := Non) (P := fun v H => It K H v (.tuple [.none, .tuple ((lotL n fun i => !decide (((i : Nat) : Int) ∈ KM.Keys ws)).map .int)])) (ed_tup (ea2 ed_n (ed_tupL ((elp_lc (K := K) (src_rng1 (n := (n : Nat)) (ea1 (ed_ix (ed_var (k := 0) rfl (h0.mono r08)) ed_i rfl)) (by omega) (by omega)) non_M (by rw [Int.toNat_natCast]; omega) (fun i => !decide (((i : Nat) : Int) ∈ KM.Keys ws)) (fun i d => d = .int (i : Nat)) fun i v H9 hi r9 hy => ?_).el fun es he => ?_))) (show 2 ≤ 100000 by decide)) fun v H9 r9 p => kL _ nb v H9 (r08.trans r9).ex p
        · subst hy
          exact ⟨_, bd_name, rfl, et_dnotin ((r8.trans r9).keep (fun z => z) hF7) (hw7.mono (r8.trans r9)) (ev_var rfl) (ed_var (K := K) rfl (.int _)), fun _ => ev_dd (ed_var rfl (.int _)) rfl⟩
        · rw [Int.toNat_natCast] at he
          rw [he.fun, lot_map]
      · -- lead on
        have hne : es ≠ [] := of_decide_eq_false he
        obtain ⟨v, es', rfl⟩ : ∃ v es', es = v :: es' := by
          cases es with
          | nil => exact absurd rfl hne
          | cons v es' => exact ⟨v, es', rfl⟩
        obtain ⟨hvk, hvp⟩ := hes v List.mem_cons_self
        have hF8 := r8.keep (fun z => z) hF7
        have hex8 := r8.keep (fun z => z) hex7
        have e0 : ∀ {σ H9}, R Non H8 H9 → σ[5]? = some (some (V.ref ep)) → ED K Non (tOp (rIx K) (tVar 5) (tC (.int 0))) σ H9 (.int v) := fun r9 hσ => ed_li (k := 0) (ev_var hσ) (fun _ z => z) (r9.keep (fun z => z) hex8) ed_i rfl
        refine q_asgCg (M := Non) (va_cons (ev_var (k := 4) rfl) stb_v (va_cons (e0 (R.refl _) rfl) stb_d va_nil)) fun vs H9 r9 hvs => ?_
        obtain ⟨_, _, rfl, rfl, _, _, rfl, hv9, rfl⟩ := hvs
        obtain rfl := it_int hv9
        refine ⟨Fa, kvs, ws, n, A.length, _, _, _, _, _, _, v, rfl, r9.keep (fun z => z) hF8, hw7.mono (r8.trans r9), ok, hvk, by omega, fun st rr tt l xs H10 pth htt hl e10 ht2 hl2 hsall => ?_⟩
        have r10 : R Non H9 H10 := R.of e10
        refine ⟨tt, _, rfl, .inl (.inl ht2), rfl, _, _, rfl, _, _, rfl, rfl, ?_⟩
        have r8x := r9.trans r10
        have r0x := (r07.trans r8).trans r8x
        obtain ⟨hrn, hrk⟩ := pth.begins ok
        obtain ⟨u, hun, hneg, rfl⟩ := lot_mem.mp hrn
        have hneg := of_decide_eq_true hneg
        have hvi := ok.inn v hvk
        obtain ⟨v', rfl⟩ := Int.eq_ofNat_of_zero_le hvi.1
        have hv'n : v' < n := by omega
        have hstp : Stp A.length st := fun k s hks => by
          obtain ⟨_, _, h1, h2⟩ := pth.step ok k s hks
          exact ⟨h1, by rcases h2 with ⟨h, _⟩ | ⟨h, _⟩; exact .inl h; exact .inr h⟩
        have hea10 := (r8.trans r8x).keep (fun z => z) hea7
        have hca10 := (r8.trans r8x).keep (fun z => z) hca7
        refine q_asgC (M := Non) (va_cons (ed_var (k := 1) rfl (h1.mono r0x)) stb_d (va_cons (ev_var (k := 2) rfl) stb_v (va_cons (ev_var (k := 6) rfl) stb_v (va_cons (P1 := fun v H => It K H v (.int (min (-(exA A c u)) (exA A c v')))) (ed_min (ed_U (g := fun i => -i) (ed_li (ev_var (k := 3) rfl) (fun _ z => z) hea10 (ed_var (k := 7) rfl (.int _)) (excL_get hun))) (ed_li (ev_var (k := 3) rfl) (fun _ z => z) hea10 (e0 r8x rfl) (excL_get hv'n))) stb_d va_nil)))) fun vs H11 r11 hvs => ?_
        obtain ⟨_, _, rfl, q1, _, _, rfl, rfl, _, _, rfl, rfl, _, _, rfl, qm, rfl⟩ := hvs
        obtain rfl := it_int qm
        refine ⟨_, ca, l, Bs, c, xs, st, _, rfl, q1, .inl (r11.keep (fun z => z) hca10), r11.keep (fun z => z) hl2, hsall.mono r11, by rw [lB]; exact hstp, by rw [lc, lB], fun rv H12 e12 hrv => ?_⟩
        obtain rfl := it_int hrv
        generalize hroom : roomL (xW Bs) (yW Bs) (fL c) st (min (-(exA A c u)) (exA A c v')) = room
        have rle := roomL_le (lo := xW Bs) (hi := yW Bs) (a := fL c) st (min (-(exA A c u)) (exA A c v'))
        have rpos := roomL_pos (lo := xW Bs) (hi := yW Bs) (a := fL c) st (min (-(exA A c u)) (exA A c v')) (by omega) (KM.room_pos ok pth)
        rw [hroom] at rle rpos
        have r12 : R Non H11 H12 := R.of e12
        have r10y := r11.trans r12
        refine q_asgC (M := Non) (va_cons (ev_var (k := 2) rfl) stb_v (va_cons (ev_var (k := 6) rfl) stb_v (va_cons (ev_var (k := 8) rfl) stb_v va_nil))) fun vs H13 r13 hvs => ?_
        obtain ⟨_, _, rfl, rfl, _, _, rfl, rfl, _, _, rfl, rfl, rfl⟩ := hvs
        have r10z := r10y.trans r13
        refine ⟨ca, l, c, xs, st, room, rfl, .inl (r10z.keep (fun z => z) hca10), r10z.keep (fun z => z) hl2, hsall.mono r10z, by rw [lc]; exact hstp, fun cb H14 hcb e14 hcb2 => ?_⟩
        have r14 : R Non H13 H14 := R.of e14
        have r014 := (r0x.trans r10z).trans r14
        have lc' : (ledL c st room).length = A.length := by rw [ledL_len, lc]
        have hfun := ledL_fun st c room fun k s h => by rw [lc]; exact (hstp k s h).1
        have ok' : KM.WaysOk n A.length (xW A) (yW A) (xW Bs) (yW Bs) (fL c) (fun v => KM.exc A.length (xW A) (yW A) (fL c) v < 0) ws := ⟨ok.nd, ok.inn, fun v hv => by
          obtain ⟨u, _, hu, rfl⟩ := lot_mem.mp (ok.st v hv)
          exact of_decide_eq_true hu, ok.back⟩
        have rl1 : room ≤ -(exA A c u) := by omega
        have rl2 : room ≤ exA A c v' := by omega
        have less := KM.led_less W.Ends ok' pth (r := room) rpos rl1 rl2
        have win' : KM.Within A.length (xW Bs) (yW Bs) (fL (ledL c st room)) := by
          rw [hfun]
          exact KM.led_within ok win pth (by omega) rle.2
        rw [← hfun] at less
        have nn1 : 0 ≤ KM.left n A.length (xW A) (yW A) (fL (ledL c st room)) := KM.left_nonneg
        refine s_asgC (M := Non) (va_cons (ed_var (k := 0) rfl (h0.mono r014)) stb_d (va_cons (ev_var (k := 2) rfl) stb_v va_nil)) fun vs H15 r15 hvs => ?_
        obtain ⟨_, _, rfl, q0, _, _, rfl, rfl, rfl⟩ := hvs
        refine ⟨_, cb, n, A, _, rfl, q0, W, r15.keep (fun z => z) hcb2, lc', fun eb H16 heb e16 hxe => ?_⟩
        have r16 : R Non H15 H16 := R.of e16
        exact ⟨_, by omega, _, _, _, _, _, cb, eb, ledL c st room, rfl, r014.trans (r15.trans r16), (r15.trans r16).keep (fun z => z) hcb2, hxe, lc', win', rfl⟩
    · -- a flow
      have hflow : KM.Flow n A.length (xW A) (yW A) (fL c) := fun v hv => by
        have := List.any_eq_false.mp hb _ (List.mem_of_getElem? (excL_get (A := A) (c := c) hv))
        simpa using this
      refine s_ret (M := Non) (P := fun v H => It K H v (.tuple [.tuple (c.map .int), .none])) (ed_tup (ea2 (ed_tupV (ev_var rfl) (fun _ z => z) (.inl (.inl (r3.keep (fun z => z) hca))) (ItAll.ofInts c)) ed_n) (show 2 ≤ 100000 by decide)) fun v H4 r4 p => kF c lc win hflow v H4 (rH.trans (r3.trans r4)).ex p
end
end KP

/-! part KP7 -/
set_option Elab.async false
set_option linter.all false
set_option maxRecDepth 100000
set_option maxHeartbeats 4000000
/-! most_led, least_and_greatest. -/
namespace KP
open PySem PySem.Spec PyProof.Rows L2
section
variable {K : PySem.W.Frag} {M : MM} {σ : L2.St} {H H' : Hp} {ta tb te tx tl td ty tv ts : TE} {t u : TT} {v x y z : V} {d e : PyData} {P P1 P2 P3 : V → Hp → Prop} {ds es : List PyData} {i j : Int} {D : Ends} {tz : TS} {gt : TG}
/-- t[:k] -/
theorem ed_upto {k : Nat} (h : ED K M te σ H (.tuple ds)) (hb : ED K M tb σ H (.int (k : Nat))) (hk : k ≤ ds.length) : ED K M (tSl (rSlA K) te tNoPart (tPart tb)) σ H (.tuple (ds.take k)) := fun H1 r Q kk => h H1 r _ fun v H2 r2 p => hb H2 (r.trans r2) _ fun w H3 r3 pw => by
  obtain ⟨a, xs, rfl, hs, hall⟩ := it_tup (p.mono r3)
  have hl := hall.len
  have r4 := r2.trans r3
  refine ⟨k, it_int pw, a, xs, rfl, hs, fun hw => ?_, fun hw l hl2 => ?_⟩
  · rw [HT.sIx_nat] at hw
    have : ds.take k = ds := List.take_of_length_le (by omega)
    refine kk _ H3 r4 ?_
    rw [this]
    exact .tup hs hall
  · refine kk _ _ (r4.new hl2) (.tup (.inl (.inl upd_same)) ?_)
    have e : cutV xs none (some (k : Int)) = xs.take k := by
      unfold cutV
      rw [HT.sIx_nat, HT.sIx_none, Nat.sub_zero, List.drop_zero]
      rw [show min k xs.length = k by omega]
    rw [e]
    exact (hall.take k).new hl2
/-- t[k:] -/
theorem ed_from {k : Nat} (h : ED K M te σ H (.tuple ds)) (hb : ED K M tb σ H (.int (k : Nat))) (hk : k ≤ ds.length) : ED K M (tSl (rSlA K) te (tPart tb) tNoPart) σ H (.tuple (ds.drop k)) := fun H1 r Q kk => h H1 r _ fun v H2 r2 p => hb H2 (r.trans r2) _ fun w H3 r3 pw => by
  obtain ⟨a, xs, rfl, hs, hall⟩ := it_tup (p.mono r3)
  have hl := hall.len
  have r4 := r2.trans r3
  refine ⟨k, it_int pw, a, xs, rfl, hs, fun hw => ?_, fun hw l hl2 => ?_⟩
  · rw [HT.sIx_nat] at hw
    have : k = 0 := by omega
    subst this
    refine kk _ H3 r4 ?_
    rw [List.drop_zero]
    exact .tup hs hall
  · refine kk _ _ (r4.new hl2) (.tup (.inl (.inl upd_same)) ?_)
    have e : cutV xs (some (k : Int)) none = xs.drop k := by
      unfold cutV
      rw [HT.sIx_nat, HT.sIx_none, show min k xs.length = k by omega]
      exact List.take_of_length_le (by rw [List.length_drop]; omega)
    rw [e]
    exact (hall.drop k).new hl2
/-- t[::c] of a pair -/
theorem ed_step {d1 d2 : PyData} {c : Int} (h : ED K M te σ H (.tuple [d1, d2])) (hb : ED K M ts σ H (.int c)) (hc : c = 1 ∨ c = -1) : ED K M (tStep K te ts) σ H (.tuple (if c = 1 then [d1, d2] else [d2, d1])) := fun H1 r Q kk => h H1 r _ fun v H2 r2 p => hb H2 (r.trans r2) _ fun w H3 r3 pw => by
  obtain ⟨a, xs, rfl, hs, hall⟩ := it_tup (p.mono r3)
  obtain ⟨x1, x2, rfl, h1, h2⟩ := ia2 hall
  refine ⟨c, it_int pw, c, rfl, a, x1, x2, rfl, hs, ?_⟩
  rcases hc with rfl | rfl
  · exact .inl ⟨rfl, kk _ H3 (r2.trans r3) (.tup hs (.cons h1 (.cons h2 .nil)))⟩
  · exact .inr ⟨rfl, fun l hl => kk _ _ ((r2.trans r3).new hl) (.tup (.inl (.inl upd_same)) (.cons (h2.new hl) (.cons (h1.new hl) .nil)))⟩
end
theorem set_cat {α : Type} {A : List α} {k : Nat} {v : α} (h : k < A.length) : A.take k ++ [v] ++ A.drop (k + 1) = A.set k v := by
  rw [List.set_eq_take_append_cons_drop, if_pos h, List.append_assoc]
  rfl
theorem fix_x {B : List (Int × Int)} {c : List Int} {k : Nat} (h : k < B.length) : xW (B.set k (fL c k, fL c k)) = KM.fixB (xW B) (fL c) k := by
  funext j
  unfold xW KM.fixB
  show _ = if j = k then fL c k else (B.getD j (0, 0)).1
  rw [List.getD_eq_getElem?_getD, List.getD_eq_getElem?_getD, List.getElem?_set]
  by_cases e : k = j
  · subst e
    rw [if_pos rfl, if_pos h, if_pos rfl]
    rfl
  · rw [if_neg e, if_neg fun z => e z.symm]
theorem fix_y {B : List (Int × Int)} {c : List Int} {k : Nat} (h : k < B.length) : yW (B.set k (fL c k, fL c k)) = KM.fixB (yW B) (fL c) k := by
  funext j
  unfold yW KM.fixB
  show _ = if j = k then fL c k else (B.getD j (0, 0)).2
  rw [List.getD_eq_getElem?_getD, List.getD_eq_getElem?_getD, List.getElem?_set]
  by_cases e : k = j
  · subst e
    rw [if_pos rfl, if_pos h, if_pos rfl]
    rfl
  · rw [if_neg e, if_neg fun z => e z.symm]
/-- the greatest (s = 1), the least (s = -1): a lot or the arrow's own bound tells it, a flow has it -/
structure GoodV (n : Nat) (A Bs : List (Int × Int)) (k : Nat) (s val : Int) : Prop where
  hi : s = 1 → ∃ T, KM.IsHi A.length (xW A) (yW A) (xW Bs) (yW Bs) k T val
  lo : s = -1 → ∃ T, KM.IsLo A.length (xW A) (yW A) (xW Bs) (yW Bs) k T val
  ex : ∃ g, KM.Within A.length (xW Bs) (yW Bs) g ∧ KM.Flow n A.length (xW A) (yW A) g ∧ g k = val
section
variable {P : Program} {w : World} {K : PySem.W.Frag} {mg : Str → Option Value} {base : Heap}
-- most_led: slots web=0 bounds=1 flow=2 arrow=3 sign=4 start=5 end=6 here=7 goal=8 amounts=9 led=10 ways=11 steps=12 room=13
abbrev s_most_led : Stmt := topS 28
abbrev N_most_led : List Str := ["web", "bounds", "flow", "arrow", "sign", "start", "end", "here", "goal", "amounts", "led", "ways", "steps", "room"]
theorem sc_most_led : FnScope N_most_led ["web", "bounds", "flow", "arrow", "sign"] (defScope s_most_led) := ⟨rfl, rfl, rfl, by decide +kernel, rfl, by decide +kernel, by decide +kernel⟩
def sp_most_led (K : PySem.W.Frag) : Sp := fun vs H Q _ => ∃ (v0 v1 v2 : V) (n : Nat) (A Bs : List (Int × Int)) (f : List Int) (k : Nat) (s : Int), vs = [v0, v1, v2, .int (k : Nat), .int s] ∧ It K H v0 (wD n A) ∧ It K H v1 (bD Bs) ∧ It K H v2 (.tuple (f.map .int)) ∧ WebOk n A ∧ BdsOk A Bs ∧ f.length = A.length ∧
  KM.Within A.length (xW Bs) (yW Bs) (fL f) ∧ KM.Flow n A.length (xW A) (yW A) (fL f) ∧ k < A.length ∧ (s = 1 ∨ s = -1) ∧ ∀ val, GoodV n A Bs k s val → RetD K (.int val) H Q
theorem cl_most_led (c_ways_with_room : Cl P w K mg base 2 "ways_with_room" (sp_ways K)) (c_way_to : Cl P w K mg base 1 "way_to" (sp_way_to K)) (c_room_of : Cl P w K mg base 1 "room_of" (sp_room_of K)) (c_led_along : Cl P w K mg base 1 "led_along" (sp_led_along K))
    (B : GB mg) (DF : Df K mg "most_led" s_most_led) : Cl P w K mg base 3 "most_led" (sp_most_led K) := by
  obtain ⟨f, fd, F, g⟩ := DF.ex
  refine ⟨f, fd, ["web", "bounds", "flow", "arrow", "sign"], F.ok sc_most_led (fun vs H Q E h => ?_) (fun cdv A outer s H vs Q E hr h => ?_), g, F.kp, F.binds fun _ _ _ _ _ _ us hl => match us, hl with | [_, _, _, _, _], _ => rfl⟩
  · obtain ⟨v0, v1, v2, n, A, Bs, fw, kk, s, rfl, _⟩ := h
    rfl
  · obtain ⟨v0, v1, v2, n, A, Bs, fw, kk, s, rfl, h0, h1, h2, W, BO, lf, win, flo, hk, hs, kR⟩ := h
    have nd := sc_most_led.nd
    refine ⟨_, (pss_cons (ps_asg (pe_step_K (K := K) (pe_step_K (K := K) (pe_ix (ix_K (K := K)) (pe_ix (ix_K (K := K)) (pv 0) pe_int (fun _ _ => rfl)) (pv 3) (fun _ _ => rfl)) (pv 4)) (pe_un un_neg pe_int)) (pg_tup_K (K := K) (n := 2) rfl (pgs_cons (pg_name (i := 5) nd rfl (.inl rfl)) (pgs_cons (pg_name (i := 6) nd rfl (.inl rfl)) pgs_nil))))
      (pss_cons (ps_set (i := 7) nd rfl (.inl rfl) (pe_op (op_cat_K (K := K)) (pe_op (op_cat_K (K := K)) (pe_slice (sl_tup_K (K := K)) (pv 1) po_none (po_some (pv 3))) (pe_tup (pa_cons (pe_tup (pa_cons (pe_ix (ix_K (K := K)) (pv 2) (pv 3) (fun _ _ => rfl)) (pa_cons (pe_ix (ix_K (K := K)) (pv 2) (pv 3) (fun _ _ => rfl)) pa_nil))) pa_nil))) (pe_slice (sl_tup_K (K := K)) (pv 1) (po_some (pe_op op_add (pv 3) pe_int)) po_none)))
      (pss_cons (ps_set (i := 8) nd rfl (.inl rfl) (pe_ifExp (pt_cmpR (op_eq_K (K := K) hr.units) (pv 4) pe_int (nomark _)) (pe_op op_sub (pe_ix (ix_K (K := K)) (pe_ix (ix_K (K := K)) (pv 1) (pv 3) (fun _ _ => rfl)) pe_int (fun _ _ => rfl)) (pe_ix (ix_K (K := K)) (pv 2) (pv 3) (fun _ _ => rfl))) (pe_op op_sub (pe_ix (ix_K (K := K)) (pv 2) (pv 3) (fun _ _ => rfl)) (pe_ix (ix_K (K := K)) (pe_ix (ix_K (K := K)) (pv 1) (pv 3) (fun _ _ => rfl)) pe_int (fun _ _ => rfl)))))
      (pss_cons (ps_if (pt_cmpR (op_eq_K (K := K) hr.units) (pv 5) (pv 6) (nomark _)) (pss_one (ps_ret (pe_op op_add (pe_ix (ix_K (K := K)) (pv 2) (pv 3) (fun _ _ => rfl)) (pe_op op_mul (pv 4) (pv 8))))) pss_nil)
      (pss_cons (ps_par (i := 9) (j := 10) rfl nd rfl rfl (by decide) rfl rfl (pa_cons (pv 2) (pa_cons pe_int pa_nil)) (by rfl))
      (pss_cons (ps_while PassesOwn.never (pt_cmpR op_lt (pv 10) (pv 8) (nomark _))
        (pss_cons (ps_set (i := 11) nd rfl (.inl rfl) (pe_k c_ways_with_room hr (by decide) (by rfl) (pa_cons (pv 0) (pa_cons (pv 7) (pa_cons (pv 9) (pa_cons (pe_lst (pa_cons (pv 5) pa_nil)) pa_nil))))))
        (pss_cons (ps_if (pt_cmp (pc_dnotin (hu_of hr) (pv 6) (pv 11))) (pss_one ps_break) pss_nil)
        (pss_cons (ps_set (i := 12) nd rfl (.inl rfl) (pe_ix (ix_K (K := K)) (pe_k c_way_to hr (by decide) (by rfl) (pa_cons (pv 11) (pa_cons (pv 6) pa_nil))) pe_int (fun _ _ => rfl)))
        (pss_cons (ps_set (i := 13) nd rfl (.inl rfl) (pe_k c_room_of hr (by decide) (by rfl) (pa_cons (pv 7) (pa_cons (pv 9) (pa_cons (pv 12) (pa_cons (pe_op op_sub (pv 8) (pv 10)) pa_nil))))))
        (pss_cons (ps_set (i := 9) nd rfl (.inl rfl) (pe_k c_led_along hr (by decide) (by rfl) (pa_cons (pv 9) (pa_cons (pv 12) (pa_cons (pv 13) pa_nil)))))
        (pss_one (ps_aug (i := 10) nd rfl (.inl rfl) (pv 13) ip_add))))))))
      (pss_one (ps_ret (pe_op op_add (pe_ix (ix_K (K := K)) (pv 2) (pv 3) (fun _ _ => rfl)) (pe_op op_mul (pv 4) (pv 10))))))))))), ?_⟩
    have hn1 := W.n1
    have hm1 := W.m1
    have lB := BO.len
    have hAk : A[kk]? = some A[kk] := List.getElem?_eq_getElem hk
    have hBk : Bs[kk]? = some (Bs[kk]'(by omega)) := List.getElem?_eq_getElem (by omega)
    have hfk : fw[kk]? = some (fw[kk]'(by omega)) := List.getElem?_eq_getElem (by omega)
    have xk := xW_at hAk
    have yk := yW_at hAk
    have bx := xW_at hBk
    have by' := yW_at hBk
    have fk := fL_at hfk
    obtain ⟨⟨ex1, ex2⟩, ey1, ey2⟩ := W.Ends kk hk
    have wk := win kk hk
    -- start, end
    have hst : ED K Non _ _ H (.tuple [.int (if s = 1 then yW A kk else xW A kk), .int (if s = 1 then xW A kk else yW A kk)]) := ed_is (ed_step (c := -1) (ts := tUn (rU fun i => V.int (-i)) (tC (V.int 1))) (ed_is (ed_step (K := K) (M := Non) (σ := start N_most_led [v0, v1, v2, .int (kk : Nat), .int s]) (c := s) (te := tOp (rIx K) (tOp (rIx K) (tVar 0) (tC (V.int 1))) (tVar 3)) (ts := tVar 4)
      (ed_ix (ed_ix (ed_var rfl h0) ed_i rfl) (ed_var rfl (.int (kk : Nat))) (atI_nat (map_get hAk))) (ed_var rfl (.int _)) hs) (e := .tuple [.int (if s = 1 then xW A kk else yW A kk), .int (if s = 1 then yW A kk else xW A kk)]) (by
        rw [xk, yk]
        rcases hs with rfl | rfl <;> rfl)) (ed_U (g := fun i => -i) ed_i) (.inr rfl)) rfl
    refine q_asgT hst fun v H1 r1 hv => ?_
    obtain ⟨w1, w2, g1, g2, bd⟩ := un2 (i := 5) (j := 6) (σ := start N_most_led [v0, v1, v2, .int (kk : Nat), .int s]) hv
    obtain rfl := it_int g1
    obtain rfl := it_int g2
    refine bd _ ?_
    generalize hu : (if s = 1 then yW A kk else xW A kk) = u
    generalize hv' : (if s = 1 then xW A kk else yW A kk) = v
    have hun : 0 ≤ u ∧ u < n := by rw [← hu]; split <;> constructor <;> assumption
    have hvn : 0 ≤ v ∧ v < n := by rw [← hv']; split <;> constructor <;> assumption
    have eF : ∀ {H' σ}, R Non H H' → σ[2]? = some (some v2) → σ[3]? = some (some (V.int (kk : Nat))) → ED K Non (tOp (rIx K) (tVar 2) (tVar 3)) σ H' (.int (fL fw kk)) := fun r e2 e3 => by
      rw [fk]
      exact ed_ix (ed_var e2 (h2.mono r)) (ed_var e3 (.int (kk : Nat))) (atI_nat (map_get hfk))
    have eB : ∀ {H' σ} (c i : Int), R Non H H' → σ[1]? = some (some v1) → σ[3]? = some (some (V.int (kk : Nat))) → L2.atI [PyData.int (xW Bs kk), PyData.int (yW Bs kk)] c = some (.int i) → ED K Non (tOp (rIx K) (tOp (rIx K) (tVar 1) (tVar 3)) (tC (.int c))) σ H' (.int i) := fun c i r e1 e3 h => by
      rw [bx, by'] at h
      exact ed_ix (ed_ix (ed_var e1 (h1.mono r)) (ed_var e3 (.int (kk : Nat))) (atI_nat (map_get hBk))) ed_i h
    -- here
    refine q_asg (M := Non) (P := fun v H => It K H v (bD (Bs.set kk (fL fw kk, fL fw kk)))) (ed_is (ed_cat (ed_cat (ed_upto (k := kk) (ed_var (k := 1) rfl (h1.mono r1)) (ed_var (k := 3) rfl (.int _)) (by rw [List.length_map]; omega)) (ed_tup (ea1 (ed_tup (ea2 (eF r1 rfl rfl) (eF r1 rfl rfl)) (show 2 ≤ 100000 by decide))) (show 1 ≤ 100000 by decide)) (by rw [List.length_take, List.length_map]; show _ + 1 ≤ _; omega))
      (ed_from (k := kk + 1) (ed_var (k := 1) rfl (h1.mono r1)) (ed_is (ed_I0 (g := fun i j => i + j) (ed_var (k := 3) rfl (.int _)) ed_i) (congrArg PyData.int (by omega))) (by rw [List.length_map]; omega)) (by rw [List.length_append, List.length_take, List.length_drop, List.length_map]; show _ + 1 + _ ≤ _; omega)) ?_) fun hv H2 r2 hh => ?_
    · unfold bD
      rw [← set_cat (by omega), List.map_append, List.map_append, List.map_take, List.map_drop]
      rfl
    have r02 := r1.trans r2
    -- goal
    refine q_asg (M := Non) (P := fun v H => It K H v (.int (if s = 1 then yW Bs kk - fL fw kk else fL fw kk - xW Bs kk))) (ev_if (b := decide (s = 1)) (et_test (ed_eqI (ed_var (k := 4) rfl (.int _)) ed_i)) (fun hb => ?_) fun hb => ?_) fun gv H3 r3 hg => ?_
    · rw [if_pos (of_decide_eq_true hb)]
      exact ed_I0 (g := fun i j => i - j) (eB 1 _ r02 rfl rfl rfl) (eF r02 rfl rfl)
    · rw [if_neg (of_decide_eq_false hb)]
      exact ed_I0 (g := fun i j => i - j) (eF r02 rfl rfl) (eB 0 _ r02 rfl rfl rfl)
    obtain rfl := it_int hg
    have r03 := r02.trans r3
    generalize hgo : (if s = 1 then yW Bs kk - fL fw kk else fL fw kk - xW Bs kk) = go
    have go0 : 0 ≤ go := by rw [← hgo]; split <;> omega
    have eS : ∀ {H' σ} (d : Int) (kd : Nat), R Non H H' → σ[2]? = some (some v2) → σ[3]? = some (some (V.int (kk : Nat))) → σ[4]? = some (some (V.int s)) → σ[kd]? = some (some (V.int d)) → ED K Non (tOp (rI0 fun i j => V.int (i + j)) (tOp (rIx K) (tVar 2) (tVar 3)) (tOp (rI CMul fun i j => V.int (i * j)) (tVar 4) (tVar kd))) σ H' (.int (fL fw kk + s * d)) := fun d kd r e2 e3 e4 ed =>
      ed_I0 (g := fun i j => i + j) (eF r e2 e3) (ed_mul1 (ed_var e4 (.int _)) (ed_var ed (.int _)) hs)
    -- the goal itself is good
    have atGo : ∀ c, (∃ g, KM.Within A.length (xW Bs) (yW Bs) g ∧ KM.Flow n A.length (xW A) (yW A) g ∧ g kk = fL fw kk + s * c) → c = go → GoodV n A Bs kk s (fL fw kk + s * c) := fun c hex hc => by
      subst hc
      refine ⟨fun e => ⟨fun _ => true, .inl ?_⟩, fun e => ⟨fun _ => true, .inl ?_⟩, hex⟩
      · subst e
        rw [← hgo, if_pos rfl]; omega
      · subst e
        rw [← hgo, if_neg (by decide)]; omega
    refine q_when (M := Non) (b := decide (u = v)) (et_test (ed_eqI (ed_var (k := 5) rfl (.int _)) (ed_var (k := 6) rfl (.int _)))) (fun hb H4 r4 => ?_) fun hb H4 r4 => ?_
    · -- a loop arrow
      have hb := of_decide_eq_true hb
      refine s_ret (M := Non) (P := fun v H => It K H v (.int (fL fw kk + s * go))) (eS go 8 (r03.trans r4) rfl rfl rfl rfl) fun v5 H5 r5 p5 => kR _ (atGo go ?_ rfl) v5 H5 ((r03.trans r4).trans r5).ex p5
      have exy : xW A kk = yW A kk := by
        rw [← hu, ← hv'] at hb
        rcases hs with rfl | rfl
        · rw [if_pos rfl, if_pos rfl] at hb; exact hb.symm
        · rw [if_neg (by decide), if_neg (by decide)] at hb; exact hb
      refine ⟨KM.upd1 (fL fw) kk (s * go), fun j hj => ?_, fun w hw => ?_, by unfold KM.upd1; rw [if_pos rfl]⟩
      · unfold KM.upd1
        by_cases c : j = kk
        · subst c
          rw [if_pos rfl]
          rcases hs with rfl | rfl
          · rw [if_pos rfl] at hgo; omega
          · rw [if_neg (by decide)] at hgo; omega
        · rw [if_neg c]; exact win j hj
      · rw [KM.exc_upd (fL fw) hk, flo w hw, exy]
        split <;> omega
    have hne := of_decide_eq_false hb
    have r04 := r03.trans r4
    -- amounts, led
    refine q_par (K := K) (M := Non) (d := .tuple (fw.map .int)) (e := .int 0) (ea2 (ed_var (k := 2) rfl (h2.mono r04)) ed_i) fun av lv H5 r5 ha hl => ?_
    obtain rfl := it_int hl
    obtain ⟨aa, axs, rfl, hat, haall⟩ := it_tup ha
    obtain rfl := haall.ints
    have r05 := r04.trans r5
    have hh5 := hh.mono ((r3.trans r4).trans r5)
    have lBh : (Bs.set kk (fL fw kk, fL fw kk)).length = A.length := by rw [List.length_set]; exact lB
    have ffx := fix_x (c := fw) (k := kk) (B := Bs) (by omega)
    have ffy := fix_y (c := fw) (k := kk) (B := Bs) (by omega)
    have start0 : KM.Round n A.length (xW A) (yW A) (xW Bs) (yW Bs) (fL fw) kk u v (fL fw) 0 := KM.round_start win flo kk u v
    -- a round is a flow
    have good : ∀ (c : List Int) (d : Int), KM.Round n A.length (xW A) (yW A) (xW Bs) (yW Bs) (fL fw) kk u v (fL c) d → 0 ≤ d → d ≤ go → ∃ g, KM.Within A.length (xW Bs) (yW Bs) g ∧ KM.Flow n A.length (xW A) (yW A) g ∧ g kk = fL fw kk + s * d := fun c d R d0 d1 => by
      rcases hs with rfl | rfl
      · rw [if_pos rfl] at hu hv' hgo
        subst hu hv'
        obtain ⟨g1, g2⟩ := KM.round_flow1 hk R (by omega) (by omega)
        refine ⟨_, g1, g2, ?_⟩
        unfold KM.upd1
        rw [if_pos rfl, R.at_]
        omega
      · rw [if_neg (by decide)] at hu hv' hgo
        subst hu hv'
        obtain ⟨g1, g2⟩ := KM.round_flow2 hk R (by omega) (by omega)
        refine ⟨_, g1, g2, ?_⟩
        unfold KM.upd1
        rw [if_pos rfl, R.at_]
        omega
    have fin : ∀ {H' : Hp} {o9 o11 o12 o13 : Option V} (d : Int), R Non H H' → GoodV n A Bs kk s (fL fw kk + s * d) → tRet (tOp (rI0 fun i j => V.int (i + j)) (tOp (rIx K) (tVar 2) (tVar 3)) (tOp (rI CMul fun i j => V.int (i * j)) (tVar 4) (tVar 10))) { nx := fun _ H' => Q .non H', rt := Q } [some v0, some v1, some v2, some (V.int (kk : Nat)), some (V.int s), some (V.int u), some (V.int v), some hv, some (V.int go), o9, some (V.int d), o11, o12, o13] H' := fun d r g =>
      s_ret (M := Non) (P := fun v H => It K H v (.int (fL fw kk + s * d))) (eS d 10 r rfl rfl rfl rfl) fun v5 H5 r5 p5 => kR _ g v5 H5 (r.trans r5).ex p5
    refine q_while (M := Non) (fun mm σ' H' => ∃ (o11 o12 o13 : Option V) (ca : Addr) (c : List Int) (d : Int), σ' = [some v0, some v1, some v2, some (V.int (kk : Nat)), some (V.int s), some (V.int u), some (V.int v), some hv, some (V.int go), some (.ref ca), some (V.int d), o11, o12, o13] ∧ R Non H5 H' ∧ Am K H' ca c ∧ c.length = A.length ∧
      KM.Round n A.length (xW A) (yW A) (xW Bs) (yW Bs) (fL fw) kk u v (fL c) d ∧ 0 ≤ d ∧ d ≤ go ∧ mm = (go - d).toNat)
      _ ⟨_, _, _, aa, fw, 0, rfl, R.refl _, .inr hat, lf, start0, Int.le_refl _, go0, rfl⟩ fun mm σ' H' hW => ?_
    obtain ⟨o11, o12, o13, ca, c, d, rfl, r6, hca, lc, RD, d0, d1, rfl⟩ := hW
    have r06 := r05.trans r6
    refine ⟨decide (d < go), et_test (ed_B0 (g := fun i j => decide (i < j)) (ed_var (K := K) (k := 10) rfl (.int _)) (ed_var (k := 8) rfl (.int _))), fun hb H7 r7 => ?_, fun hb H7 r7 => ?_⟩
    · have hlt := of_decide_eq_true hb
      refine ⟨fun σ2 H2 => ∃ m', m' < _ ∧ ∃ (o11 o12 o13 : Option V) (ca : Addr) (c : List Int) (d : Int), σ2 = [some v0, some v1, some v2, some (V.int (kk : Nat)), some (V.int s), some (V.int u), some (V.int v), some hv, some (V.int go), some (.ref ca), some (V.int d), o11, o12, o13] ∧ R Non H5 H2 ∧ Am K H2 ca c ∧ c.length = A.length ∧
        KM.Round n A.length (xW A) (yW A) (xW Bs) (yW Bs) (fL fw) kk u v (fL c) d ∧ 0 ≤ d ∧ d ≤ go ∧ m' = (go - d).toNat, fun σ2 H2 z => z, ?_⟩
      have r57 := r6.trans r7
      have r07 := r06.trans r7
      have hca7 := hca.mono r7 (fun _ z => z)
      refine q_asgC (M := Non) (va_cons (ed_var (k := 0) rfl (h0.mono r07)) stb_d (va_cons (ed_var (k := 7) rfl (hh5.mono r57)) stb_d (va_cons (ev_var (k := 9) rfl) stb_v (va_cons (ev_el (el_lst (K := K) (ea1 (ed_var (k := 5) rfl (.int u))) (show 1 ≤ 100000 by decide))) stb_ls va_nil)))) fun vs H8 r8 hvs => ?_
      obtain ⟨_, _, rfl, q0, _, _, rfl, q1, _, _, rfl, rfl, _, _, rfl, ⟨sa, xss, rfl, hsa, hals⟩, rfl⟩ := hvs
      obtain rfl := ItAll.ints (ns := [u]) hals
      refine ⟨_, _, ca, sa, n, A, _, c, [u], rfl, q0, q1, hca7.mono r8 (fun _ z => z), hsa, W, lBh, lc, by simp, fun w hw => by rw [List.mem_singleton.mp hw]; exact hun, fun Fa kvs ws H9 hFn e9 hF hw ok cl key => ?_⟩
      rw [ffx, ffy] at ok cl
      have ok' : KM.WaysOk n A.length (xW A) (yW A) (KM.fixB (xW Bs) (fL fw) kk) (KM.fixB (yW Bs) (fL fw) kk) (fL c) (fun w => w = u) ws := ⟨ok.nd, ok.inn, fun v hv => List.mem_singleton.mp (ok.st v hv), ok.back⟩
      have r9 : R Non H8 H9 := R.of e9
      have r79 := r8.trans r9
      have r09 := r07.trans r79
      have ku : u ∈ KM.Keys ws := key u (List.mem_singleton.mpr rfl)
      refine q_when (M := Non) (b := !decide (v ∈ KM.Keys ws)) (et_dnotin hF hw (ev_var (k := 11) rfl) (ed_var (K := K) (k := 6) rfl (.int _))) (fun hb H10 r10 => ?_) fun hb H10 r10 => ?_
      · -- no way leads on
        have kv : v ∉ KM.Keys ws := fun z => by rw [decide_eq_true z] at hb; cases hb
        refine fin d (r09.trans r10) ⟨fun e => ⟨KM.Out ws, ?_⟩, fun e => ⟨KM.Out ws, ?_⟩, good c d RD d0 d1⟩
        · subst e
          rw [if_pos rfl] at hu hv' hgo
          subst hu hv'
          rw [Int.one_mul]
          exact KM.round_hi W.Ends hk RD (by omega) (by omega) cl ku kv
        · subst e
          rw [if_neg (by decide)] at hu hv' hgo
          subst hu hv'
          have := KM.round_lo W.Ends hk RD (by omega) (by omega) cl ku kv
          rw [show fL fw kk + -1 * d = fL fw kk - d by omega]
          exact this
      · -- lead on
        have kv : v ∈ KM.Keys ws := Classical.byContradiction fun z => by rw [decide_eq_false z] at hb; cases hb
        have hF10 := r10.keep (fun z => z) hF
        refine q_asgRaw ?_
        show tCall (sp_way_to K) [] E0 _ _ H10 _
        refine (va_cons (M := Non) (ev_var (k := 11) (v := .ref Fa) rfl) stb_v (va_cons (ev_var (k := 6) (v := .int v) rfl) stb_v va_nil)) H10 (R.refl _) _ fun vs H11 r11 hvs => ?_
        obtain ⟨_, _, rfl, rfl, _, _, rfl, rfl, rfl⟩ := hvs
        refine ⟨Fa, kvs, ws, n, A.length, _, _, _, _, _, _, v, rfl, r11.keep (fun z => z) hF10, hw.mono (r10.trans r11), ok', kv, by omega, fun st rr tt l xs H12 pth htt hl e12 ht2 hl2 hsall => ?_⟩
        refine .inr (.inl ⟨tt, _, 0, .ref l, rfl, rfl, .inl (.inl ht2), rfl, ?_⟩)
        have r12 : R Non H11 H12 := R.of e12
        have r912 := r10.trans (r11.trans r12)
        have r712 := r79.trans r912
        have hstp : Stp A.length st := fun k s hks => by
          obtain ⟨_, _, h1, h2⟩ := pth.step ok' k s hks
          exact ⟨h1, by rcases h2 with ⟨h, _⟩ | ⟨h, _⟩; exact .inl h; exact .inr h⟩
        refine q_asgC (M := Non) (va_cons (ed_var (k := 7) rfl (hh5.mono (r57.trans r712))) stb_d (va_cons (ev_var (k := 9) rfl) stb_v (va_cons (ev_var (k := 12) rfl) stb_v (va_cons (P1 := fun v H => It K H v (.int (go - d))) (ed_I0 (g := fun i j => i - j) (ed_var (k := 8) rfl (.int _)) (ed_var (k := 10) rfl (.int _))) stb_d va_nil)))) fun vs H13 r13 hvs => ?_
        obtain ⟨_, _, rfl, q1, _, _, rfl, rfl, _, _, rfl, rfl, _, _, rfl, qm, rfl⟩ := hvs
        obtain rfl := it_int qm
        refine ⟨_, ca, l, _, c, xs, st, _, rfl, q1, hca7.mono (r712.trans r13) (fun _ z => z), r13.keep (fun z => z) hl2, hsall.mono r13, by rw [lBh]; exact hstp, by rw [lc, lBh], fun rv H14 e14 hrv => ?_⟩
        obtain rfl := it_int hrv
        rw [ffx, ffy]
        generalize hroom : roomL (KM.fixB (xW Bs) (fL fw) kk) (KM.fixB (yW Bs) (fL fw) kk) (fL c) st (go - d) = room
        have rle := roomL_le (lo := KM.fixB (xW Bs) (fL fw) kk) (hi := KM.fixB (yW Bs) (fL fw) kk) (a := fL c) st (go - d)
        have rpos := roomL_pos (lo := KM.fixB (xW Bs) (fL fw) kk) (hi := KM.fixB (yW Bs) (fL fw) kk) (a := fL c) st (go - d) (by omega) (KM.room_pos ok' pth)
        rw [hroom] at rle rpos
        have r14 : R Non H13 H14 := R.of e14
        have r714 := r712.trans (r13.trans r14)
        refine q_asgC (M := Non) (va_cons (ev_var (k := 9) rfl) stb_v (va_cons (ev_var (k := 12) rfl) stb_v (va_cons (ev_var (k := 13) rfl) stb_v va_nil))) fun vs H15 r15 hvs => ?_
        obtain ⟨_, _, rfl, rfl, _, _, rfl, rfl, _, _, rfl, rfl, rfl⟩ := hvs
        have r12z := (r13.trans r14).trans r15
        refine ⟨ca, l, c, xs, st, room, rfl, hca7.mono (r714.trans r15) (fun _ z => z), r12z.keep (fun z => z) hl2, hsall.mono r12z, by rw [lc]; exact hstp, fun cb H16 hcb e16 hcb2 => ?_⟩
        have r16 : R Non H15 H16 := R.of e16
        have lc' : (ledL c st room).length = A.length := by rw [ledL_len, lc]
        have hfun := ledL_fun st c room fun k s h => by rw [lc]; exact (hstp k s h).1
        have RD' := KM.round_led hk RD ok' pth (r := room) (by omega) rle.2
        rw [← hfun] at RD'
        refine s_aug (K := K) (M := Non) rfl (ed_var (k := 13) rfl (.int room)) fun H17 r17 => ?_
        exact ⟨_, by omega, _, _, _, cb, ledL c st room, d + room, rfl, r57.trans ((r714.trans r15).trans (r16.trans r17)), .inl (r17.keep (fun z => z) hcb2), lc', RD', by omega, by omega, rfl⟩
    · -- all is led
      have hge := of_decide_eq_false hb
      have e : d = go := by omega
      exact fin d (r06.trans r7) (atGo d (good c d RD d0 d1) e)

-- least_and_greatest: slots web=0 bounds=1 flow=2 arrow=3
abbrev s_least_and_greatest : Stmt := topS 29
abbrev N_least_and_greatest : List Str := ["web", "bounds", "flow", "arrow"]
theorem sc_least_and_greatest : FnScope N_least_and_greatest ["web", "bounds", "flow", "arrow"] (defScope s_least_and_greatest) := ⟨rfl, rfl, rfl, by decide +kernel, rfl, by decide +kernel, by decide +kernel⟩
def sp_lag (K : PySem.W.Frag) : Sp := fun vs H Q _ => ∃ (v0 v1 v2 : V) (n : Nat) (A Bs : List (Int × Int)) (f : List Int) (k : Nat), vs = [v0, v1, v2, .int (k : Nat)] ∧ It K H v0 (wD n A) ∧ It K H v1 (bD Bs) ∧ It K H v2 (.tuple (f.map .int)) ∧ WebOk n A ∧ BdsOk A Bs ∧ f.length = A.length ∧
  KM.Within A.length (xW Bs) (yW Bs) (fL f) ∧ KM.Flow n A.length (xW A) (yW A) (fL f) ∧ k < A.length ∧ ∀ lo hi, GoodV n A Bs k (-1) lo → GoodV n A Bs k 1 hi → RetD K (.tuple [.int lo, .int hi]) H Q
theorem cl_least_and_greatest (c_most_led : Cl P w K mg base 3 "most_led" (sp_most_led K)) (B : GB mg) (DF : Df K mg "least_and_greatest" s_least_and_greatest) : Cl P w K mg base 4 "least_and_greatest" (sp_lag K) := by
  obtain ⟨f, fd, F, g⟩ := DF.ex
  refine ⟨f, fd, ["web", "bounds", "flow", "arrow"], F.ok sc_least_and_greatest (fun vs H Q E h => ?_) (fun cdv A outer s H vs Q E hr h => ?_), g, F.kp, F.binds fun _ _ _ _ _ _ us hl => match us, hl with | [_, _, _, _], _ => rfl⟩
  · obtain ⟨v0, v1, v2, n, A, Bs, fw, kk, rfl, _⟩ := h
    rfl
  · obtain ⟨v0, v1, v2, n, A, Bs, fw, kk, rfl, h0, h1, h2, W, BO, lf, win, flo, hk, kR⟩ := h
    have nd := sc_least_and_greatest.nd
    refine ⟨_, (pss_one (ps_ret (pe_tup (pa_cons (pe_k c_most_led hr (by decide) (by rfl) (pa_cons (pv 0) (pa_cons (pv 1) (pa_cons (pv 2) (pa_cons (pv 3) (pa_cons (pe_un un_neg pe_int) pa_nil)))))) (pa_cons (pe_k c_most_led hr (by decide) (by rfl) (pa_cons (pv 0) (pa_cons (pv 1) (pa_cons (pv 2) (pa_cons (pv 3) (pa_cons pe_int pa_nil)))))) pa_nil))))), ?_⟩
    have ml : ∀ {ts : TE} (s : Int), (∀ H', ED K Non ts (start N_least_and_greatest [v0, v1, v2, .int (kk : Nat)]) H' (.int s)) → (s = 1 ∨ s = -1) → Ev Non (tCall (sp_most_led K) [] E0 (tCons (tVar 0) (tCons (tVar 1) (tCons (tVar 2) (tCons (tVar 3) (tCons ts tNil)))))) (start N_least_and_greatest [v0, v1, v2, .int (kk : Nat)]) H (fun v H2 => ∃ val, It K H2 v (.int val) ∧ GoodV n A Bs kk s val) := fun s hts hs =>
      ev_call (va_cons (ed_var (k := 0) rfl h0) stb_d (va_cons (ed_var (k := 1) rfl h1) stb_d (va_cons (ed_var (k := 2) rfl h2) stb_d (va_cons (ev_var (k := 3) (v := .int (kk : Nat)) rfl) stb_v (va_cons (hts _) stb_d va_nil))))) fun vs H1 r1 hvs Q k => by
        obtain ⟨_, _, rfl, q0, _, _, rfl, q1, _, _, rfl, q2, _, _, rfl, rfl, _, _, rfl, q4, rfl⟩ := hvs
        obtain rfl := it_int q4
        exact ⟨_, _, _, n, A, Bs, fw, kk, s, rfl, q0, q1, q2, W, BO, lf, win, flo, hk, hs, fun val g v H2 e p => k v H2 (R.of e) ⟨val, p, g⟩⟩
    refine s_ret (M := Non) (P := fun v H2 => ∃ lo hi, It K H2 v (.tuple [.int lo, .int hi]) ∧ GoodV n A Bs kk (-1) lo ∧ GoodV n A Bs kk 1 hi) (fun H1 r1 Q2 k2 => ?_) fun v H1 r1 hp => ?_
    · refine ml (ts := tUn (rU fun i => V.int (-i)) (tC (V.int 1))) (-1) (fun H' => ed_U (g := fun i => -i) ed_i) (.inr rfl) H1 r1 _ fun x H2 r2 hx => ?_
      obtain ⟨lo, hlo, g1⟩ := hx
      refine ml (ts := tC (V.int 1)) 1 (fun H' => ed_i) (.inl rfl) H2 (r1.trans r2) _ fun y H3 r3 hy => ?_
      obtain ⟨hi, hhi, g2⟩ := hy
      refine ⟨small (show 2 ≤ 100000 by decide), fun l hl => k2 _ _ ((r2.trans r3).new hl) ⟨lo, hi, .tup (.inl (.inl upd_same)) (.cons ((hlo.mono r3).new hl) (.cons (hhi.new hl) .nil)), g1, g2⟩⟩
    · obtain ⟨lo, hi, p, g1, g2⟩ := hp
      exact kR lo hi g1 g2 v H1 r1.ex p
end
end KP

/-! part KP8 -/
set_option Elab.async false
set_option linter.all false
set_option maxRecDepth 100000
set_option maxHeartbeats 4000000
/-! some_within, value_bounds, fixed_arrows. -/
namespace KP
open PySem PySem.Spec PyProof.Rows L2 PySem.NWX
/-- the error: its dict holds the lot -/
def RetErr (K : PySem.W.Frag) (C : Addr) (n : Nat) (A Bs : List (Int × Int)) (H : Hp) (E : XK) : Prop := ∀ f : Nat → Bool, 0 < KM.need A.length (xW A) (yW A) (xW Bs) (yW Bs) (fun v => decide (v ∈ lotL n f)) →
  ∀ (v : V) (d : Addr) (H1 : Hp), Ex H H1 → It K H1 v (.tuple ((lotL n f).map .int)) → H1 d = none → E (.ref C) (some d) (upd H1 d (.xd [(("lot" : Str), v)]))
theorem RetErr.mono {K : PySem.W.Frag} {C : Addr} {n : Nat} {A Bs : List (Int × Int)} {H H' : Hp} {E : XK} (h : RetErr K C n A Bs H E) (e : Ex H H') : RetErr K C n A Bs H' E := fun f hn v d H1 e1 hi hd => h f hn v d H1 (fun b u z => e1 b u (e b u z)) hi hd
theorem Ex.tr {H H1 H2 : Hp} (a : Ex H H1) (b : Ex H1 H2) : Ex H H2 := fun c u h => b c u (a c u h)
theorem RetD.mono {K : PySem.W.Frag} {d : PyData} {H H' : Hp} {Q : VK} (h : RetD K d H Q) (e : Ex H H') : RetD K d H' Q := fun v H2 e2 p => h v H2 (Ex.tr e e2) p
section
variable {P : Program} {w : World} {K : PySem.W.Frag} {mg : Str → Option Value} {base : Heap} {C fI : Addr}
-- some_within: slots web=0 bounds=1 flow=2 lot=3
abbrev s_some_within : Stmt := topS 27
abbrev N_some_within : List Str := ["web", "bounds", "flow", "lot"]
theorem sc_some_within : FnScope N_some_within ["web", "bounds"] (defScope s_some_within) := ⟨rfl, rfl, rfl, by decide +kernel, rfl, by decide +kernel, by decide +kernel⟩
def sp_some_within (K : PySem.W.Frag) (C : Addr) : Sp := fun vs H Q E => ∃ (v0 v1 : V) (n : Nat) (A Bs : List (Int × Int)), vs = [v0, v1] ∧ It K H v0 (wD n A) ∧ It K H v1 (bD Bs) ∧ WebOk n A ∧ BdsOk A Bs ∧
  (∀ c : List Int, c.length = A.length → KM.Within A.length (xW Bs) (yW Bs) (fL c) → KM.Flow n A.length (xW A) (yW A) (fL c) → RetD K (.tuple (c.map .int)) H Q) ∧ RetErr K C n A Bs H E
theorem cl_some_within (T : NwTxt P K mg C fI) (c_flow_or_lot : Cl P w K mg base 3 "flow_or_lot" (sp_flow_or_lot K)) (B : GB mg) (DF : Df K mg "some_within" s_some_within) : ClX P w K mg base 4 "some_within" ["web", "bounds"] (sp_some_within K C) := by
  obtain ⟨f, fd, F, g⟩ := DF.ex
  refine ⟨f, fd, F.okX sc_some_within (fun vs H Q E h => ?_) (fun cdv A outer s H vs Q E hr h => ?_), g, F.kp, F.binds fun _ _ _ _ _ _ us hl => match us, hl with | [_, _], _ => rfl, fun_rev F fun _ _ _ _ _ _ us hl => match us, hl with | [_, _], _ => rfl⟩
  · obtain ⟨v0, v1, n, A, Bs, rfl, _⟩ := h
    rfl
  · obtain ⟨v0, v1, n, A, Bs, rfl, h0, h1, W, BO, kF, kE⟩ := h
    have nd := sc_some_within.nd
    refine ⟨_, (pss_cons (ps_asg (pe_k c_flow_or_lot hr (by decide) (by rfl) (pa_cons (pv 0) (pa_cons (pv 1) pa_nil))) (pg_tup_K (K := K) (n := 2) rfl (pgs_cons (pg_name (i := 2) nd rfl (.inl rfl)) (pgs_cons (pg_name (i := 3) nd rfl (.inl rfl)) pgs_nil))))
      (pss_cons (ps_if (pt_cmpR op_isN (pv 2) pe_non (nomark _)) (pss_one (ps_raiseNw rfl T hr (takes_of rfl rfl rfl rfl) (pa_cons (pv 3) pa_nil))) pss_nil)
      (pss_one (ps_ret (pv 2))))), ?_⟩
    refine q_asgCg (M := Non) (va_cons (ed_var (k := 0) rfl h0) stb_d (va_cons (ed_var (k := 1) rfl h1) stb_d va_nil)) fun vs H1 r1 hvs => ?_
    obtain ⟨_, _, rfl, q0, _, _, rfl, q1, rfl⟩ := hvs
    refine ⟨_, _, n, A, Bs, rfl, q0, q1, W, BO, fun c lc win flo v H2 e2 hv => ?_, fun ff hn v H2 e2 hv => ?_⟩
    · obtain ⟨w1, w2, g1, g2, bd⟩ := un2 (i := 2) (j := 3) (σ := start N_some_within [v0, v1]) hv
      refine bd _ ?_
      refine q_when (M := Non) (b := false) (et_test (ed_isN (d := .tuple (c.map .int)) (ed_var (k := 2) rfl g1))) (fun z => nomatch z) fun _ H3 r3 => ?_
      exact s_ret (M := Non) (P := fun v H => It K H v (.tuple (c.map .int))) (ed_var (k := 2) rfl (g1.mono r3)) fun v H4 r4 p => kF c lc win flo v H4 (r1.trans ((R.of e2).trans (r3.trans r4))).ex p
    · obtain ⟨w1, w2, g1, g2, bd⟩ := un2 (i := 2) (j := 3) (σ := start N_some_within [v0, v1]) hv
      refine bd _ ?_
      refine q_when (M := Non) (b := true) (et_test (ed_isN (d := .none) (ed_var (k := 2) rfl g1))) (fun _ H3 r3 => ?_) (fun z => nomatch z)
      exact ⟨w2, rfl, w2, rfl, fun d hd => kE ff hn w2 d H3 (r1.trans ((R.of e2).trans r3)).ex (g2.mono r3) hd⟩

-- value_bounds: slots web=0 bounds=1 arrow=2
abbrev s_value_bounds : Stmt := topS 30
abbrev N_value_bounds : List Str := ["web", "bounds", "arrow"]
theorem sc_value_bounds : FnScope N_value_bounds ["web", "bounds", "arrow"] (defScope s_value_bounds) := ⟨rfl, rfl, rfl, by decide +kernel, rfl, by decide +kernel, by decide +kernel⟩
def sp_value_bounds (K : PySem.W.Frag) (C : Addr) : Sp := fun vs H Q E => ∃ (v0 v1 : V) (n : Nat) (A Bs : List (Int × Int)) (k : Nat), vs = [v0, v1, .int (k : Nat)] ∧ It K H v0 (wD n A) ∧ It K H v1 (bD Bs) ∧ WebOk n A ∧ BdsOk A Bs ∧ k < A.length ∧
  (∀ lo hi, GoodV n A Bs k (-1) lo → GoodV n A Bs k 1 hi → RetD K (.tuple [.int lo, .int hi]) H Q) ∧ RetErr K C n A Bs H E
theorem cl_value_bounds (c_check_web : Cl P w K mg base 4 "check_web" (sp_check_web K)) (c_check_bounds : Cl P w K mg base 4 "check_bounds" (sp_check_bounds K)) (c_check_arrow : Cl P w K mg base 3 "check_arrow" (sp_check_arrow K)) (c_least_and_greatest : Cl P w K mg base 4 "least_and_greatest" (sp_lag K))
    (c_some_within : ClX P w K mg base 4 "some_within" ["web", "bounds"] (sp_some_within K C)) (B : GB mg) (DF : Df K mg "value_bounds" s_value_bounds) : ClX P w K mg base 5 "value_bounds" ["web", "bounds", "arrow"] (sp_value_bounds K C) := by
  obtain ⟨f, fd, F, g⟩ := DF.ex
  refine ⟨f, fd, F.okX sc_value_bounds (fun vs H Q E h => ?_) (fun cdv A outer s H vs Q E hr h => ?_), g, F.kp, F.binds fun _ _ _ _ _ _ us hl => match us, hl with | [_, _, _], _ => rfl, fun_rev F fun _ _ _ _ _ _ us hl => match us, hl with | [_, _, _], _ => rfl⟩
  · obtain ⟨v0, v1, n, A, Bs, kk, rfl, _⟩ := h
    rfl
  · obtain ⟨v0, v1, n, A, Bs, kk, rfl, h0, h1, W, BO, hk, kF, kE⟩ := h
    have nd := sc_value_bounds.nd
    refine ⟨_, (pss_cons (ps_expr (pe_k c_check_web hr (by decide) (by rfl) (pa_cons (pv 0) pa_nil)))
      (pss_cons (ps_expr (pe_k c_check_bounds hr (by decide) (by rfl) (pa_cons (pv 0) (pa_cons (pv 1) pa_nil))))
      (pss_cons (ps_expr (pe_k c_check_arrow hr (by decide) (by rfl) (pa_cons (pv 0) (pa_cons (pv 2) pa_nil))))
      (pss_one (ps_ret (pe_k c_least_and_greatest hr (by decide) (by rfl) (pa_cons (pv 0) (pa_cons (pv 1) (pa_cons (pe_kX c_some_within (takes_of rfl rfl rfl rfl) hr (by decide) (by rfl) (pa_cons (pv 0) (pa_cons (pv 1) pa_nil))) (pa_cons (pv 2) pa_nil)))))))))), ?_⟩
    refine q_drop (M := Non) (ed_call (ea1 (ed_var (k := 0) rfl h0)) ⟨n, A, rfl, W, rfl⟩) fun H1 r1 => ?_
    refine q_drop (M := Non) (ed_call (ea2 (ed_var (k := 0) rfl (h0.mono r1)) (ed_var (k := 1) rfl (h1.mono r1))) ⟨n, A, Bs, rfl, W, BO, rfl⟩) fun H2 r2 => ?_
    have r02 := r1.trans r2
    refine q_drop (M := Non) (ed_call (ea2 (ed_var (k := 0) rfl (h0.mono r02)) (ed_var (k := 2) rfl (.int (kk : Nat)))) ⟨n, A, kk, rfl, hk, rfl⟩) fun H3 r3 => ?_
    have r03 := r02.trans r3
    -- least_and_greatest(web, bounds, some_within(web, bounds), arrow)
    refine ⟨v0, rfl, v1, rfl, v0, rfl, v1, rfl, v0, v1, n, A, Bs, rfl, h0.mono r03, h1.mono r03, W, BO, fun c lc win flo fv H4 e4 hfv => ?_, kE.mono r03.ex⟩
    have r04 := r03.trans (R.of (M := Non) e4)
    refine ⟨_, rfl, v0, v1, fv, n, A, Bs, c, kk, rfl, h0.mono r04, h1.mono r04, hfv, W, BO, lc, win, flo, hk, fun lo hi g1 g2 => ?_⟩
    exact (kF lo hi g1 g2).mono r04.ex

-- fixed_arrows: slots web=0c bounds=1c flow=2c ends=3 arrow=4 low=5 high=6
abbrev s_fixed_arrows : Stmt := topS 31
abbrev N_fixed_arrows : List Str := ["web", "bounds", "flow", "ends", "arrow", "low", "high"]
theorem sc_fixed_arrows : FnScope N_fixed_arrows ["web", "bounds"] (defScope s_fixed_arrows) := ⟨rfl, rfl, rfl, by decide +kernel, rfl, by decide +kernel, by decide +kernel⟩
def sp_fixed_arrows (K : PySem.W.Frag) (C : Addr) : Sp := fun vs H Q E => ∃ (v0 v1 : V) (n : Nat) (A Bs : List (Int × Int)), vs = [v0, v1] ∧ It K H v0 (wD n A) ∧ It K H v1 (bD Bs) ∧ WebOk n A ∧ BdsOk A Bs ∧
  (∀ lo hi : Nat → Int, (∀ k, k < A.length → GoodV n A Bs k (-1) (lo k) ∧ GoodV n A Bs k 1 (hi k)) → RetD K (.tuple ((lotL A.length fun k => decide (lo k = hi k)).map .int)) H Q) ∧ RetErr K C n A Bs H E
theorem cl_fixed_arrows (c_check_web : Cl P w K mg base 4 "check_web" (sp_check_web K)) (c_check_bounds : Cl P w K mg base 4 "check_bounds" (sp_check_bounds K)) (c_least_and_greatest : Cl P w K mg base 4 "least_and_greatest" (sp_lag K))
    (c_some_within : ClX P w K mg base 4 "some_within" ["web", "bounds"] (sp_some_within K C)) (B : GB mg) (DF : Df K mg "fixed_arrows" s_fixed_arrows) : ClX P w K mg base 5 "fixed_arrows" ["web", "bounds"] (sp_fixed_arrows K C) := by
  obtain ⟨f, fd, F, g⟩ := DF.ex
  refine ⟨f, fd, F.okX sc_fixed_arrows (fun vs H Q E h => ?_) (fun cdv A outer s H vs Q E hr h => ?_), g, F.kp, F.binds fun _ _ _ _ _ _ us hl => match us, hl with | [_, _], _ => rfl, fun_rev F fun _ _ _ _ _ _ us hl => match us, hl with | [_, _], _ => rfl⟩
  · obtain ⟨v0, v1, n, A, Bs, rfl, _⟩ := h
    rfl
  · obtain ⟨v0, v1, n, A, Bs, rfl, h0, h1, W, BO, kF, kE⟩ := h
    have nd := sc_fixed_arrows.nd
    refine ⟨_, (pss_cons (ps_expr (pe_k c_check_web hr (by decide) (by rfl) (pa_cons (pv 0) pa_nil)))
      (pss_cons (ps_expr (pe_k c_check_bounds hr (by decide) (by rfl) (pa_cons (pv 0) (pa_cons (pv 1) pa_nil))))
      (pss_cons (ps_set (i := 2) nd rfl (.inr rfl) (pe_kX c_some_within (takes_of rfl rfl rfl rfl) hr (by decide) (by rfl) (pa_cons (pv 0) (pa_cons (pv 1) pa_nil))))
      (pss_cons (ps_setLc (i := 3) (own := [("arrow", 4)]) (g := (gName 4)) rfl nd rfl rfl (sw_true rfl rfl rfl (by decide +kernel)) (pi_range1 (by rfl) B.range (pa_cons (pe_callB (call_len_K (K := K)) (by rfl) B.len boot_len (pa_cons (pe_ix (ix_K (K := K)) (pv 0) pe_int (fun _ _ => rfl)) pa_nil)) pa_nil)) (blkOk_by (own := [("arrow", 4)]) (N := N_fixed_arrows) (sc := defScope s_fixed_arrows) (by decide +kernel)) (fun _ _ _ _ _ => (pg_name (i := 4) nd rfl (.inl rfl))) (fun _ _ _ _ _ => pts_nil) (fun _ _ _ _ _ => (pe_k c_least_and_greatest hr (by decide) (by rfl) (pa_cons (pv 0) (pa_cons (pv 1) (pa_cons (pv 2) (pa_cons (pv 4) pa_nil)))))))
      (pss_one (ps_ret (pe_callTy (call_tuple_K (K := K)) (by rfl) B.tuple boot_tuple (pa_cons (pe_lc (own := [("arrow", 4), ("low", 5), ("high", 6)]) (g := (gTup K 2 (gCons (gName 4) (gCons (gTup K 2 (gCons (gName 5) (gCons (gName 6) gNil))) gNil)))) rfl nd (pi_enum_K (K := K) (by rfl) B.enumerate (pa_cons (pv 3) pa_nil)) (blkOk_by (own := [("arrow", 4), ("low", 5), ("high", 6)]) (N := N_fixed_arrows) (sc := defScope s_fixed_arrows) (by decide +kernel)) (fun _ _ _ _ _ => (pg_tup_K (K := K) (n := 2) rfl (pgs_cons (pg_name (i := 4) nd rfl (.inl rfl)) (pgs_cons (pg_tup_K (K := K) (n := 2) rfl (pgs_cons (pg_name (i := 5) nd rfl (.inl rfl)) (pgs_cons (pg_name (i := 6) nd rfl (.inl rfl)) pgs_nil))) pgs_nil)))) (fun _ _ _ _ _ => (pts_one (pt_cmpR (op_eq_K (K := K) hr.units) (pv 5) (pv 6) (nomark _)))) (fun _ _ _ _ _ => (pv 4))) pa_nil)))))))), ?_⟩
    have hm1 := W.m1
    refine q_drop (M := Non) (ed_call (ea1 (ed_var (k := 0) rfl h0)) ⟨n, A, rfl, W, rfl⟩) fun H1 r1 => ?_
    refine q_drop (M := Non) (ed_call (ea2 (ed_var (k := 0) rfl (h0.mono r1)) (ed_var (k := 1) rfl (h1.mono r1))) ⟨n, A, Bs, rfl, W, BO, rfl⟩) fun H2 r2 => ?_
    have r02 := r1.trans r2
    -- flow
    refine ⟨v0, rfl, v1, rfl, v0, v1, n, A, Bs, rfl, h0.mono r02, h1.mono r02, W, BO, fun c lc win flo fv H4 e4 hfv => ?_, kE.mono r02.ex⟩
    have r04 := r02.trans (R.of (M := Non) e4)
    show tSeq _ _ _ ([some v0, some v1, some fv, none, none, none, none] : L2.St) H4
    refine q_asgP (K := K) (M := Non) (elp_lc (K := K) (src_rng1 (ea1 (ed_lenT (ed_ix (ed_var (k := 0) rfl (h0.mono r04)) ed_i rfl))) (by omega) (by rw [List.length_map]; omega)) non_M (by rw [Int.toNat_natCast, List.length_map]; omega) (fun _ => true) (fun i d => ∃ lo hi, d = pD (lo, hi) ∧ GoodV n A Bs i (-1) lo ∧ GoodV n A Bs i 1 hi) fun i v H5 hi r5 hy => ?_) fun ep xs eds H5 hep r5 hex hall hgot => ?_
    · subst hy
      rw [Int.toNat_natCast, List.length_map] at hi
      refine ⟨_, bd_name, rfl, et_yes, fun _ => ?_⟩
      have r05 := r04.trans r5
      exact ev_call (va_cons (ed_var (k := 0) rfl (h0.mono r05)) stb_d (va_cons (ed_var (k := 1) rfl (h1.mono r05)) stb_d (va_cons (ed_var (k := 2) rfl (hfv.mono r5)) stb_d (va_cons (ev_var (v := .int (i : Nat)) rfl) stb_v va_nil)))) fun vs H6 r6 hvs Q k => by
        obtain ⟨_, _, rfl, q0, _, _, rfl, q1, _, _, rfl, q2, _, _, rfl, rfl, rfl⟩ := hvs
        exact ⟨_, _, _, n, A, Bs, c, i, rfl, q0, q1, q2, W, BO, lc, win, flo, hi, fun lo hi g1 g2 v H7 e7 p => k v H7 (R.of e7) ⟨_, p, lo, hi, rfl, g1, g2⟩⟩
    · rw [Int.toNat_natCast, List.length_map] at hgot
      obtain ⟨el, hel⟩ := hgot.all
      -- the pairs
      obtain ⟨lo, hi, heds, hgood⟩ : ∃ lo hi : Nat → Int, eds = ((List.range A.length).map fun i => pD (lo i, hi i)) ∧ ∀ k, k < A.length → GoodV n A Bs k (-1) (lo k) ∧ GoodV n A Bs k 1 (hi k) := by
        have ch : ∀ i : Nat, ∃ p : Int × Int, i < A.length → eds[i]? = some (pD p) ∧ GoodV n A Bs i (-1) p.1 ∧ GoodV n A Bs i 1 p.2 := fun i => by
          by_cases c : i < A.length
          · have hi : eds[i]? = some (eds[i]'(by omega)) := List.getElem?_eq_getElem (by omega)
            obtain ⟨lo, hi', e, g1, g2⟩ := hel i _ hi
            exact ⟨(lo, hi'), fun _ => ⟨by rw [hi, e], g1, g2⟩⟩
          · exact ⟨(0, 0), fun z => absurd z c⟩
        refine ⟨fun i => (Classical.choose (ch i)).1, fun i => (Classical.choose (ch i)).2, ?_, fun k hk => ((Classical.choose_spec (ch k)) hk).2⟩
        apply List.ext_getElem?
        intro j
        by_cases hj : j < A.length
        · rw [rng_get hj]
          exact ((Classical.choose_spec (ch j)) hj).1
        · rw [List.getElem?_eq_none (by omega), List.getElem?_eq_none (by simp; omega)]
      subst heds
      refine s_ret (M := Non) (P := fun v H => It K H v (.tuple ((lotL A.length fun k => decide (lo k = hi k)).map .int))) (ed_tupL ((elp_lc (K := K) (src_enum (ev1 (ev_var (k := 3) (v := .ref ep) rfl)) (fun _ z => z) (.inl (.inl hex)) (nn hex) hall) non_E (by simp; omega) (fun i => decide (lo i = hi i)) (fun i d => d = .int (i : Nat)) fun i v H6 hi' r6 hy => ?_).el fun es he => ?_)) fun v H6 r6 p => kF lo hi hgood v H6 (r04.trans (r5.trans r6)).ex p
      · simp only [List.length_map, List.length_range] at hi'
        obtain ⟨d, hd, hv⟩ := hy
        rw [rng_get hi'] at hd
        have hd := (Option.some.inj hd).symm
        subst hd
        obtain ⟨w1, w2, w3, g1, g2, g3, bd⟩ := un12 (i := 4) (j := 5) (l := 6) (σ := wipe [some v0, some v1, some fv, some (.ref ep), none, none, none] [4, 5, 6]) hv
        obtain rfl := it_int g2
        obtain rfl := it_int g3
        obtain rfl := it_int g1
        exact ⟨_, bd, rfl, et_test (ed_eqI (ed_var (K := K) rfl (.int _)) (ed_var rfl (.int _))), fun _ => ev_dd (ed_var rfl (.int _)) rfl⟩
      · simp only [List.length_map, List.length_range] at he
        rw [he.fun, lot_map]
end
end KP

/-! part KRs -/
set_option Elab.async false
set_option linter.all false
set_option maxRecDepth 100000
set_option maxHeartbeats 4000000
/-! set of a list of ints. -/
namespace KP
open PySem PySem.Spec PyProof.Rows L2
/-- a set as set() makes it in this world -/
abbrev set0 (w : World) : Obj := { cls := .type "set", dict := none, data := .set #[] 0 (.fresh 0 0 (!w.params.followText "set-order")) }
/-- the set of these ints stands behind what stood before -/
def SetMade (w : World) (ns : List Int) (s s2 : Shared) : Prop := ∃ (g : Heap) (t c : Nat), s2 = { s with heap := g, toks := t } ∧ SetR w g s.heap.objs.size (fun j => decide (j ∈ ns)) c ∧ c ≤ ns.length ∧ ∀ b o, s.heap.get? b = some o → g.get? b = some o
section
variable {P : Program} {w : World} {A : Around} {s : Shared} {l : Addr} {items : Array Value} {ns : List Int}
theorem apart2 {a b c : Addr} (h1 : a ≠ b) (h2 : a ≠ c) : a ∉ [b, c] := fun z => (List.mem_cons.mp z).elim h1 fun z => h2 (List.mem_singleton.mp z)
theorem items_ints (iv : IntsAre items.toList ns) : items.size = ns.length ∧ ∀ (i : Nat) (v : Value), items[i]? = some v → ∃ k t, ns[i]? = some k ∧ v = .int k t := by
  have sz : items.size = ns.length := by simpa using IntsAre.length iv
  refine ⟨sz, fun i v e => ?_⟩
  have lt : i < ns.length := sz ▸ (Array.getElem?_eq_some_iff.mp e).1
  obtain ⟨t, q⟩ := PyProof.Rows.IntsAre.int_at iv i v ((Array.getElem?_toList ..).trans e)
  refine ⟨ns[i], t, List.getElem?_eq_getElem lt, q.trans ?_⟩
  rw [List.getD_eq_getElem?_getD, List.getElem?_eq_getElem lt]
  rfl
/-- the empty set is filled from the list -/
theorem set_fill {R : Result → Shared → Prop} (calm : A.handled = none) (is : s.heap.IsList l items) (iv : IntsAre items.toList ns) (few : ns.length + 1 < scanBound) (go : ∀ s2, SetMade w ns s s2 → R (.ok (.ret .none)) s2) :
    codeAny (model P w) A (.builtin "set.__init__" ⟨[.ref s.heap.objs.size, .ref l], []⟩) R { s with heap := s.heap.push (set0 w) } := by
  obtain ⟨sz, each⟩ := items_ints iv
  obtain ⟨⟨lc, ldd, ldata, lsl⟩, lo, lcls, ln, ldat⟩ := is
  obtain rfl : lc = .type "list" := lcls
  obtain rfl : ldata = .seq items ln := ldat
  have below : l < s.heap.objs.size := Heap.lt_size lo
  have lo1 : (s.heap.push (set0 w)).get? l = some { cls := .type "list", dict := ldd, data := .seq items ln, slots := lsl } := Heap.get?_push_of_some _ lo
  have is1 : (s.heap.push (set0 w)).IsList l items := ⟨_, lo1, rfl, ln, rfl⟩
  have at0 : (s.heap.push (set0 w)).get? s.heap.objs.size = some (set0 w) := Heap.get?_push_size _ rfl
  have top : (s.heap.push (set0 w)).objs.size = s.heap.objs.size + 1 := by rw [Heap.size_push]
  have sub1 := F.sub_list_set
  have sub2 := F.sub_list_frozenset
  have nod : (Value.type "list" == Value.type "dict") = false := rfl
  refine codeAny_builtin F.entry_set_init ?_
  rw [Around.under_plainId F.called_set.init.plain _]
  unfold Builtin.«set.__init__» noKeywords Builtin.Frozenset.updateFrom
  generalize hPI : pyIter = PI
  wp_walk
  subst hPI
  refine wpAny_pyIter_list is1 (wpAny_bind (wpAny_runValue (set_update_ints ((Walks.list (by simpa using calm) _ l (by rw [top]; exact Nat.ne_of_lt (Nat.lt_succ_of_lt below)) items).toS) s.heap.objs.size (by rw [top]; exact apart2 (Nat.ne_of_lt (Nat.lt_succ_self _)) (Nat.ne_of_gt below)) ns sz few each (items.size - 0) 0 _ (by omega) (Nat.zero_le _)
    ⟨⟨_, Heap.get?_push_size _ rfl, rfl, rfl⟩, is1.push _⟩ ⟨0, Nat.le_refl 0, setR_new_at (Heap.get?_push_of_some _ at0)⟩ fun sE cE mv few2 made => ?_)))
  have eE : sE = { s with heap := sE.heap, toks := sE.toks } := by
    have q1 := mv.gens
    have q2 := mv.drawn
    have q3 := mv.os
    cases sE
    cases q1
    cases q2
    cases q3
    rfl
  show wpAny _ _ _ _ _ _
  refine wpAny_pure ?_
  show wpAny _ _ (ret Value.none) _ _ _
  refine wpAny_pure (go _ ⟨sE.heap, sE.toks, cE, eE, made, sz ▸ few2, fun b o e => ?_⟩)
  have bl : b < s.heap.objs.size := Heap.lt_size e
  exact mv.heap b o (by rw [top]; exact apart2 (Nat.ne_of_lt bl) (Nat.ne_of_lt (Nat.lt_succ_of_lt bl))) (Heap.get?_push_of_some _ (Heap.get?_push_of_some _ e))
set_option maxHeartbeats 3100000 in
theorem call_set_listI {E : Value → Shared → Prop} {Q : Value → Shared → Prop} (ns : List Int) (calm : A.handled = none) (is : s.heap.IsList l items) (iv : IntsAre items.toList ns) (few : ns.length + 1 < scanBound)
    (go : ∀ (h' : Heap) (tk c : Nat), SetR w h' s.heap.objs.size (fun j => decide (j ∈ ns)) c → c ≤ ns.length → (∀ b o, s.heap.get? b = some o → h'.get? b = some o) → Q (.ref s.heap.objs.size) { s with heap := h', toks := tk }) :
    wpAny (model P w) A (call (.type "set") [.ref l]) Q E s := by
  refine wpAny_call (codeAny_of_tree (show wpAny _ _ (callAny (.type "set") _) _ _ _ from wpAny_pure ⟨Code.quiet_builtin _ (by decide +kernel), codeAny_builtin F.entry_type_call ?_⟩))
  rw [Around.under_plain (weight_type_call_type "set" [.ref l] []) rfl]
  obtain ⟨m0, mr, mro⟩ := F.called_set.mro
  have f1 := F.called_set.made; have f2 := F.called_set.sub; have f3 := F.called_set.notType; have f4 := F.called_set.canCreate; have f5 := F.typeCall_set_1 (.ref l)
  repeat (any_goals (first | assumption | wp_step))
  refine codeAny_mono (code_set_led1 (.ref l) (E := E) (Q₁ := fun x sN => x = .ref s.heap.objs.size ∧ sN = { s with heap := s.heap.push (set0 w) }) ⟨rfl, rfl⟩) fun r sN got => ?_
  match r, got with
  | .error _, got => exact got
  | .ok .next, got => exact got.elim
  | .ok .brk, got => exact got.elim
  | .ok .cont, got => exact got.elim
  | .ok (.ret x), ⟨ex, es⟩ =>
    subst ex
    subst es
    have isSet : Shared.TypeIs { s with heap := s.heap.push (set0 w) } (.ref s.heap.objs.size) "set" := ⟨_, Heap.get?_push_size _ rfl, rfl⟩
    have f6 := F.called_set.init.lookup; have f7 := F.called_set.init.bind (.ref s.heap.objs.size)
    repeat (any_goals (first | assumption | wp_step))
    refine codeAny_mono (codeAny_call_builtin_code (R := wants (fun y s2 => y = .none ∧ SetMade w ns s s2) E) (Code.quiet_builtin _ (by decide +kernel)) (check_set_init_1 isSet (set_fill (by simpa using calm) is iv few fun s2 m => ⟨rfl, m⟩))) fun y s2 got => ?_
    match y, got with
    | .error _, got => exact got
    | .ok .next, got => exact got.elim
    | .ok .brk, got => exact got.elim
    | .ok .cont, got => exact got.elim
    | .ok (.ret y), ⟨ey, g, t, c, es, made, few2, kept⟩ =>
      subst ey
      subst es
      repeat (any_goals (first | assumption | wp_step))
      exact go _ _ _ made few2 kept
end
end KP

/-! part KRd -/
set_option Elab.async false
set_option linter.all false
set_option maxRecDepth 100000
set_option maxHeartbeats 4000000
/-! sorted of data; sorted(set(list of ints)). -/
namespace KP
open PySem PySem.Spec PyProof.Rows L2
/-! ### sorted of a list of data -/
theorem each_zip {K : PySem.W.Frag} {X : Cx} {pins : List (Addr × Obj)} {σ : L2.St} {H : Hp} {s : Shared} (I : Inv X pins σ H s) : ∀ {xs : List V} {ds : List PyData} {us : List Value}, DpAll X.K H xs ds → Vals xs us →
    PySem.W.EachIs (fun (u : Value) (b : V × PyData) => RelV b.1 u) us (xs.zip ds) ∧ PySem.W.EachIs (fun (u : Value) (b : V × PyData) => ∃ as, Reads s.heap u b.2 as) us (xs.zip ds)
  | _, _, _, .nil, .nil => ⟨.nil, .nil⟩
  | _, _, _, .cons h hs, .cons r rs => by
    obtain ⟨a, b⟩ := each_zip (K := K) I hs rs
    obtain ⟨as, q⟩ := Dp.reads I _ _ _ h r
    exact ⟨.cons r a, .cons ⟨as, q⟩ b⟩
theorem vals_each : ∀ {us : List Value} {zs : List (V × PyData)}, PySem.W.EachIs (fun (u : Value) (b : V × PyData) => RelV b.1 u) us zs → Vals (zs.map (·.1)) us
  | _, _, .nil => .nil
  | _, _, .cons h hs => .cons h (vals_each hs)
theorem zip_snd {xs : List V} {ds : List PyData} (h : xs.length = ds.length) : (xs.zip ds).map (·.2) = ds := List.map_snd_zip (by omega)
theorem dpa_len {K : PySem.W.Frag} {H : Hp} : ∀ {xs : List V} {ds : List PyData}, DpAll K H xs ds → xs.length = ds.length
  | _, _, .nil => rfl
  | _, _, .cons _ hs => by rw [List.length_cons, List.length_cons, dpa_len hs]
def rSrt (K : PySem.W.Frag) : List V → Hp → VK → Prop := fun vs H Q => ∃ (a : Addr) (xs : List V) (ds : List PyData), vs = [V.ref a] ∧ SqL K H a xs ∧ DpAll K H xs ds ∧ PySem.W.AllAlike ds ∧ PySem.W.Sortable ds ∧ (∀ d ∈ ds, d.depth ≤ 8) ∧ ds.length ≤ 100000 ∧
  ∀ (zs : List (V × PyData)) (p : Addr), zs.Perm (xs.zip ds) → H p = none → Q (.ref p) (upd H p (.lst (zs.map (·.1))))
theorem cr_srt {X : Cx} (hu : X.A.units + 64 < cLine) : CallR X (.builtin "sorted") (rSrt X.K) := by
  intro pins s σ H vs us Q I r h
  obtain ⟨a, xs, ds, rfl, hs, hd, hal, hk, hdep, hlen, q⟩ := h
  obtain ⟨its, rv, hl, hz⟩ := I.list hs
  rw [Vals.ref1 r]
  have hxd := dpa_len hd
  obtain ⟨e1, e2⟩ := each_zip (K := X.K) I hd rv
  have es := zip_snd hxd
  have lz : (xs.zip ds).length = ds.length := by rw [List.length_zip]; omega
  refine PySem.W.sorted_data (R := fun (u : Value) (b : V × PyData) => RelV b.1 u) (enc := fun b => b.2) hl.isList e1 e2 (by rw [es]; exact hal) (by rw [es]; exact hk) (by rw [lz]; exact Nat.le_trans hlen (by decide)) (fun b hb => ?_) fun out ho hout => ?_
  · have : b.2 ∈ ds := by rw [← es]; exact List.mem_map_of_mem hb
    have := hdep _ this
    omega
  · obtain ⟨ep, he'⟩ := PyProof.Rows.sortedAll_at s.heap its (List.toArray out)
    have pm := List.mergeSort_perm (xs.zip ds) (PySem.W.dataLe false fun b => b.2)
    have vv := vals_each hout
    refine ⟨.ref _, upd H (s.heap.objs.size + 1) (.lst (((xs.zip ds).mergeSort (PySem.W.dataLe false fun b => b.2)).map (·.1))), I.laid (t' := s.toks) (fun _ _ => PyProof.Rows.sortedAll_old) (Nat.le_succ _) ⟨?_, out, ep, vv, he'⟩, rfl, q _ _ pm (I.hok.fresh (Nat.le_succ _))⟩
    rw [List.length_map, pm.length_eq, lz]
    exact Nat.le_trans hlen (by decide)
theorem cr_sortedX_K {X : Cx} {K : PySem.W.Frag} (hu : X.A.units + 64 < cLine) (h : X.K = K := by rfl) : CallR X (.builtin "sorted") (rSrt K) := h ▸ cr_srt hu
/-! ### sorted(set(list of ints)) -/
theorem nodup_win {ns : List Int} {lo : Int} {m : Nat} (nd : ns.Nodup) (h : ∀ x ∈ ns, lo ≤ x ∧ x < lo + m) : ns.length ≤ m := by
  have nd2 : (ns.map fun x => x - lo).Nodup := by
    rw [List.nodup_iff_pairwise_ne, List.pairwise_map]
    exact List.Pairwise.imp (fun ne e => ne (by omega)) (List.nodup_iff_pairwise_ne.mp nd)
  have := KM.nodup_len (n := m) nd2 fun v hv => by
    obtain ⟨x, hx, rfl⟩ := List.mem_map.mp hv
    have := h x hx
    omega
  rw [List.length_map] at this
  exact this
theorem setR_size {w : World} {h : Heap} {a : Addr} {ns : List Int} {n : Nat} (R : SetR w h a (fun j => decide (j ∈ ns)) n) {lo : Int} {m : Nat} (hb : ∀ x ∈ ns, lo ≤ x ∧ x < lo + m) : n ≤ m := by
  obtain ⟨o, es, ep, t, ho, hex, hd, g, nd, hm, _, _, hn, _⟩ := R
  have := nodup_win (m := m) nd fun x hx => hb x (of_decide_eq_true ((hm x).mpr hx))
  rw [List.length_map, Array.length_toList] at this
  omega
def tSrtSet (K : PySem.W.Frag) (te : TE) : TE := fun σ H Q => te σ H fun x H1 => ∃ (l : Addr) (ns : List Int) (lo : Int), x = .ref l ∧ SqL K H1 l (ns.map V.int) ∧ ns.length ≤ 4000 ∧ (∀ x ∈ ns, lo ≤ x ∧ x < lo + 60) ∧
  ∀ (ms : List Int) (p : Addr), ms.Pairwise (· < ·) → (∀ k, k ∈ ms ↔ k ∈ ns) → H1 p = none → Q (.ref p) (upd H1 p (.lst (ms.map V.int)))
/-- sorted(set(e)): e's value goes through both calls -/
theorem both_calls {X : Cx} {a : Expr} {te : TE} {p p2 q pos : Pos} {pins : List (Addr × Obj)} {σ : L2.St} {H : Hp} {s : Shared} {R : VK} {F : Value → Shared → Prop} (hg : Gl X "sorted") (hm : X.mg "sorted" = none) (hg2 : Gl X "set") (hm2 : X.mg "set" = none) (ha : PE X a te)
    (one : starEach [a] X.env = (false, eval a X.env) :: starEach [] X.env) (I : Inv X pins σ H s) (h : te σ H R)
    (go : ∀ v s1 x H1, Inv X pins σ H1 s1 → RelV x v → R x H1 → wpAny (model X.prog X.w) X.A (call (.type "set") [v]) (fun u s2 => wpAny (model X.prog X.w) X.A (call (.builtin "sorted") [u]) F X.xe s2) X.xe s1) :
    wpAny (model X.prog X.w) X.A (eval (.Call (.Name "sorted" p) [.Call (.Name "set" p2) [a] [] q] [] pos) X.env) F X.xe s := by
  have inner : wpAny (model X.prog X.w) X.A (eval (.Call (.Name "set" p2) [a] [] q) X.env) (fun u s2 => wpAny (model X.prog X.w) X.A (call (.builtin "sorted") [u]) F X.xe s2) X.xe s :=
    Call_ (ld_blt I hg2 hm2 boot_set (callWith_type1 (args_cons (thn (ha.run pins s σ H R I h) fun v s1 ⟨x, H1, I1, r, t⟩ => args_nil (go v s1 x H1 I1 r t)) one) one rfl))
  exact Call_ (ld_blt I hg hm boot_sorted (callWith_builtin1 (args_cons (thn inner fun _ _ k => args_nil k) rfl) rfl rfl))
theorem pe_srtSet_K {X : Cx} {K : PySem.W.Frag} {a : Expr} {te : TE} {p p2 q pos : Pos} (hg : Gl X "sorted") (hm : X.mg "sorted" = none) (hg2 : Gl X "set") (hm2 : X.mg "set" = none) (ha : PE X a te) (h : X.K = K := by rfl) (hc : X.calm = true := by rfl)
    (one : starEach [a] X.env = (false, eval a X.env) :: starEach [] X.env := by rfl) : PE X (.Call (.Name "sorted" p) [.Call (.Name "set" p2) [a] [] q] [] pos) (tSrtSet K te) where
  run pins s σ H Q I t := by
    subst h
    refine both_calls hg hm hg2 hm2 ha one I t ?_
    rintro v s1 _ H1 I1 r ⟨l, ns, lo, rfl, sq, few, win, fin⟩
    obtain rfl : v = .ref l := r
    obtain ⟨its, rv, lst, _⟩ := I1.list sq
    refine call_set_listI ns (I1.ok.hd hc) lst.isList (by simpa using intsAre_of rv) (by unfold scanBound; omega) fun h2 tk c set _ kp => ?_
    have c60 : c ≤ 60 := setR_size set win
    have I2 : Inv X pins σ H1 { s1 with heap := h2, toks := tk } := I1.kept kp
    refine sorted_set (s := { s1 with heap := h2, toks := tk }) set (I2.ok.hd hc) (by omega) fun s3 p out _ ms kp3 gens os new obj iv asc mem len => ?_
    have free : H1 p = none := I2.hok.fresh new
    have fits : (ms.map V.int).length ≤ sizeLine := small (by rw [List.length_map, len]; omega)
    have kp4 : ∀ b o, h2.get? b = some o → s3.heap.get? b = some o := kp3
    have J := I2.call (h' := s3.heap) (g' := s3.gens) (d' := s3.drawn) (t' := s3.toks) (ch := []) (H' := upd H1 p (.lst (ms.map V.int))) (Un.laid kp4 new free) (I2.hok.laid kp4 new ⟨fits, _, _, vals_of_ints iv, obj⟩) (gens ▸ I2.bare) nofun
    have same : s3 = { s1 with heap := s3.heap, gens := s3.gens, drawn := s3.drawn, toks := s3.toks } := by
      rw [show s1.os = s3.os from os.symm]
    exact same ▸ ⟨.ref p, _, J, rfl, fin ms p asc (fun k => (mem k).trans decide_eq_true_iff) free⟩
end KP

/-! part KL1 -/
set_option Elab.async false
set_option linter.all false
set_option maxRecDepth 100000
set_option maxHeartbeats 4000000
/-! The law's defs: the mill, a draw, a row. -/
namespace KP
open PySem PySem.Spec PyProof.Rows L2
/-- the mill stands -/
def Mok (a : Addr) (H : Hp) : Prop := ∃ g x : Int, H a = some (.lst [.int g, .int x])
theorem Mok.mono {a : Addr} {H H' : Hp} (h : Mok a H) (r : R (Mil a) H H') : Mok a H' := by
  obtain ⟨g, x, h⟩ := h
  exact r.mill h
theorem Mok.ex {a : Addr} {H H' : Hp} (h : Mok a H) (r : Ex H H') : Mok a H' := by
  obtain ⟨g, x, h⟩ := h
  exact ⟨g, x, r a _ h⟩
theorem Mok.ne {a : Addr} {H : Hp} (h : Mok a H) : H a ≠ none := by
  obtain ⟨g, x, h⟩ := h
  exact nn h
theorem mil_M {a : Addr} {H : Hp} (h : Mok a H) : ∀ b u, Mil a b u → H b ≠ none ∧ ¬ NoG b := fun b u hb => ⟨by rw [hb.1]; exact h.ne, fun z => z⟩
/-- an int of which something is known -/
abbrev EI (M : MM) (te : TE) (σ : L2.St) (H : Hp) (A : Int → Prop) : Prop := Ev M te σ H fun v _ => ∃ i, v = .int i ∧ A i
/-- data of which something is known -/
abbrev EQ (K : PySem.W.Frag) (M : MM) (te : TE) (σ : L2.St) (H : Hp) (A : PyData → Prop) : Prop := Ev M te σ H fun v H2 => ∃ d, It K H2 v d ∧ A d
section
variable {K : PySem.W.Frag} {M : MM} {σ : L2.St} {H H' : Hp} {ta tb te tx tl td ty tv : TE} {t u : TT} {v x y z : V} {d e : PyData} {P P1 P2 P3 : V → Hp → Prop} {ds es : List PyData} {i j : Int} {D : Ends} {tz : TS} {A B : Int → Prop} {AD BD : PyData → Prop}
theorem stb_i : Stb M (fun v _ => ∃ i, v = .int i ∧ A i) := fun _ _ _ _ h => h
theorem stb_q : Stb M (fun v H2 => ∃ d, It K H2 v d ∧ AD d) := fun _ _ _ r ⟨d, h, a⟩ => ⟨d, h.mono r, a⟩
theorem ei_d (h : ED K M te σ H (.int i)) (ha : A i) : EI M te σ H A := h.imp fun v H2 _ p => ⟨i, it_int p, ha⟩
theorem eq_i (h : EI M te σ H A) : EQ K M te σ H (fun d => ∃ i, d = .int i ∧ A i) := h.imp fun v H2 _ ⟨i, e, ha⟩ => ⟨.int i, e ▸ .int i, i, rfl, ha⟩
theorem eq_d (h : ED K M te σ H d) (ha : AD d) : EQ K M te σ H AD := h.imp fun v H2 _ p => ⟨d, p, ha⟩
theorem ei_I0 {g : Int → Int → Int} {C : Int → Prop} (ha : EI M ta σ H A) (hb : EI M tb σ H B) (hc : ∀ i j, A i → B j → C (g i j)) : EI M (tOp (rI0 fun i j => .int (g i j)) ta tb) σ H C :=
  ev_op ha stb_i hb fun x y H1 r ⟨i, e1, a⟩ ⟨j, e2, b⟩ Q q => ⟨i, j, e1, e2, q _ H1 (R.refl _) ⟨_, rfl, hc i j a b⟩⟩
theorem ed_Ig {C : Int → Int → Prop} {g : Int → Int → Int} (ha : ED K M ta σ H (.int i)) (hb : ED K M tb σ H (.int j)) (hc : C i j) : ED K M (tOp (rI C fun i j => .int (g i j)) ta tb) σ H (.int (g i j)) := ed_I ha hb hc
abbrev rAbs : List V → Hp → VK → Prop := fun xs H Q => ∃ i, xs = [.int i] ∧ Q (.int (if i < 0 then -i else i)) H
abbrev rInt : List V → Hp → VK → Prop := fun xs H Q => (∃ i, xs = [.int i] ∧ Q (.int i) H) ∨ ∃ k, xs = [.bl k] ∧ Q (.int (if k then 1 else 0)) H
theorem ed_abs (h : ED K M te σ H (.int i)) : ED K M (tCB rAbs (tCons te tNil)) σ H (.int i.natAbs) := fun H1 r Q k => h H1 r _ fun v H2 r2 p => by
  refine ⟨i, by rw [it_int p], ?_⟩
  have e : (if i < 0 then -i else i) = (i.natAbs : Int) := by split <;> omega
  rw [e]
  exact k _ H2 r2 (.int _)
theorem ed_int (h : ED K M te σ H (.int i)) : ED K M (tCB rInt (tCons te tNil)) σ H (.int i) := fun H1 r Q k => h H1 r _ fun v H2 r2 p => .inl ⟨i, by rw [it_int p], k _ H2 r2 (.int _)⟩
theorem ei_int (h : EI M te σ H A) : EI M (tCB rInt (tCons te tNil)) σ H A := fun H1 r Q k => h H1 r _ fun v H2 r2 ⟨i, e, a⟩ => .inl ⟨i, by rw [e], k _ H2 r2 ⟨i, rfl, a⟩⟩
theorem ed_m61 : ED K M (tOp (rI0 fun i j => .int (i - j)) (tOp (rI CPow fun i j => .int (i ^ j.toNat)) (tC (.int 2)) (tC (.int 61))) (tC (.int 1))) σ H (.int 2305843009213693951) :=
  ed_is (ed_I0 (g := fun i j => i - j) (ed_I (g := fun i j => i ^ j.toNat) ed_i ed_i ⟨by decide, by decide, by decide⟩) ed_i) (congrArg PyData.int (by decide))
/-- the walk over a list of data that stays, wherever it lies -/
theorem src_sq {a : Addr} {xs : List V} (h : EV Non tl σ H (.ref a)) (hs : SqL K H a xs) (hall : ItAll K H xs ds) : Src Non (fun b => b = a) (iList K tl) σ H ds.length (YD K ds) := by
  rcases hs with hs | hs
  · have hne : H a ≠ none := by
      rcases hs with hs | ⟨o, hs⟩
      · exact nn hs
      · exact nn hs
    exact src_lv h (fun _ z => z) (.inl hs) hne hall
  · intro H1 r Rk k
    refine h H1 r _ fun p H2 r2 hp => ?_
    subst hp
    have hq : ∀ {H'}, SqL K H' a xs := fun {H'} => .inr hs
    refine ⟨a, rfl, ⟨xs, hq⟩, k _ H2 (fun _ => False) r2 (fun _ h => h.elim) fun M' H3 hm r3 => ?_⟩
    refine ⟨fun i hi => ?_, xs, hq, by rw [hall.len]; exact Nat.le_refl _⟩
    have hi' : i < xs.length := by rw [hall.len]; exact hi
    refine ⟨⟨xs, xs[i], hq, List.getElem?_eq_getElem hi'⟩, fun v H4 q => ?_⟩
    obtain ⟨rfl, f⟩ := q
    obtain ⟨d, hd, hv⟩ := hall.get' (f xs hq)
    exact ⟨ex_rfl, d, hd, (hv.mono (r.trans r2)).mono r3⟩
theorem ed_lenQ {a : Addr} {xs : List V} (h : EV Non te σ H (.ref a)) (hs : SqL K H a xs) : ED K Non (tCB (rLen K) (tCons te tNil)) σ H (.int xs.length) := ed_lenV h (fun _ z => z) hs
end
theorem mill_step {g c : Int} {a n : Nat} (g0 : 0 ≤ g) (g1 : g.natAbs < 2 ^ a) (c1 : c.natAbs < 2 ^ n) : (2 * (c.natAbs : Int) + 7).natAbs < 2 ^ (n + 3) ∧ 0 ≤ g * (2 * (c.natAbs : Int) + 7) + (c.natAbs : Int) ∧ (g * (2 * (c.natAbs : Int) + 7) + (c.natAbs : Int)).natAbs < 2 ^ (a + (n + 3)) := by
  obtain ⟨G, rfl⟩ := Int.eq_ofNat_of_zero_le g0
  have e0 : 2 ^ (n + 3) = 8 * 2 ^ n := by rw [Nat.pow_add]; omega
  have p1 : 1 ≤ 2 ^ n := Nat.one_le_two_pow
  have hF : 2 * c.natAbs + 7 < 2 ^ (n + 3) := by omega
  have e1 : ((G : Nat) : Int) * (2 * (c.natAbs : Int) + 7) + (c.natAbs : Int) = ((G * (2 * c.natAbs + 7) + c.natAbs : Nat) : Int) := by
    push_cast
    rfl
  have e2 : (2 * (c.natAbs : Int) + 7) = ((2 * c.natAbs + 7 : Nat) : Int) := by push_cast; rfl
  refine ⟨by rw [e2]; exact hF, by rw [e1]; omega, ?_⟩
  rw [e1]
  show G * (2 * c.natAbs + 7) + c.natAbs < 2 ^ (a + (n + 3))
  have hG : G + 1 ≤ 2 ^ a := g1
  have h1 : (G + 1) * (2 * c.natAbs + 7) ≤ 2 ^ a * (2 * c.natAbs + 7) := Nat.mul_le_mul_right _ hG
  have h2 : 2 ^ a * (2 * c.natAbs + 7) ≤ 2 ^ a * 2 ^ (n + 3) := Nat.mul_le_mul_left _ (Nat.le_of_lt hF)
  rw [Nat.pow_add 2 a (n + 3)]
  rw [Nat.succ_mul] at h1
  omega
theorem fmod_in {i j : Int} (h : 0 < j) : 0 ≤ i.fmod j ∧ i.fmod j < j := ⟨Int.fmod_nonneg_of_pos i h, Int.fmod_lt_of_pos i h⟩
/-- an int drawn: anything in [0, n) -/
def RetG (a : Addr) (n : Int) (H : Hp) (Q : VK) : Prop := ∀ i H2, R (Mil a) H H2 → Mok a H2 → 0 ≤ i → i < n → Q (.int i) H2
section
variable {P : Program} {w : World} {K : PySem.W.Frag} {mg : Str → Option Value} {base : Heap}
-- _law_mill: slots _law_script=0 _law_great_here=1 _law_mixed=2 _law_cell=3
abbrev s__law_mill : Stmt := topS 33
abbrev N__law_mill : List Str := ["_law_script", "_law_great_here", "_law_mixed", "_law_cell"]
theorem sc__law_mill : FnScope N__law_mill ["_law_script"] (defScope s__law_mill) := ⟨rfl, rfl, rfl, by decide +kernel, rfl, by decide +kernel, by decide +kernel⟩
def sp_mill (K : PySem.W.Frag) : Sp := fun vs H Q _ => ∃ (a : Addr) (ns : List Int) (n : Nat), vs = [.ref a] ∧ SqL K H a (ns.map .int) ∧ ns.length ≤ 63 ∧ n ≤ 1048576 ∧ (∀ c ∈ ns, c.natAbs < 2 ^ n) ∧
  ∀ p H2, H p = none → Ex H H2 → Mok p H2 → Q (.ref p) H2
theorem cl__law_mill (B : GB mg) (DF : Df K mg "_law_mill" s__law_mill) : Cl P w K mg base 1 "_law_mill" (sp_mill K) := by
  obtain ⟨f, fd, F, g⟩ := DF.ex
  refine ⟨f, fd, ["_law_script"], F.ok sc__law_mill (fun vs H Q E h => ?_) (fun cdv A outer s H vs Q E hr h => ?_), g, F.kp, F.binds fun _ _ _ _ _ _ us hl => match us, hl with | [_], _ => rfl⟩
  · obtain ⟨a, ns, n, rfl, _⟩ := h
    rfl
  · obtain ⟨a, ns, n, rfl, hs, hl, hn, hb, k⟩ := h
    have nd := sc__law_mill.nd
    refine ⟨_, (pss_cons (ps_set (i := 1) nd rfl (.inl rfl) pe_int)
      (pss_cons (ps_set (i := 2) nd rfl (.inl rfl) (pe_op op_add pe_int (pe_callB (call_len_K (K := K)) (by rfl) B.len boot_len (pa_cons (pv 0) pa_nil))))
      (pss_cons (ps_for PassesOwn.never rfl (pi_list_K (K := K) (pv 0)) (pg_name (i := 3) nd rfl (.inl rfl))
        (pss_cons (ps_set (i := 1) nd rfl (.inl rfl) (pe_op op_add (pe_op op_mulX (pv 1) (pe_op op_add (pe_op op_mul pe_int (pe_callB call_abs (by rfl) B.abs boot_abs (pa_cons (pv 3) pa_nil))) pe_int)) (pe_callB call_abs (by rfl) B.abs boot_abs (pa_cons (pv 3) pa_nil))))
        (pss_one (ps_set (i := 2) nd rfl (.inl rfl) (pe_op op_modN (pe_callTy call_int1 (by rfl) B.int boot_int (pa_cons (pe_op op_add (pe_op op_add (pe_op op_mul (pv 2) pe_int) (pe_op op_mul (pv 3) pe_int)) pe_int) pa_nil)) (pe_op op_sub (pe_op op_pow pe_int pe_int) pe_int))))))
      (pss_one (ps_ret (pe_lst (pa_cons (pv 1) (pa_cons (pv 2) pa_nil)))))))), ?_⟩
    refine q_asg (M := Non) (P := fun v _ => v = .int 0) (ev_c) fun v0 H1 r1 e1 => ?_
    subst e1
    refine q_asg (M := Non) (P := fun v H => It K H v (.int (29 + ns.length))) (ed_is (ed_I0 (g := fun i j => i + j) ed_i (ed_lenQ (xs := ns.map .int) (ev_var (k := 0) rfl) (sql_mono r1 (fun _ z => z) hs))) (by rw [List.length_map])) fun v1 H2 r2 e2 => ?_
    obtain rfl := it_int e2
    have r02 := r1.trans r2
    refine q_for (M := Non) (M' := Non) (src_sq (ev_var (k := 0) rfl) (sql_mono r02 (fun _ z => z) hs) (ItAll.ofInts ns)) (fun b u' hb => hb.elim) fun H3 r3 => ?_
    refine ⟨fun i σ' H' => ∃ (g x : Int) (o3 : Option V), σ' = [some (.ref a), some (.int g), some (.int x), o3] ∧ 0 ≤ g ∧ g.natAbs < 2 ^ ((n + 3) * i) ∧ 0 ≤ x ∧ x < 2305843009213693951, ⟨0, 29 + (ns.length : Int), _, rfl, by omega, by simp, by omega, by omega⟩, fun i σ' H' hi r' hP v H4 e4 hy => ?_, fun σ' H' r' hP => ?_⟩
    · obtain ⟨g, x, o3, rfl, g0, g1, x0, x1⟩ := hP
      obtain ⟨c, hc, hv⟩ := yd_map hy
      obtain rfl := it_int hv
      have hcb := hb c (List.mem_of_getElem? hc)
      obtain ⟨f1, f2, f3⟩ := mill_step g0 g1 hcb
      have hi63 : i < 63 := by rw [List.length_map] at hi; omega
      show tSeq _ _ _ ([some (.ref a), some (.int g), some (.int x), some (.int c)] : L2.St) H4
      have aI : (n + 3) * i + (n + 3) ≤ 134217728 := by
        have h1 : (n + 3) * i ≤ 1048579 * 62 := Nat.mul_le_mul (by omega) (by omega)
        omega
      refine q_asg (M := Non) (P := fun v H => It K H v (.int (g * (2 * (c.natAbs : Int) + 7) + (c.natAbs : Int)))) (ed_I0 (g := fun i j => i + j) (ed_I (g := fun i j => i * j) (ed_var (k := 1) rfl (.int _)) (ed_I0 (g := fun i j => i + j) (ed_I (g := fun i j => i * j) ed_i (ed_abs (ed_var (k := 3) rfl (.int c))) (.inl (by decide))) ed_i) (mulx_ok g1 f1 aI)) (ed_abs (ed_var (k := 3) rfl (.int c)))) fun v5 H5 r5 e5 => ?_
      obtain rfl := it_int e5
      refine s_asg (M := Non) (P := fun v H => It K H v (.int ((x * 1099511628211 + c * 40503 + 71).fmod 2305843009213693951))) (ed_I (C := fun _ j => j ≠ 0) (g := fun i j => i.fmod j) (ed_int (ed_I0 (g := fun i j => i + j) (ed_I0 (g := fun i j => i + j) (ed_I (C := CMul) (g := fun i j => i * j) (ed_var (k := 2) rfl (.int x)) ed_i (.inr (by decide))) (ed_I (C := CMul) (g := fun i j => i * j) (ed_var (k := 3) rfl (.int c)) ed_i (.inr (by decide)))) ed_i)) ed_m61 (by decide)) fun v6 H6 r6 e6 => ?_
      obtain rfl := it_int e6
      have fm := fmod_in (i := x * 1099511628211 + c * 40503 + 71) (j := 2305843009213693951) (by decide)
      refine ⟨(r'.trans (R.of e4)).trans (r5.trans r6), _, _, _, rfl, f2, ?_, fm.1, fm.2⟩
      rw [Nat.mul_succ]
      exact f3
    · obtain ⟨g, x, o3, rfl, g0, g1, x0, x1⟩ := hP
      refine s_retL (K := K) (M := Non) (ds := [.int g, .int x]) (el_lst (ea2 (ed_var (k := 1) rfl (.int _)) (ed_var (k := 2) rfl (.int _))) (show 2 ≤ 100000 by decide)) fun p xs H5 hp r5 hx hall => ?_
      obtain ⟨w1, w2, rfl, g1, g2⟩ := ia2 hall
      obtain rfl := it_int g1
      obtain rfl := it_int g2
      have r05 := (r02.trans r3).trans r'
      exact k p H5 (r05.free hp) (r05.trans r5).ex ⟨g, x, hx⟩

-- _law_grind: slots _law_mill_here=0 _law_many=1 _law_found=2
abbrev s__law_grind : Stmt := topS 34
abbrev N__law_grind : List Str := ["_law_mill_here", "_law_many", "_law_found"]
theorem sc__law_grind : FnScope N__law_grind ["_law_mill_here", "_law_many"] (defScope s__law_grind) := ⟨rfl, rfl, rfl, by decide +kernel, rfl, by decide +kernel, by decide +kernel⟩
def sp_grind : Sp := fun vs H Q _ => ∃ (a : Addr) (n : Int), vs = [.ref a, .int n] ∧ Mok a H ∧ 0 < n ∧ n < 1073741824 ∧ RetG a n H Q
theorem cl__law_grind (B : GB mg) (DF : Df K mg "_law_grind" s__law_grind) : Cl P w K mg base 1 "_law_grind" sp_grind := by
  obtain ⟨f, fd, F, g⟩ := DF.ex
  refine ⟨f, fd, ["_law_mill_here", "_law_many"], F.ok sc__law_grind (fun vs H Q E h => ?_) (fun cdv A outer s H vs Q E hr h => ?_), g, F.kp, F.binds fun _ _ _ _ _ _ us hl => match us, hl with | [_, _], _ => rfl⟩
  · obtain ⟨a, n, rfl, _⟩ := h
    rfl
  · obtain ⟨a, n, rfl, ⟨g, x, hm⟩, n0, n1, k⟩ := h
    have nd := sc__law_grind.nd
    refine ⟨_, (pss_cons (ps_if (pt_cmpR op_gt (pe_ix (ix_K (K := K)) (pv 0) pe_int (fun _ _ => rfl)) pe_int (nomark _)) (pss_cons (ps_set (i := 2) nd rfl (.inl rfl) (pe_op op_modN (pe_callTy call_int1 (by rfl) B.int boot_int (pa_cons (pe_ix (ix_K (K := K)) (pv 0) pe_int (fun _ _ => rfl)) pa_nil)) (pv 1)))
        (pss_cons (ps_asg (pe_op op_fdivN (pe_ix (ix_K (K := K)) (pv 0) pe_int (fun _ _ => rfl)) (pv 1)) (pg_sub (pv 0) pe_int set_list))
        (pss_one (ps_ret (pv 2))))) pss_nil)
      (pss_cons (ps_asg (pe_op op_modN (pe_callTy call_int1 (by rfl) B.int boot_int (pa_cons (pe_op op_add (pe_op op_mul (pe_ix (ix_K (K := K)) (pv 0) pe_int (fun _ _ => rfl)) pe_int) pe_int) pa_nil)) (pe_op op_sub (pe_op op_pow pe_int pe_int) pe_int)) (pg_sub (pv 0) pe_int set_list))
      (pss_one (ps_ret (pe_op op_modN (pe_callTy call_int1 (by rfl) B.int boot_int (pa_cons (pe_op op_fdivN (pe_ix (ix_K (K := K)) (pv 0) pe_int (fun _ _ => rfl)) pe_int) pa_nil)) (pv 1)))))), ?_⟩
    have hn : n.natAbs < 1073741824 := by omega
    have eG : ∀ {H' σ} (g x : Int), H' a = some (.lst [.int g, .int x]) → σ[0]? = some (some (V.ref a)) → ED K Non (tOp (rIx K) (tVar 0) (tC (.int 0))) σ H' (.int g) := fun g x h e => ed_li (ns := [g, x]) (k := 0) (ev_var e) (fun _ z => z) h ed_i rfl
    have eX : ∀ {H' σ} (g x : Int), H' a = some (.lst [.int g, .int x]) → σ[0]? = some (some (V.ref a)) → ED K Non (tOp (rIx K) (tVar 0) (tC (.int 1))) σ H' (.int x) := fun g x h e => ed_li (ns := [g, x]) (k := 1) (ev_var e) (fun _ z => z) h ed_i rfl
    refine q_when (M := Non) (b := decide (0 < g)) (et_test (ed_B0 (g := fun i j => decide (j < i)) (eG g x hm rfl) ed_i)) (fun hb H1 r1 => ?_) fun hb H1 r1 => ?_
    · have hm1 := r1.keep (fun z => z) hm
      refine q_asg (M := Non) (P := fun v H => It K H v (.int (g.fmod n))) (ed_I (C := fun _ j => j ≠ 0) (g := fun i j => i.fmod j) (ed_int (eG g x hm1 rfl)) (ed_var (k := 1) rfl (.int n)) (by omega)) fun v2 H2 r2 e2 => ?_
      obtain rfl := it_int e2
      have hm2 := r2.keep (fun z => z) hm1
      refine q_setL (M := Non) (k := 0) (P := fun v H => It K H v (.int (g.fdiv n))) hm2 (fun _ z => z) (ed_I (C := CDivN) (g := fun i j => i.fdiv j) (eG g x hm2 rfl) (ed_var (k := 1) rfl (.int n)) ⟨by omega, hn⟩) stb_d (ev_var (k := 0) rfl) (ed_i (K := K)) (show 0 < 2 by decide) fun v3 H3 r3 e3 hm3 => ?_
      obtain rfl := it_int e3
      refine s_ret (M := Non) (P := fun v H => It K H v (.int (g.fmod n))) (ed_var (k := 2) rfl (.int _)) fun v4 H4 r4 e4 => ?_
      obtain rfl := it_int e4
      have fm := fmod_in (i := g) n0
      have rr : R (Mil a) H (upd H3 a (.lst [.int (g.fdiv n), .int x])) := (r1.trans (r2.trans r3)).non.chg hm3 mt_l mt_l ⟨rfl, g, x, rfl⟩ ⟨rfl, _, _, rfl⟩
      exact k _ H4 (rr.trans r4.non) ⟨_, _, r4.keep (fun z => z) upd_same⟩ fm.1 fm.2
    · have hm1 := r1.keep (fun z => z) hm
      refine q_setL (M := Non) (k := 1) (P := fun v H => It K H v (.int ((x * 6364136223846793005 + 1442695040888963407).fmod 2305843009213693951))) hm1 (fun _ z => z) (ed_I (C := fun _ j => j ≠ 0) (g := fun i j => i.fmod j) (ed_int (ed_I0 (g := fun i j => i + j) (ed_I (C := CMul) (g := fun i j => i * j) (eX g x hm1 rfl) ed_i (.inr (by decide))) ed_i)) ed_m61 (by decide)) stb_d (ev_var (k := 0) rfl) (ed_i (K := K)) (show 1 < 2 by decide) fun v3 H3 r3 e3 hm3 => ?_
      obtain rfl := it_int e3
      generalize (x * 6364136223846793005 + 1442695040888963407).fmod 2305843009213693951 = x'
      have hm4 : (upd H3 a (.lst ([.int g, .int x].set 1 (.int x')))) a = some (.lst [.int g, .int x']) := upd_same
      refine s_ret (M := Non) (P := fun v H => It K H v (.int ((x'.fdiv 32749).fmod n))) (ed_I (C := fun _ j => j ≠ 0) (g := fun i j => i.fmod j) (ed_int (ed_I (C := CDivN) (g := fun i j => i.fdiv j) (eX g x' hm4 rfl) ed_i ⟨by decide, by decide⟩)) (ed_var (k := 1) rfl (.int n)) (by omega)) fun v4 H4 r4 e4 => ?_
      obtain rfl := it_int e4
      have fm := fmod_in (i := x'.fdiv 32749) n0
      have rr : R (Mil a) H (upd H3 a (.lst [.int g, .int x'])) := (r1.trans r3).non.chg hm3 mt_l mt_l ⟨rfl, g, x, rfl⟩ ⟨rfl, _, _, rfl⟩
      exact k _ H4 (rr.trans r4.non) ⟨_, _, r4.keep (fun z => z) upd_same⟩ fm.1 fm.2
end
section
variable {K : PySem.W.Frag} {σ : L2.St} {H H' : Hp} {ta tb te : TE} {a : Addr} {n : Int} {E : XK}
theorem ei_grind (ha : EV (Mil a) ta σ H (.ref a)) (hb : ED K (Mil a) tb σ H (.int n)) (hm : Mok a H) (n0 : 0 < n) (n1 : n < 1073741824) : EI (Mil a) (tCall sp_grind [] E (tCons ta (tCons tb tNil))) σ H (fun i => 0 ≤ i ∧ i < n) :=
  ev_call (va_cons ha stb_v (va_cons hb stb_d va_nil)) fun vs H1 r hvs Q k => by
    obtain ⟨_, _, rfl, rfl, _, _, rfl, q, rfl⟩ := hvs
    obtain rfl := it_int q
    exact ⟨a, n, rfl, hm.mono r, n0, n1, fun i H2 r2 _ h0 h1 => k _ H2 r2 ⟨i, rfl, h0, h1⟩⟩
/-- the bound itself only bounded -/
theorem ei_grindN {A : Int → Prop} (ha : EV (Mil a) ta σ H (.ref a)) (hb : EI (Mil a) tb σ H A) (hm : Mok a H) (hA : ∀ n, A n → 0 < n ∧ n < 1073741824) : EI (Mil a) (tCall sp_grind [] E (tCons ta (tCons tb tNil))) σ H (fun i => ∃ n, A n ∧ 0 ≤ i ∧ i < n) :=
  ev_call (va_cons ha stb_v (va_cons hb stb_i va_nil)) fun vs H1 r hvs Q k => by
    obtain ⟨_, _, rfl, rfl, _, _, rfl, ⟨n, rfl, hn⟩, rfl⟩ := hvs
    exact ⟨a, n, rfl, hm.mono r, (hA n hn).1, (hA n hn).2, fun i H2 r2 _ h0 h1 => k _ H2 r2 ⟨i, rfl, n, hn, h0, h1⟩⟩
end
end KP

/-! part KL2 -/
set_option Elab.async false
set_option linter.all false
set_option maxRecDepth 100000
set_option maxHeartbeats 4000000
/-! The law's defs: a row, a web. -/
namespace KP
open PySem PySem.Spec PyProof.Rows L2
section
variable {K : PySem.W.Frag} {M : MM} {σ : L2.St} {H H' : Hp} {ta tb te tx tl td ty tv : TE} {t u : TT} {v x y z : V} {d e : PyData} {P P1 P2 P3 : V → Hp → Prop} {ds es : List PyData} {i j : Int} {D : Ends} {tz : TS} {A B : Int → Prop} {AD BD : PyData → Prop} {n : Nat} {G : Addr → Prop}
abbrev rIns : V → List V → Hp → VK → Prop := fun x vs H Q => ∃ (l : Addr) (xs : List V) (i : Int) (y : V), x = .ref l ∧ vs = [.int i, y] ∧ H l = some (.lst xs) ∧ xs.length < sizeLine ∧ 0 ≤ i ∧ i < 2 ^ 63 ∧
    Q .non (upd H l (.lst (xs.take i.toNat ++ [y] ++ xs.drop i.toNat)))
/-- l.insert(i, e) -/
theorem s_ins {l : Addr} {xs : List V} (hl : H l = some (.lst xs)) (nm : ∀ u, ¬ M l u) (ha : EV M ta σ H (.ref l)) (hi : EI M tb σ H A) (h : Ev M te σ H P) (sP : Stb M P) (hA : ∀ i, A i → 0 ≤ i ∧ i < 100000) (hz : xs.length < 100000)
    (c : ∀ k v H1, R M H H1 → P v H1 → H1 l = some (.lst xs) → D.nx σ (upd H1 l (.lst (xs.take k ++ [v] ++ xs.drop k)))) : tDrop (tBM K "list" rIns ta (tCons tb (tCons te tNil))) D σ H := ha H (R.refl H) _ fun v H1 r e => by
  subst e
  have h1 := r.keep (nm _) hl
  refine ⟨.inl ⟨rfl, xs, .inl (.inl h1)⟩, hi H1 r _ fun w H2 r2 ⟨i, e2, a⟩ => h H2 (r.trans r2) _ fun z H3 r3 p => ?_⟩
  subst e2
  obtain ⟨i0, i1⟩ := hA i a
  have h3 := (r2.trans r3).keep (nm _) h1
  exact ⟨l, xs, i, z, rfl, rfl, h3, smallL hz, i0, by omega, c i.toNat z H3 ((r.trans r2).trans r3) p h3⟩
theorem src_tupQ (h : EQ K M tl σ H (fun d => ∃ ds, d = .tuple ds ∧ ds.length = n ∧ ∀ d ∈ ds, AD d)) : Src M NoG (iTup K tl) σ H n (fun _ v H => ∃ d, It K H v d ∧ AD d) := fun H1 r Rk k => h H1 r _ fun v H2 r2 ⟨d, p, ds, e, hl, hA⟩ => by
  subst e
  obtain ⟨a, xs, rfl, hs, hall⟩ := it_tup p
  refine ⟨a, rfl, ⟨xs, hs⟩, k _ H2 (fun _ => False) r2 (fun _ h => h.elim) fun M' H3 _ r3 => ⟨fun i hi => ?_, xs, sqt_mono r3 hs, by rw [hall.len, hl]; exact Nat.le_refl _⟩⟩
  have hi' : i < xs.length := by rw [hall.len, hl]; exact hi
  refine ⟨⟨xs, xs[i], sqt_mono r3 hs, List.getElem?_eq_getElem hi'⟩, fun v H4 q => ?_⟩
  obtain ⟨rfl, f⟩ := q
  obtain ⟨d, hd, hv⟩ := hall.get' (f xs (sqt_mono r3 hs))
  exact ⟨ex_rfl, d, hv.mono r3, hA d (List.mem_of_getElem? hd)⟩
theorem eq_tup2 (ha : ED K M ta σ H d) (hb : EQ K M tb σ H AD) : EQ K M (tTup (tCons ta (tCons tb tNil))) σ H (fun x => ∃ e, x = .tuple [d, e] ∧ AD e) := fun H1 r Q k => ha H1 r _ fun v H2 r2 p => hb H2 (r.trans r2) _ fun w H3 r3 ⟨e, q, a⟩ =>
  ⟨small (show 2 ≤ 100000 by decide), fun l hl => k _ _ ((r2.trans r3).new hl) ⟨_, .tup (.inl (.inl upd_same)) (.cons ((p.mono r3).new hl) (.cons (q.new hl) .nil)), e, rfl, a⟩⟩
theorem eq_tupP {P : List PyData → Prop} (h : ELP K M te σ H P) : EQ K M (tCB (rTuple K) (tCons te tNil)) σ H (fun d => ∃ ds, d = .tuple ds ∧ P ds) := (ed_tupP h).imp fun v H2 _ ⟨ds, p, q⟩ => ⟨_, p, ds, rfl, q⟩
theorem eq_imp (h : EQ K M te σ H AD) (f : ∀ d, AD d → BD d) : EQ K M te σ H BD := h.imp fun v H2 _ ⟨d, p, a⟩ => ⟨d, p, f d a⟩
theorem ei_imp (h : EI M te σ H A) (f : ∀ i, A i → B i) : EI M te σ H B := h.imp fun v H2 _ ⟨i, p, a⟩ => ⟨i, p, f i a⟩
/-- tests over what is only partly known -/
theorem en_of {b : Bool} (h : EvT M t σ H b) : EvN M t σ H := fun H1 r Q k => h H1 r Q fun H2 r2 => k b H2 r2
theorem en_eq (h : EI M ta σ H A) : EvN M (tTest (tOp (rEqD K) ta (tC (.int j)))) σ H := fun H1 r Q k => h H1 r _ fun v H2 r2 ⟨i, e, _⟩ => by
  subst e
  exact ⟨.int i, .int j, .int i, .int j, rfl, rfl, _, rfl, k _ H2 r2⟩
theorem en_and {b : Bool} (h1 : EvT M t σ H b) (h2 : b = true → EvN M u σ H) : EvN M (tAnd t u) σ H := fun H1 r Q q => h1 H1 r _ fun H2 r2 => by
  cases b with
  | true => exact h2 rfl H2 (r.trans r2) Q fun b H3 r3 => q b H3 (r2.trans r3)
  | false => exact q false H2 r2
end
theorem pairs_of {ds : List PyData} {Q : Int × Int → Prop} (h : ∀ d ∈ ds, ∃ p, d = pD p ∧ Q p) : ∃ A : List (Int × Int), ds = A.map pD ∧ ∀ p ∈ A, Q p := by
  induction ds with
  | nil => exact ⟨[], rfl, fun _ z => nomatch z⟩
  | cons d ds ih =>
    obtain ⟨A, e, hA⟩ := ih fun x hx => h x (List.mem_cons_of_mem _ hx)
    obtain ⟨p, rfl, hp⟩ := h d List.mem_cons_self
    refine ⟨p :: A, by rw [e]; rfl, fun q hq => ?_⟩
    rcases List.mem_cons.mp hq with rfl | hq
    · exact hp
    · exact hA q hq
theorem ints_of {ds : List PyData} {Q : Int → Prop} (h : ∀ d ∈ ds, ∃ i, d = .int i ∧ Q i) : ∃ A : List Int, ds = A.map .int ∧ ∀ p ∈ A, Q p := by
  induction ds with
  | nil => exact ⟨[], rfl, fun _ z => nomatch z⟩
  | cons d ds ih =>
    obtain ⟨A, e, hA⟩ := ih fun x hx => h x (List.mem_cons_of_mem _ hx)
    obtain ⟨p, rfl, hp⟩ := h d List.mem_cons_self
    refine ⟨p :: A, by rw [e]; rfl, fun q hq => ?_⟩
    rcases List.mem_cons.mp hq with rfl | hq
    · exact hp
    · exact hA q hq
theorem got_mem {P : Nat → PyData → Prop} {n : Nat} {ds : List PyData} {Q : PyData → Prop} (h : Got (fun _ => true) P n ds) (f : ∀ i d, P i d → Q d) : ds.length = n ∧ ∀ d ∈ ds, Q d := by
  obtain ⟨h1, h2⟩ := h.all
  refine ⟨h1, fun d hd => ?_⟩
  obtain ⟨i, hi⟩ := List.mem_iff_getElem?.mp hd
  exact f i d (h2 i d hi)
/-- a row: m ints in [0, m) -/
def RowOk (m : Nat) (d : PyData) : Prop := ∃ ds, d = .tuple ds ∧ ds.length = m ∧ ∀ e ∈ ds, ∃ k : Nat, e = .int (k : Nat) ∧ k < m
section
variable {P : Program} {w : World} {K : PySem.W.Frag} {mg : Str → Option Value} {base : Heap}
def RetQ (K : PySem.W.Frag) (a : Addr) (AD : PyData → Prop) (H : Hp) (Q : VK) : Prop := ∀ d v H2, R (Mil a) H H2 → It K H2 v d → AD d → Q v H2
-- _law_row: slots _law_mill_here=0 _law_many=1 _law_found=2 _law_x=3
abbrev s__law_row : Stmt := topS 35
abbrev N__law_row : List Str := ["_law_mill_here", "_law_many", "_law_found", "_law_x"]
theorem sc__law_row : FnScope N__law_row ["_law_mill_here", "_law_many"] (defScope s__law_row) := ⟨rfl, rfl, rfl, by decide +kernel, rfl, by decide +kernel, by decide +kernel⟩
def sp_row (K : PySem.W.Frag) : Sp := fun vs H Q _ => ∃ (a : Addr) (m : Nat), vs = [.ref a, .int (m : Nat)] ∧ Mok a H ∧ m ≤ 100 ∧ RetQ K a (RowOk m) H Q
theorem cl__law_row (c__law_grind : Cl P w K mg base 1 "_law_grind" sp_grind) (B : GB mg) (DF : Df K mg "_law_row" s__law_row) : Cl P w K mg base 2 "_law_row" (sp_row K) := by
  obtain ⟨f, fd, F, g⟩ := DF.ex
  refine ⟨f, fd, ["_law_mill_here", "_law_many"], F.ok sc__law_row (fun vs H Q E h => ?_) (fun cdv A outer s H vs Q E hr h => ?_), g, F.kp, F.binds fun _ _ _ _ _ _ us hl => match us, hl with | [_, _], _ => rfl⟩
  · obtain ⟨a, n, rfl, _⟩ := h
    rfl
  · obtain ⟨a, m, rfl, hm, hm1, k⟩ := h
    have nd := sc__law_row.nd
    refine ⟨_, (pss_cons (ps_set (i := 2) nd rfl (.inl rfl) (pe_lst pa_nil))
      (pss_cons (ps_for PassesOwn.never rfl (pi_range1 (by rfl) B.range (pa_cons (pv 1) pa_nil)) (pg_name (i := 3) nd rfl (.inl rfl))
        (pss_one (ps_expr (pe_bm PySem.F.plainAttrs_list PySem.F.slot_list_insert PySem.F.type_list_insert mt_insert (pv 2) (pa_cons (pe_k c__law_grind hr (by decide) (by rfl) (pa_cons (pv 0) (pa_cons (pe_op op_add (pv 3) pe_int) pa_nil))) (pa_cons (pv 3) pa_nil))))))
      (pss_one (ps_ret (pe_callTy (call_tuple_K (K := K)) (by rfl) B.tuple boot_tuple (pa_cons (pv 2) pa_nil)))))), ?_⟩
    refine q_asgL (K := K) (M := Non) (el_lst ea_nil (by decide)) fun l xs H1 hl r1 hx hall => ?_
    cases hall
    have hma : Mok a H1 := hm.ex r1.ex
    have hla : l ≠ a := fun z => hm.ne (z ▸ hl)
    have nm : ∀ u, ¬ Mil a l u := fun u z => hla z.1
    refine q_for (M := Non) (M' := Also (Mil a) l) (src_rng1 (K := K) (n := (m : Nat)) (ea1 (ed_var (k := 1) rfl (.int _))) (by omega) (by omega)) (fun b u' hb => ?_) fun H2 r2 => ?_
    · rcases hb with hb | rfl
      · exact ⟨by rw [hb.1]; exact hma.ne, fun z => z⟩
      · exact ⟨nn hx, fun z => z⟩
    refine ⟨fun i σ' H' => (∃ o3, σ' = [some (.ref a), some (.int (m : Nat)), some (.ref l), o3]) ∧ Mok a H' ∧ ∃ xs ds, H' l = some (.lst xs) ∧ ItAll K H' xs ds ∧ ds.length = i ∧ ∀ e ∈ ds, ∃ k : Nat, e = .int (k : Nat) ∧ k < m, ⟨⟨_, rfl⟩, hma.ex r2.ex, [], [], r2.keep (fun z => z) hx, .nil, rfl, fun _ z => nomatch z⟩, fun i σ' H' hi r' hP v H4 e4 hy => ?_, fun σ' H' r' hP => ?_⟩
    · rw [Int.toNat_natCast] at hi
      obtain ⟨⟨o3, rfl⟩, hm', xs, ds, hx', hall', hlen, hmem⟩ := hP
      subst hy
      have hm4 := hm'.ex e4
      have lx := hall'.len
      show tDrop _ _ ([some (.ref a), some (.int (m : Nat)), some (.ref l), some (.int (i : Nat))] : L2.St) H4
      refine s_ins (K := K) (M := Mil a) (P := fun v _ => v = .int (i : Nat)) (e4 _ _ hx') nm (ev_var (k := 2) rfl) (ei_grind (n := (i : Int) + 1) (K := K) (ev_var (k := 0) rfl) (ed_I0 (g := fun i j => i + j) (ed_var (k := 3) rfl (.int (i : Nat))) ed_i) hm4 (by omega) (by omega)) (ev_var (k := 3) rfl) stb_v (fun j hj => ⟨hj.1, by omega⟩) (by omega) fun k v H5 r5 e5 h5 => ?_
      subst e5
      refine ⟨((r'.trans (R.of e4)).trans r5.also).chgA h5 mt_l mt_l, ⟨_, rfl⟩, ?_, _, ds.take k ++ [.int (i : Nat)] ++ ds.drop k, upd_same, ?_, ?_, fun e he => ?_⟩
      · obtain ⟨g, x, hg⟩ := hm4.mono r5
        exact ⟨g, x, by rw [upd_ne (fun z => hla z.symm)]; exact hg⟩
      · have h6 := ((hall'.mono (R.of (M := Mil a) e4)).mono r5).updL (u := .lst (xs.take k ++ [.int (i : Nat)] ++ xs.drop k)) h5
        exact ((h6.take k).app (.cons (.int _) .nil)).app (h6.drop k)
      · rw [List.length_append, List.length_append, List.length_take, List.length_drop]
        show min k ds.length + 1 + (ds.length - k) = i + 1
        omega
      · rw [List.mem_append, List.mem_append] at he
        rcases he with (he | he) | he
        · exact hmem e (List.mem_of_mem_take he)
        · exact ⟨i, List.mem_singleton.mp he, hi⟩
        · exact hmem e (List.mem_of_mem_drop he)
    · rw [Int.toNat_natCast] at hP
      obtain ⟨⟨o3, rfl⟩, hm', xs, ds, hx', hall', hlen, hmem⟩ := hP
      have rH : R (Mil a) H H' := (r1.trans r2).non.drop hl r'
      refine s_ret (M := Non) (P := fun v H => It K H v (.tuple ds)) (ed_tupV (ev_var (k := 2) rfl) (fun _ z => z) (.inl (.inl hx')) hall') fun v H5 r5 p => ?_
      exact k _ v H5 (rH.trans r5.non) p ⟨ds, rfl, hlen, hmem⟩

-- _law_web: slots _law_mill_here=0 _law_places=1 _law_arrows=2 _law_many=3 _law_count=4 _law_way=5 _law_row_here=6 _law_found=7c _law_k=8 _law_x=9 _law_y=10
abbrev s__law_web : Stmt := topS 36
abbrev N__law_web : List Str := ["_law_mill_here", "_law_places", "_law_arrows", "_law_many", "_law_count", "_law_way", "_law_row_here", "_law_found", "_law_k", "_law_x", "_law_y"]
theorem sc__law_web : FnScope N__law_web ["_law_mill_here", "_law_places", "_law_arrows"] (defScope s__law_web) := ⟨rfl, rfl, rfl, by decide +kernel, rfl, by decide +kernel, by decide +kernel⟩
def WebQ (places arrows : Nat) (d : PyData) : Prop := ∃ n A, d = wD n A ∧ WebOk n A ∧ n ≤ places ∧ A.length ≤ arrows
def sp_web (K : PySem.W.Frag) : Sp := fun vs H Q _ => ∃ (a : Addr) (places arrows : Nat), vs = [.ref a, .int (places : Nat), .int (arrows : Nat)] ∧ Mok a H ∧ 1 ≤ places ∧ places ≤ 10 ∧ arrows ≤ 15 ∧ RetQ K a (WebQ places arrows) H Q
theorem cl__law_web (c__law_grind : Cl P w K mg base 1 "_law_grind" sp_grind) (c__law_row : Cl P w K mg base 2 "_law_row" (sp_row K)) (B : GB mg) (DF : Df K mg "_law_web" s__law_web) : Cl P w K mg base 3 "_law_web" (sp_web K) := by
  obtain ⟨f, fd, F, g⟩ := DF.ex
  refine ⟨f, fd, ["_law_mill_here", "_law_places", "_law_arrows"], F.ok sc__law_web (fun vs H Q E h => ?_) (fun cdv A outer s H vs Q E hr h => ?_), g, F.kp, F.binds fun _ _ _ _ _ _ us hl => match us, hl with | [_, _, _], _ => rfl⟩
  · obtain ⟨a, p, q, rfl, _⟩ := h
    rfl
  · obtain ⟨a, pl, ar, rfl, hm, p1, p10, a15, k⟩ := h
    have nd := sc__law_web.nd
    refine ⟨_, (pss_cons (ps_set (i := 3) nd rfl (.inl rfl) (pe_op op_add pe_int (pe_k c__law_grind hr (by decide) (by rfl) (pa_cons (pv 0) (pa_cons (pv 1) pa_nil)))))
      (pss_cons (ps_set (i := 4) nd rfl (.inl rfl) (pe_k c__law_grind hr (by decide) (by rfl) (pa_cons (pv 0) (pa_cons (pe_op op_add (pv 2) pe_int) pa_nil))))
      (pss_cons (ps_set (i := 5) nd rfl (.inl rfl) (pe_k c__law_grind hr (by decide) (by rfl) (pa_cons (pv 0) (pa_cons pe_int pa_nil))))
      (pss_cons (ps_set (i := 6) nd rfl (.inl rfl) (pe_k c__law_row hr (by decide) (by rfl) (pa_cons (pv 0) (pa_cons (pv 3) pa_nil))))
      (pss_cons (ps_set (i := 7) nd rfl (.inr rfl) (pe_lst pa_nil))
      (pss_cons (ps_for PassesOwn.never rfl (pi_range1 (by rfl) B.range (pa_cons (pv 4) pa_nil)) (pg_name (i := 8) nd rfl (.inl rfl))
        (pss_cons (ps_set (i := 9) nd rfl (.inl rfl) (pe_k c__law_grind hr (by decide) (by rfl) (pa_cons (pv 0) (pa_cons (pv 3) pa_nil))))
        (pss_cons (ps_set (i := 10) nd rfl (.inl rfl) (pe_k c__law_grind hr (by decide) (by rfl) (pa_cons (pv 0) (pa_cons (pv 3) pa_nil))))
        (Evl.pss_cut (ps_if (PW.pt (pw_and (pt_cmpR (op_eq_K (K := K) hr.units) (pv 5) pe_int (nomark _)) (pw_and1 (pt_cmpR op_lt (pv 8) (pv 3) (nomark _))))) (pss_one (ps_par (i := 9) (j := 10) rfl nd rfl rfl (by decide) rfl rfl (pa_cons (pv 8) (pa_cons (pe_op op_modN (pe_callTy call_int1 (by rfl) B.int boot_int (pa_cons (pe_op op_add (pv 8) pe_int) pa_nil)) (pv 3)) pa_nil)) (by rfl))) pss_nil)
        (Evl.pss_cut (ps_if (PW.pt (pw_and (pt_cmpR (op_eq_K (K := K) hr.units) (pv 5) pe_int (nomark _)) (pw_and1 (pt_chain op_lt op_lt pe_int (pv 8) (pv 3))))) (pss_one (ps_par (i := 9) (j := 10) rfl nd rfl rfl (by decide) rfl rfl (pa_cons (pe_k c__law_grind hr (by decide) (by rfl) (pa_cons (pv 0) (pa_cons (pv 8) pa_nil))) (pa_cons (pv 8) pa_nil)) (by rfl))) pss_nil)
        (Evl.pss_cut (ps_if (pt_cmpR (op_eq_K (K := K) hr.units) (pv 5) pe_int (nomark _)) (pss_one (ps_par (i := 9) (j := 10) rfl nd rfl rfl (by decide) rfl rfl (pa_cons (pe_op op_modN (pe_op op_modN (pe_callTy call_int1 (by rfl) B.int boot_int (pa_cons (pv 9) pa_nil)) pe_int) (pv 3)) (pa_cons (pe_op op_modN (pe_op op_modN (pe_callTy call_int1 (by rfl) B.int boot_int (pa_cons (pv 10) pa_nil)) pe_int) (pv 3)) pa_nil)) (by rfl))) pss_nil)
        (Evl.pss_cut (ps_if (pt_cmpR (op_eq_K (K := K) hr.units) (pe_k c__law_grind hr (by decide) (by rfl) (pa_cons (pv 0) (pa_cons pe_int pa_nil))) pe_int (nomark _)) (pss_one (ps_par (i := 9) (j := 10) rfl nd rfl rfl (by decide) rfl rfl (pa_cons (pv 10) (pa_cons (pv 9) pa_nil)) (by rfl))) pss_nil)
        (pss_one (ps_expr (pe_bm PySem.F.plainAttrs_list PySem.F.slot_list_append PySem.F.type_list_append mt_append (pv 7) (pa_cons (pe_tup (pa_cons (pe_ix (ix_K (K := K)) (pv 6) (pv 9) (fun _ _ => rfl)) (pa_cons (pe_ix (ix_K (K := K)) (pv 6) (pv 10) (fun _ _ => rfl)) pa_nil))) pa_nil)))))))))))
      (pss_one (ps_ret (pe_tup (pa_cons (pv 3) (pa_cons (pe_callTy (call_tuple_K (K := K)) (by rfl) B.tuple boot_tuple (pa_cons (pe_lc (own := [("_law_k", 8)]) (g := (gName 8)) rfl nd (pi_tup_K (K := K) (pe_k c__law_row hr (by decide) (by rfl) (pa_cons (pv 0) (pa_cons (pe_callB (call_len_K (K := K)) (by rfl) B.len boot_len (pa_cons (pv 7) pa_nil)) pa_nil)))) (blkOk_by (own := [("_law_k", 8)]) (N := N__law_web) (sc := defScope s__law_web) (by decide +kernel)) (fun _ _ _ _ _ => (pg_name (i := 8) nd rfl (.inl rfl))) (fun _ _ _ _ _ => pts_nil) (fun _ _ _ _ _ => (pe_ix (ix_K (K := K)) (pv 7) (pv 8) (fun _ _ => rfl)))) pa_nil)) pa_nil))))))))))), ?_⟩
    -- many
    refine q_asg (M := Mil a) (ei_I0 (g := fun i j => i + j) (A := fun i => i = 1) (C := fun i => 1 ≤ i ∧ i ≤ pl) (ei_d (K := K) (i := 1) ed_i rfl) (ei_grind (K := K) (n := (pl : Nat)) (ev_var (k := 0) rfl) (ed_var (k := 1) rfl (.int _)) hm (by omega) (by omega)) (fun i j h1 h2 => by subst h1; omega)) fun v1 H1 r1 hv1 => ?_
    obtain ⟨mi, rfl, mi1, mi2⟩ := hv1
    obtain ⟨n, rfl⟩ := Int.eq_ofNat_of_zero_le (show 0 ≤ mi by omega)
    have hm1 := hm.mono r1
    -- count
    refine q_asg (M := Mil a) (ei_grind (K := K) (n := (ar : Int) + 1) (ev_var (k := 0) rfl) (ed_I0 (g := fun i j => i + j) (ed_var (k := 2) rfl (.int (ar : Nat))) ed_i) hm1 (by omega) (by omega)) fun v2 H2 r2 hv2 => ?_
    obtain ⟨ci, rfl, ci1, ci2⟩ := hv2
    obtain ⟨ct, rfl⟩ := Int.eq_ofNat_of_zero_le ci1
    have hm2 := hm1.mono r2
    -- way
    refine q_asg (M := Mil a) (ei_grind (K := K) (n := 4) (ev_var (k := 0) rfl) ed_i hm2 (by decide) (by decide)) fun v3 H3 r3 hv3 => ?_
    obtain ⟨wy, rfl, wy1, wy2⟩ := hv3
    have hm3 := hm2.mono r3
    have r03 := (r1.trans r2).trans r3
    -- row
    refine q_asgC (M := Mil a) (va_cons (ev_var (k := 0) (v := .ref a) rfl) stb_v (va_cons (ev_var (k := 3) (v := .int (n : Nat)) rfl) stb_v va_nil)) fun vs H4 r4 hvs => ?_
    obtain ⟨_, _, rfl, rfl, _, _, rfl, rfl, rfl⟩ := hvs
    refine ⟨a, n, rfl, hm3.mono r4, by omega, fun rd rv H5 r5 hrv hrow => ?_⟩
    have r05 := r03.trans (r4.trans r5)
    have hm5 := (hm3.mono r4).mono r5
    obtain ⟨rds, rfl, rlen, rmem⟩ := hrow
    -- found
    refine q_asgL (K := K) (M := Non) (el_lst ea_nil (by decide)) fun l xs H6 hl r6 hx hall => ?_
    cases hall
    have hm6 := hm5.ex r6.ex
    have hrv6 := hrv.mono r6
    have hla : l ≠ a := fun z => hm5.ne (z ▸ hl)
    have nm : ∀ u, ¬ Mil a l u := fun u z => hla z.1
    refine q_for (M := Non) (M' := Also (Mil a) l) (src_rng1 (K := K) (n := (ct : Nat)) (ea1 (ed_var (k := 4) rfl (.int _))) (by omega) (by omega)) (fun b u' hb => ?_) fun H7 r7 => ?_
    · rcases hb with hb | rfl
      · exact ⟨by rw [hb.1]; exact hm6.ne, fun z => z⟩
      · exact ⟨nn hx, fun z => z⟩
    let PO : PyData → Prop := fun e => ∃ p, e = pD p ∧ (0 ≤ p.1 ∧ p.1 < (n : Int)) ∧ 0 ≤ p.2 ∧ p.2 < (n : Int)
    refine ⟨fun i σ' H' => (∃ o8 o9 o10, σ' = [some (.ref a), some (.int (pl : Nat)), some (.int (ar : Nat)), some (.int (n : Nat)), some (.int (ct : Nat)), some (.int wy), some rv, some (.ref l), o8, o9, o10]) ∧ Mok a H' ∧ ∃ xs ds, H' l = some (.lst xs) ∧ ItAll K H' xs ds ∧ ds.length = i ∧ ∀ e ∈ ds, PO e,
      ⟨⟨_, _, _, rfl⟩, hm6.ex r7.ex, [], [], r7.keep (fun z => z) hx, .nil, rfl, fun _ z => nomatch z⟩, fun i σ' H' hi r' hP v H8 e8 hy => ?_, fun σ' H' r' hP => ?_⟩
    · rw [Int.toNat_natCast] at hi
      obtain ⟨⟨o8, o9, o10, rfl⟩, hm', xs, ds, hx', hall', hlen, hmem⟩ := hP
      subst hy
      have hm8 := hm'.ex e8
      have hx8 := e8 _ _ hx'
      have hall8 := hall'.mono (R.of (M := Mil a) e8)
      have hrv8 : It K H8 rv (.tuple rds) := (hrv6.mono r7).mono (r'.trans (R.of e8))
      have lx := hall'.len
      show tSeq _ _ _ ([some (.ref a), some (.int (pl : Nat)), some (.int (ar : Nat)), some (.int (n : Nat)), some (.int (ct : Nat)), some (.int wy), some rv, some (.ref l), some (.int (i : Nat)), o9, o10] : L2.St) H8
      refine q_asg (M := Mil a) (ei_grind (K := K) (n := (n : Nat)) (ev_var (k := 0) rfl) (ed_var (k := 3) rfl (.int _)) hm8 (by omega) (by omega)) fun v9 H9 r9 hv9 => ?_
      obtain ⟨x0, rfl, x01, x02⟩ := hv9
      refine q_asg (M := Mil a) (ei_grind (K := K) (n := (n : Nat)) (ev_var (k := 0) rfl) (ed_var (k := 3) rfl (.int _)) (hm8.mono r9) (by omega) (by omega)) fun v10 H10 r10 hv10 => ?_
      obtain ⟨y0, rfl, y01, y02⟩ := hv10
      -- the word between the ifs
      let MD : L2.St → Hp → Prop := fun σ' H' => ∃ x y : Int, σ' = [some (.ref a), some (.int (pl : Nat)), some (.int (ar : Nat)), some (.int (n : Nat)), some (.int (ct : Nat)), some (.int wy), some rv, some (.ref l), some (.int (i : Nat)), some (.int x), some (.int y)] ∧ (0 ≤ x ∧ x < n) ∧ (0 ≤ y ∧ y < n) ∧ R (Mil a) H8 H'
      have m0 : MD _ H10 := ⟨x0, y0, rfl, ⟨x01, x02⟩, ⟨y01, y02⟩, r9.trans r10⟩
      refine q_cut (Mid := MD) ?_ fun σ1 G1 hM1 => ?_
      · refine s_when (M := Mil a) (b := decide (wy = 1) && decide ((i : Int) < (n : Int))) (et_and (et_test (ed_eqI (K := K) (ed_var (k := 5) rfl (.int _)) ed_i)) fun _ => et_test (ed_B0 (g := fun i j => decide (i < j)) (ed_var (K := K) (k := 8) rfl (.int _)) (ed_var (k := 3) rfl (.int _)))) (fun hb G r => ?_) fun hb G r => ⟨x0, y0, rfl, ⟨x01, x02⟩, ⟨y01, y02⟩, (r9.trans r10).trans r⟩
        obtain ⟨_, hb2⟩ := Bool.and_eq_true_iff.mp hb
        have hb2 := of_decide_eq_true hb2
        refine s_par (K := K) (M := Mil a) (ea2 (ed_var (k := 8) rfl (.int (i : Nat))) (ed_I (C := fun _ j => j ≠ 0) (g := fun i j => i.fmod j) (ed_int (ed_I0 (g := fun i j => i + j) (ed_var (k := 8) rfl (.int (i : Nat))) ed_i)) (ed_var (k := 3) rfl (.int (n : Nat))) (by omega))) fun v w G2 r2' g1 g2 => ?_
        obtain rfl := it_int g1
        obtain rfl := it_int g2
        have fm := fmod_in (i := (i : Int) + 1) (j := (n : Int)) (by omega)
        exact ⟨_, _, rfl, ⟨by omega, hb2⟩, fm, (r9.trans r10).trans (r.trans r2')⟩
      obtain ⟨x1, y1, rfl, hx1, hy1, rr1⟩ := hM1
      refine q_cut (Mid := MD) ?_ fun σ2 G2 hM2 => ?_
      · refine s_when (M := Mil a) (b := decide (wy = 2) && (decide ((0 : Int) < (i : Int)) && decide ((i : Int) < (n : Int)))) (et_and (et_test (ed_eqI (K := K) (ed_var (k := 5) rfl (.int _)) ed_i)) fun _ => et_test (ed_chain (K := K) (g := fun i j => decide (i < j)) (g' := fun i j => decide (i < j)) ed_i (ed_var (k := 8) rfl (.int (i : Nat))) (ed_var (k := 3) rfl (.int (n : Nat))))) (fun hb G r => ?_) fun hb G r => ⟨x1, y1, rfl, hx1, hy1, rr1.trans r⟩
        obtain ⟨_, hb2⟩ := Bool.and_eq_true_iff.mp hb
        obtain ⟨hb1, hb2⟩ := Bool.and_eq_true_iff.mp hb2
        have hb1 := of_decide_eq_true hb1
        have hb2 := of_decide_eq_true hb2
        refine (ei_grind (K := K) (n := (i : Nat)) (ev_var (k := 0) rfl) (ed_var (k := 8) rfl (.int (i : Nat))) (hm8.mono (rr1.trans r)) (by omega) (by omega)) G (R.refl _) _ fun v G3 r3' hv => ?_
        obtain ⟨z, rfl, z1, z2⟩ := hv
        exact ⟨_, rfl, _, _, rfl, z, (i : Nat), rfl, ⟨z1, by omega⟩, ⟨by omega, hb2⟩, rr1.trans (r.trans r3')⟩
      obtain ⟨x2, y2, rfl, hx2, hy2, rr2⟩ := hM2
      refine q_cut (Mid := MD) ?_ fun σ3 G3 hM3 => ?_
      · refine s_when (M := Mil a) (b := decide (wy = 3)) (et_test (ed_eqI (K := K) (ed_var (k := 5) rfl (.int _)) ed_i)) (fun hb G r => ?_) fun hb G r => ⟨x2, y2, rfl, hx2, hy2, rr2.trans r⟩
        refine s_par (K := K) (M := Mil a) (ea2 (ed_I (C := fun _ j => j ≠ 0) (g := fun i j => i.fmod j) (ed_I (C := fun _ j => j ≠ 0) (g := fun i j => i.fmod j) (ed_int (ed_var (k := 9) rfl (.int x2))) ed_i (by decide)) (ed_var (k := 3) rfl (.int (n : Nat))) (by omega)) (ed_I (C := fun _ j => j ≠ 0) (g := fun i j => i.fmod j) (ed_I (C := fun _ j => j ≠ 0) (g := fun i j => i.fmod j) (ed_int (ed_var (k := 10) rfl (.int y2))) ed_i (by decide)) (ed_var (k := 3) rfl (.int (n : Nat))) (by omega))) fun v w G2 r2' g1 g2 => ?_
        obtain rfl := it_int g1
        obtain rfl := it_int g2
        exact ⟨_, _, rfl, fmod_in (by omega), fmod_in (by omega), rr2.trans (r.trans r2')⟩
      obtain ⟨x3, y3, rfl, hx3, hy3, rr3⟩ := hM3
      refine q_cut (Mid := MD) ?_ fun σ4 G4 hM4 => ?_
      · refine s_whenN (M := Mil a) (en_eq (K := K) (ei_grind (K := K) (n := 3) (ev_var (k := 0) rfl) ed_i (hm8.mono rr3) (by decide) (by decide))) (fun G r => ?_) fun G r => ⟨x3, y3, rfl, hx3, hy3, rr3.trans r⟩
        refine s_par (K := K) (M := Mil a) (ea2 (ed_var (k := 10) rfl (.int y3)) (ed_var (k := 9) rfl (.int x3))) fun v w G2 r2' g1 g2 => ?_
        obtain rfl := it_int g1
        obtain rfl := it_int g2
        exact ⟨_, _, rfl, hy3, hx3, rr3.trans (r.trans r2')⟩
      obtain ⟨x4, y4, rfl, hx4, hy4, rr4⟩ := hM4
      -- append
      have rget : ∀ z : Int, 0 ≤ z ∧ z < (n : Int) → ∃ k : Nat, L2.atI rds z = some (.int (k : Nat)) ∧ k < n := fun z hz => by
        obtain ⟨z', rfl⟩ := Int.eq_ofNat_of_zero_le hz.1
        have hz' : z' < rds.length := by omega
        have hg : rds[z']? = some rds[z'] := List.getElem?_eq_getElem hz'
        obtain ⟨k, e, hk⟩ := rmem _ (List.mem_of_getElem? hg)
        exact ⟨k, by rw [atI_nat hg, e], hk⟩
      obtain ⟨kx, ex, hkx⟩ := rget x4 hx4
      obtain ⟨ky, ey, hky⟩ := rget y4 hy4
      have hrvG := hrv8.mono rr4
      refine s_app (K := K) (M := Mil a) (P := fun v H => It K H v (pD ((kx : Nat), (ky : Nat)))) (rr4.keep (nm _) hx8) nm (ev_var (k := 7) rfl) (ed_tup (ea2 (ed_ix (ed_var (k := 6) rfl hrvG) (ed_var (k := 9) rfl (.int _)) ex) (ed_ix (ed_var (k := 6) rfl hrvG) (ed_var (k := 10) rfl (.int _)) ey)) (show 2 ≤ 100000 by decide)) (by omega) fun v G5 r5' hv5 h5 => ?_
      have rx := rr4.trans r5'
      refine ⟨((r'.trans (R.of e8)).trans rx.also).chgA h5 mt_l mt_l, ⟨_, _, _, rfl⟩, ?_, _, ds ++ [pD ((kx : Nat), (ky : Nat))], upd_same, ItAll.app ((hall8.mono rx).updL h5) (.cons (hv5.updL h5) .nil), by rw [List.length_append, hlen]; rfl, fun e he => ?_⟩
      · obtain ⟨g, x, hg⟩ := hm8.mono rx
        exact ⟨g, x, by rw [upd_ne (fun z => hla z.symm)]; exact hg⟩
      · rcases List.mem_append.mp he with he | he
        · exact hmem e he
        · refine ⟨_, List.mem_singleton.mp he, ⟨?_, ?_⟩, ?_, ?_⟩ <;> dsimp only <;> omega
    · rw [Int.toNat_natCast] at hP
      obtain ⟨⟨o8, o9, o10, rfl⟩, hm', xs, ds, hx', hall', hlen, hmem⟩ := hP
      have lx := hall'.len
      have rH : R (Mil a) H H' := r05.trans ((r6.trans r7).non.drop hl r')
      refine s_ret (M := Mil a) (eq_tup2 (K := K) (ta := tVar 3) (ed_var (k := 3) rfl (.int (n : Nat))) (eq_tupP (elp_lc (K := K) (src_tupQ (AD := fun e => ∃ k : Nat, e = .int (k : Nat) ∧ k < ct) (n := ct) (ev_call (va_cons (ev_var (k := 0) (v := .ref a) rfl) stb_v (va_cons (P1 := fun v _ => v = .int (ct : Nat)) ((ed_lenV (K := K) (a := l) (xs := xs) (ev_var (k := 7) rfl) nm (.inl (.inl hx'))).imp fun v H2 _ p => by rw [it_int p, lx, hlen]) stb_v va_nil)) fun vs H9 r9 hvs Q k => by
        obtain ⟨_, _, rfl, rfl, _, _, rfl, rfl, rfl⟩ := hvs
        exact ⟨a, ct, rfl, hm'.mono r9, by omega, fun d v H2 r2 hv hrow => k v H2 r2 ⟨d, hv, hrow⟩⟩)) (mil_M hm') (by omega) (fun _ => true) (fun _ e => PO e) fun i v H9 hi r9 hy => ?_))) fun v H9 r9 hP9 => ?_
      · obtain ⟨d, hd, k, rfl, hk⟩ := hy
        obtain rfl := it_int hd
        have hg : ds[k]? = some (ds[k]'(by omega)) := List.getElem?_eq_getElem (by omega)
        refine ⟨_, bd_name, rfl, et_yes, fun _ => eq_d (ed_ixL (ev_var (k := 7) rfl) (ed_var (k := 8) rfl (.int (k : Nat))) (.inl (.inl (r9.keep (nm _) hx'))) nm (hall'.mono r9) (atI_nat hg)) (hmem _ (List.mem_of_getElem? hg))⟩
      · obtain ⟨d, hd, e, rfl, dd, rfl, hgot⟩ := hP9
        obtain ⟨gl, gm⟩ := got_mem (Q := PO) hgot fun _ _ z => z
        obtain ⟨A, rfl, hA⟩ := pairs_of gm
        rw [List.length_map] at gl
        exact k _ v H9 (rH.trans r9) hd ⟨n, A, rfl, ⟨by omega, by omega, by omega, hA⟩, by omega, by omega⟩

-- _law_small: slots _law_mill_here=0
abbrev s__law_small : Stmt := topS 37
abbrev N__law_small : List Str := ["_law_mill_here"]
theorem sc__law_small : FnScope N__law_small ["_law_mill_here"] (defScope s__law_small) := ⟨rfl, rfl, rfl, by decide +kernel, rfl, by decide +kernel, by decide +kernel⟩
def sp_small (K : PySem.W.Frag) (p q : Nat) : Sp := fun vs H Q _ => ∃ (a : Addr), vs = [.ref a] ∧ Mok a H ∧ RetQ K a (WebQ p q) H Q
theorem ev_web {E : XK} {a : Addr} {σ : L2.St} {H : Hp} {p q : Nat} {ta tb tc : TE} (ha : EV (Mil a) ta σ H (.ref a)) (hb : ED K (Mil a) tb σ H (.int (p : Nat))) (hc : ED K (Mil a) tc σ H (.int (q : Nat))) (hm : Mok a H) (h1 : 1 ≤ p) (h2 : p ≤ 10) (h3 : q ≤ 15) : EQ K (Mil a) (tCall (sp_web K) [] E (tCons ta (tCons tb (tCons tc tNil)))) σ H (WebQ p q) :=
  ev_call (va_cons ha stb_v (va_cons hb stb_d (va_cons hc stb_d va_nil))) fun vs H1 r hvs Q k => by
    obtain ⟨_, _, rfl, rfl, _, _, rfl, q1, _, _, rfl, q2, rfl⟩ := hvs
    obtain rfl := it_int q1
    obtain rfl := it_int q2
    exact ⟨a, p, q, rfl, hm.mono r, h1, h2, h3, fun d v H2 r2 hv hq => k v H2 r2 ⟨d, hv, hq⟩⟩
theorem cl__law_small (c__law_web : Cl P w K mg base 3 "_law_web" (sp_web K)) (B : GB mg) (DF : Df K mg "_law_small" s__law_small) : Cl P w K mg base 4 "_law_small" (sp_small K 4 5) := by
  obtain ⟨f, fd, F, g⟩ := DF.ex
  refine ⟨f, fd, ["_law_mill_here"], F.ok sc__law_small (fun vs H Q E h => ?_) (fun cdv A outer s H vs Q E hr h => ?_), g, F.kp, F.binds fun _ _ _ _ _ _ us hl => match us, hl with | [_], _ => rfl⟩
  · obtain ⟨a, rfl, _⟩ := h
    rfl
  · obtain ⟨a, rfl, hm, k⟩ := h
    have nd := sc__law_small.nd
    refine ⟨_, (pss_one (ps_ret (pe_k c__law_web hr (by decide) (by rfl) (pa_cons (pv 0) (pa_cons pe_int (pa_cons pe_int pa_nil)))))), ?_⟩
    exact s_ret (M := Mil a) (ev_web (K := K) (p := 4) (q := 5) (ev_var (k := 0) rfl) ed_i ed_i hm (by decide) (by decide) (by decide)) fun v H1 r1 ⟨d, hv, hq⟩ => k d v H1 r1 hv hq
-- _law_great: slots _law_mill_here=0
abbrev s__law_great : Stmt := topS 38
abbrev N__law_great : List Str := ["_law_mill_here"]
theorem sc__law_great : FnScope N__law_great ["_law_mill_here"] (defScope s__law_great) := ⟨rfl, rfl, rfl, by decide +kernel, rfl, by decide +kernel, by decide +kernel⟩
theorem cl__law_great (c__law_web : Cl P w K mg base 3 "_law_web" (sp_web K)) (B : GB mg) (DF : Df K mg "_law_great" s__law_great) : Cl P w K mg base 4 "_law_great" (sp_small K 10 15) := by
  obtain ⟨f, fd, F, g⟩ := DF.ex
  refine ⟨f, fd, ["_law_mill_here"], F.ok sc__law_great (fun vs H Q E h => ?_) (fun cdv A outer s H vs Q E hr h => ?_), g, F.kp, F.binds fun _ _ _ _ _ _ us hl => match us, hl with | [_], _ => rfl⟩
  · obtain ⟨a, rfl, _⟩ := h
    rfl
  · obtain ⟨a, rfl, hm, k⟩ := h
    have nd := sc__law_great.nd
    refine ⟨_, (pss_one (ps_ret (pe_k c__law_web hr (by decide) (by rfl) (pa_cons (pv 0) (pa_cons pe_int (pa_cons pe_int pa_nil)))))), ?_⟩
    exact s_ret (M := Mil a) (ev_web (K := K) (p := 10) (q := 15) (ev_var (k := 0) rfl) ed_i ed_i hm (by decide) (by decide) (by decide)) fun v H1 r1 ⟨d, hv, hq⟩ => k d v H1 r1 hv hq
end
end KP

/-! part KL3 -/
set_option Elab.async false
set_option linter.all false
set_option maxRecDepth 100000
set_option maxHeartbeats 4000000
/-! The law's defs: number, numbers, lots, need, due. -/
namespace KP
open PySem PySem.Spec PyProof.Rows L2
section
variable {K : PySem.W.Frag} {M : MM} {σ : L2.St} {H H' : Hp} {ta tb te tx tl td ty tv : TE} {t u : TT} {v x y z : V} {d e : PyData} {P P1 P2 P3 : V → Hp → Prop} {ds es : List PyData} {i j : Int} {D : Ends} {tz : TS} {n : Nat}
abbrev rMaxI : List V → Hp → VK → Prop := fun xs H Q => ∃ i j, xs = [.int i, .int j] ∧ Q (.int (if i < j then j else i)) H
theorem ed_max (ha : ED K M ta σ H (.int i)) (hb : ED K M tb σ H (.int j)) : ED K M (tCB rMaxI (tCons ta (tCons tb tNil))) σ H (.int (max i j)) := ev_cb (PL := fun vs H2 => ItAll K H2 vs [.int i, .int j]) (ea2 ha hb) fun vs H1 r p Q q => by
  have e := ItAll.ints (ns := [i, j]) p
  subst e
  refine ⟨i, j, rfl, ?_⟩
  have e : (if i < j then j else i) = max i j := by split <;> omega
  rw [e]
  exact q _ H1 (R.refl _) (.int _)
/-- a list and a new list, one behind the other -/
theorem el_catL {l : Addr} {xs : List V} (ha : EV Non ta σ H (.ref l)) (hl : H l = some (.lst xs)) (hall : ItAll K H xs ds) (hb : EL K Non tb σ H es) (hz : ds.length + es.length ≤ 100000) : EL K Non (tOp rCat ta tb) σ H (ds ++ es) := fun H1 r Q k => ha H1 r _ fun v H2 r2 e => hb H2 (r.trans r2) _ fun p ys H3 hp r3 hy hall2 => by
  subst e
  have rr := (r.trans r2).trans r3
  have l1 := hall.len
  have l2 := hall2.len
  refine ⟨l, p, xs, ys, rfl, rfl, rr.keep (fun z => z) hl, hy, small (by omega), fun q hq => k q _ _ (r2.free (r3.free hq)) ((r2.trans r3).new hq) upd_same ?_⟩
  exact ((hall.mono rr).app hall2).new hq
theorem itall_zip : ∀ {xs : List V} {ds : List PyData}, ItAll K H xs ds → ∀ b ∈ xs.zip ds, It K H b.1 b.2
  | _, _, .nil => fun _ h => by simp at h
  | _, _, .cons h hs => fun b hb => by
    rw [List.zip_cons_cons] at hb
    rcases List.mem_cons.mp hb with rfl | hb
    · exact h
    · exact itall_zip hs b hb
theorem zip_itall : ∀ {zs : List (V × PyData)}, (∀ b ∈ zs, It K H b.1 b.2) → ItAll K H (zs.map (·.1)) (zs.map (·.2))
  | [], _ => .nil
  | b :: zs, h => .cons (h b List.mem_cons_self) (zip_itall fun c hc => h c (List.mem_cons_of_mem _ hc))
theorem elp_srt (h : EL K Non te σ H ds) (hal : PySem.W.AllAlike ds) (hk : PySem.W.Sortable ds) (hd : ∀ d ∈ ds, d.depth ≤ 8) (hl : ds.length ≤ 100000) : ELP K Non (tCB (rSrt K) (tCons te tNil)) σ H (fun es => es.Perm ds) := fun H1 r Q k => h H1 r _ fun p xs H2 hp r2 hx hall => by
  refine ⟨p, xs, ds, rfl, .inl (.inl hx), ItAll.dp _ _ hall, hal, hk, hd, hl, fun zs q pm hq => ?_⟩
  have hz := itall_zip hall
  refine k q _ (zs.map (·.2)) _ (r2.free hq) (r2.new hq) upd_same ((zip_itall fun b hb => hz b (pm.mem_iff.mp hb)).new hq) ?_
  have := pm.map (fun b : V × PyData => b.2)
  rwa [List.map_snd_zip (by rw [hall.len]; exact Nat.le_refl _)] at this
end
abbrev lD (l : List Int) : PyData := .tuple (l.map .int)
def lotsTo : Nat → List (List Int)
  | 0 => [[]]
  | n + 1 => lotsTo n ++ (lotsTo n).map fun l => l ++ [(n : Int)]
theorem lotsTo_len : ∀ n, (lotsTo n).length = 2 ^ n
  | 0 => rfl
  | n + 1 => by
    show (lotsTo n ++ (lotsTo n).map fun l => l ++ [(n : Int)]).length = _
    rw [List.length_append, List.length_map, lotsTo_len n, Nat.pow_succ]
    omega
theorem lotL_succ (n : Nat) (f : Nat → Bool) : lotL (n + 1) f = lotL n f ++ (if f n = true then [(n : Int)] else []) := by
  unfold lotL
  rw [List.range_succ, List.filter_append, List.map_append, List.filter_cons]
  split <;> rfl
theorem lot_in_lots : ∀ (n : Nat) (f : Nat → Bool), lotL n f ∈ lotsTo n
  | 0, f => List.mem_singleton.mpr rfl
  | n + 1, f => by
    rw [lotL_succ]
    show _ ∈ lotsTo n ++ (lotsTo n).map fun l => l ++ [(n : Int)]
    rw [List.mem_append]
    by_cases c : f n = true
    · rw [if_pos c]
      exact .inr (List.mem_map_of_mem (lot_in_lots n f))
    · rw [if_neg c, List.append_nil]
      exact .inl (lot_in_lots n f)
theorem lots_short : ∀ (n : Nat), ∀ l ∈ lotsTo n, l.length ≤ n
  | 0, l, h => by rw [List.mem_singleton.mp h]; exact Nat.le_refl _
  | n + 1, l, h => by
    rcases List.mem_append.mp h with h | h
    · have := lots_short n l h; omega
    · obtain ⟨l', h', rfl⟩ := List.mem_map.mp h
      have := lots_short n l' h'
      rw [List.length_append]
      show l'.length + 1 ≤ _
      omega
theorem alike_ints : ∀ as bs : List Int, PySem.W.alikeAll (as.map .int) (bs.map .int) = true
  | [], bs => by cases bs <;> simp [PySem.W.alikeAll]
  | a :: as, [] => by simp [PySem.W.alikeAll]
  | a :: as, b :: bs => by
    rw [List.map_cons, List.map_cons, PySem.W.alikeAll, alike_ints as bs]
    simp [PySem.W.alike]
theorem map_int_inj : ∀ {a b : List Int}, a.map PyData.int = b.map PyData.int → a = b
  | [], [], _ => rfl
  | [], _ :: _, h => by cases h
  | _ :: _, [], h => by cases h
  | x :: a, y :: b, h => by
    rw [List.map_cons, List.map_cons] at h
    injection h with h1 h2
    injection h1 with h1
    rw [h1, map_int_inj h2]
def szD (l : List Int) : PyData := .tuple [.int l.length, lD l]
theorem alike_sz (a b : List Int) : PySem.W.alike (szD a) (szD b) = true := by
  unfold szD lD
  simp [PySem.W.alike, PySem.W.alikeAll, alike_ints]
theorem depth_sz (l : List Int) : (szD l).depth ≤ 8 := Nat.le_trans (sh_tup (n := 1) fun d hd => by
  rcases List.mem_cons.mp hd with rfl | hd
  · exact ⟨rfl, by show 0 ≤ 1; omega⟩
  · obtain rfl := List.mem_singleton.mp hd
    exact sh_tup sh_ints).d (by omega)
/-- what a lot tells of an arrow's most, least -/
def dueHi (A Bs : List (Int × Int)) (k : Nat) : List (List Int) → Int → Int
  | [], h => h
  | l :: ls, h => dueHi A Bs k ls (if xW A k ∈ l ∧ yW A k ∉ l then min h (xW Bs k - KM.need A.length (xW A) (yW A) (xW Bs) (yW Bs) fun v => decide (v ∈ l)) else h)
def dueLo (A Bs : List (Int × Int)) (k : Nat) : List (List Int) → Int → Int
  | [], h => h
  | l :: ls, h => dueLo A Bs k ls (if yW A k ∈ l ∧ xW A k ∉ l then max h (KM.need A.length (xW A) (yW A) (xW Bs) (yW Bs) (fun v => decide (v ∈ l)) + yW Bs k) else h)
theorem dueHi_le {A Bs : List (Int × Int)} {k : Nat} : ∀ (ls : List (List Int)) (h : Int), dueHi A Bs k ls h ≤ h ∧ (∀ l ∈ ls, xW A k ∈ l → yW A k ∉ l → dueHi A Bs k ls h ≤ xW Bs k - KM.need A.length (xW A) (yW A) (xW Bs) (yW Bs) fun v => decide (v ∈ l))
  | [], h => ⟨Int.le_refl _, fun _ z => nomatch z⟩
  | l :: ls, h => by
    obtain ⟨h1, h2⟩ := dueHi_le (A := A) (Bs := Bs) (k := k) ls (if xW A k ∈ l ∧ yW A k ∉ l then min h (xW Bs k - KM.need A.length (xW A) (yW A) (xW Bs) (yW Bs) fun v => decide (v ∈ l)) else h)
    refine ⟨?_, fun l' hl' c1 c2 => ?_⟩
    · show dueHi A Bs k ls _ ≤ h
      refine Int.le_trans h1 ?_
      split <;> omega
    · rcases List.mem_cons.mp hl' with rfl | hl'
      · show dueHi A Bs k ls _ ≤ _
        refine Int.le_trans h1 ?_
        rw [if_pos ⟨c1, c2⟩]
        omega
      · exact h2 l' hl' c1 c2
theorem le_dueHi {A Bs : List (Int × Int)} {k : Nat} {v : Int} : ∀ (ls : List (List Int)) (h : Int), v ≤ h → (∀ l ∈ ls, xW A k ∈ l → yW A k ∉ l → v ≤ xW Bs k - KM.need A.length (xW A) (yW A) (xW Bs) (yW Bs) fun v => decide (v ∈ l)) → v ≤ dueHi A Bs k ls h
  | [], h, h1, _ => h1
  | l :: ls, h, h1, h2 => by
    show v ≤ dueHi A Bs k ls _
    refine le_dueHi ls _ ?_ fun l' hl' => h2 l' (List.mem_cons_of_mem _ hl')
    split
    · rename_i c
      have := h2 l List.mem_cons_self c.1 c.2
      omega
    · exact h1
theorem le_dueLo {A Bs : List (Int × Int)} {k : Nat} : ∀ (ls : List (List Int)) (h : Int), h ≤ dueLo A Bs k ls h ∧ (∀ l ∈ ls, yW A k ∈ l → xW A k ∉ l → KM.need A.length (xW A) (yW A) (xW Bs) (yW Bs) (fun v => decide (v ∈ l)) + yW Bs k ≤ dueLo A Bs k ls h)
  | [], h => ⟨Int.le_refl _, fun _ z => nomatch z⟩
  | l :: ls, h => by
    obtain ⟨h1, h2⟩ := le_dueLo (A := A) (Bs := Bs) (k := k) ls (if yW A k ∈ l ∧ xW A k ∉ l then max h (KM.need A.length (xW A) (yW A) (xW Bs) (yW Bs) (fun v => decide (v ∈ l)) + yW Bs k) else h)
    refine ⟨?_, fun l' hl' c1 c2 => ?_⟩
    · show h ≤ dueLo A Bs k ls _
      refine Int.le_trans ?_ h1
      split <;> omega
    · rcases List.mem_cons.mp hl' with rfl | hl'
      · show _ ≤ dueLo A Bs k ls _
        refine Int.le_trans ?_ h1
        rw [if_pos ⟨c1, c2⟩]
        omega
      · exact h2 l' hl' c1 c2
theorem dueLo_le {A Bs : List (Int × Int)} {k : Nat} {v : Int} : ∀ (ls : List (List Int)) (h : Int), h ≤ v → (∀ l ∈ ls, yW A k ∈ l → xW A k ∉ l → KM.need A.length (xW A) (yW A) (xW Bs) (yW Bs) (fun v => decide (v ∈ l)) + yW Bs k ≤ v) → dueLo A Bs k ls h ≤ v
  | [], h, h1, _ => h1
  | l :: ls, h, h1, h2 => by
    show dueLo A Bs k ls _ ≤ v
    refine dueLo_le ls _ ?_ fun l' hl' => h2 l' (List.mem_cons_of_mem _ hl')
    split
    · rename_i c
      have := h2 l List.mem_cons_self c.1 c.2
      omega
    · exact h1
theorem dueHi_take {A Bs : List (Int × Int)} {k : Nat} {ls : List (List Int)} {h : Int} {i : Nat} {l : List Int} (hl : ls[i]? = some l) : dueHi A Bs k (ls.take (i + 1)) h = (if xW A k ∈ l ∧ yW A k ∉ l then min (dueHi A Bs k (ls.take i) h) (xW Bs k - KM.need A.length (xW A) (yW A) (xW Bs) (yW Bs) fun v => decide (v ∈ l)) else dueHi A Bs k (ls.take i) h) := by
  induction ls generalizing i h with
  | nil => simp at hl
  | cons a ls ih =>
    cases i with
    | zero =>
      have e : a = l := by simpa using hl
      subst e
      rfl
    | succ i =>
      rw [List.take_succ_cons, List.take_succ_cons]
      exact ih (by simpa using hl)
theorem dueLo_take {A Bs : List (Int × Int)} {k : Nat} {ls : List (List Int)} {h : Int} {i : Nat} {l : List Int} (hl : ls[i]? = some l) : dueLo A Bs k (ls.take (i + 1)) h = (if yW A k ∈ l ∧ xW A k ∉ l then max (dueLo A Bs k (ls.take i) h) (KM.need A.length (xW A) (yW A) (xW Bs) (yW Bs) (fun v => decide (v ∈ l)) + yW Bs k) else dueLo A Bs k (ls.take i) h) := by
  induction ls generalizing i h with
  | nil => simp at hl
  | cons a ls ih =>
    cases i with
    | zero =>
      have e : a = l := by simpa using hl
      subst e
      rfl
    | succ i =>
      rw [List.take_succ_cons, List.take_succ_cons]
      exact ih (by simpa using hl)
section
variable {P : Program} {w : World} {K : PySem.W.Frag} {mg : Str → Option Value} {base : Heap}
-- _law_number: slots _law_value=0
abbrev s__law_number : Stmt := topS 39
abbrev N__law_number : List Str := ["_law_value"]
theorem sc__law_number : FnScope N__law_number ["_law_value"] (defScope s__law_number) := ⟨rfl, rfl, rfl, by decide +kernel, rfl, by decide +kernel, by decide +kernel⟩
theorem cl__law_number (B : GB mg) (DF : Df K mg "_law_number" s__law_number) : Cl P w K mg base 1 "_law_number" (sp_is_integer K) := by
  obtain ⟨f, fd, F, g⟩ := DF.ex
  refine ⟨f, fd, ["_law_value"], F.ok sc__law_number (fun vs H Q E h => ?_) (fun cdv A outer s H vs Q E hr h => ?_), g, F.kp, F.binds fun _ _ _ _ _ _ us hl => match us, hl with | [_], _ => rfl⟩
  · obtain ⟨ds, d, hv, ⟨i, rfl, rfl⟩, k⟩ := h
    exact hv.len
  · obtain ⟨ds, d, hv, ⟨i, rfl, rfl⟩, k⟩ := h
    obtain rfl := ItAll.ints (ns := [i]) hv
    have nd := sc__law_number.nd
    refine ⟨_, (pss_one (ps_ret (pe_and (pe_callB (call_isi_K (K := K)) (by rfl) B.isinstance boot_isinstance (pa_cons (pv 0) (pa_cons (pe_bltn (v := V.ty "int") (by rfl) B.int boot_int rfl) pa_nil))) (pe_one (pe_not (pe_callB (call_isi_K (K := K)) (by rfl) B.isinstance boot_isinstance (pa_cons (pv 0) (pa_cons (pe_bltn (v := V.ty "bool") (by rfl) B.bool boot_bool rfl) pa_nil)))))))), ?_⟩
    refine s_ret (M := Non) (P := fun v H => It K H v (.bool true)) ?_ fun v H1 r p => k v H1 r.ex p
    have hv : ED K Non (tVar 0) (start N__law_number [V.int i]) H (.int i) := ed_var rfl (.int i)
    exact ed_andV (a := true) (b := true) (ed_isi hv kb_ii) fun _ => ed_notV (a := false) (ed_isi hv kb_ib)
-- _law_numbers: slots _law_value=0 _law_one=1
abbrev s__law_numbers : Stmt := topS 40
abbrev N__law_numbers : List Str := ["_law_value", "_law_one"]
theorem sc__law_numbers : FnScope N__law_numbers ["_law_value"] (defScope s__law_numbers) := ⟨rfl, rfl, rfl, by decide +kernel, rfl, by decide +kernel, by decide +kernel⟩
abbrev sp_numbers (K : PySem.W.Frag) : Sp := SpD K fun ds d => ∃ l : List Int, ds = [lD l] ∧ l.length ≤ 1000 ∧ d = .bool true
theorem cl__law_numbers (c__law_number : Cl P w K mg base 1 "_law_number" (sp_is_integer K)) (B : GB mg) (DF : Df K mg "_law_numbers" s__law_numbers) : Cl P w K mg base 2 "_law_numbers" (sp_numbers K) := by
  obtain ⟨f, fd, F, g⟩ := DF.ex
  refine ⟨f, fd, ["_law_value"], F.ok sc__law_numbers (fun vs H Q E h => ?_) (fun cdv A outer s H vs Q E hr h => ?_), g, F.kp, F.binds fun _ _ _ _ _ _ us hl => match us, hl with | [_], _ => rfl⟩
  · obtain ⟨ds, d, hv, ⟨l, rfl, _⟩, k⟩ := h
    exact hv.len
  · obtain ⟨ds, d, hv, ⟨l, rfl, hl, rfl⟩, k⟩ := h
    obtain ⟨v0, rfl, hv0⟩ := ia1 hv
    have nd := sc__law_numbers.nd
    refine ⟨_, (pss_one (ps_ret (pe_and (pe_callB (call_isi_K (K := K)) (by rfl) B.isinstance boot_isinstance (pa_cons (pv 0) (pa_cons (pe_bltn (v := V.ty "tuple") (by rfl) B.tuple boot_tuple rfl) pa_nil))) (pe_one (pe_cmpR (op_eq_K (K := K) hr.units) (pe_lc (own := [("_law_one", 1)]) (g := (gName 1)) rfl nd (pi_tup_K (K := K) (pv 0)) (blkOk_by (own := [("_law_one", 1)]) (N := N__law_numbers) (sc := defScope s__law_numbers) (by decide +kernel)) (fun _ _ _ _ _ => (pg_name (i := 1) nd rfl (.inl rfl))) (fun _ _ _ _ _ => (pts_one (pt_not (pt_val (pe_k c__law_number hr (by decide) (by rfl) (pa_cons (pv 1) pa_nil)))))) (fun _ _ _ _ _ => (pv 1))) (pe_lst pa_nil) (nomark _)))))), ?_⟩
    refine s_ret (M := Non) (P := fun v H => It K H v (.bool true)) ?_ fun v H1 r p => k v H1 r.ex p
    refine ed_andV (a := true) (b := true) (ed_isi (ed_var (k := 0) rfl hv0) kb_tt) fun _ => ed_is (ed_eqP (K := K) (d := .list []) (edp_l ((elp_lc (K := K) (src_tup (ed_var (k := 0) rfl hv0)) non_M (by rw [List.length_map]; omega) (fun _ => false) (fun _ d => d = .none) fun i v H1 hi r hy => ?_).el fun es he => ?_)) edp_nil (by rfl) (by rfl)) (by rfl)
    · obtain ⟨n, hn, hv⟩ := yd_map hy
      obtain rfl := it_int hv
      exact ⟨_, bd_name, rfl, et_not (a := true) (et_test (ed_call (ea1 (ed_var rfl (.int n))) ⟨n, rfl, rfl⟩)), fun z => nomatch z⟩
    · have := he.fun (F := fun _ => .none)
      rw [this]
      simp
-- _law_need: slots _law_web_here=0 _law_bounds_here=1 _law_lot=2 _law_total=3 _law_k=4 _law_x=5 _law_y=6
abbrev s__law_need : Stmt := topS 44
abbrev N__law_need : List Str := ["_law_web_here", "_law_bounds_here", "_law_lot", "_law_total", "_law_k", "_law_x", "_law_y"]
theorem sc__law_need : FnScope N__law_need ["_law_web_here", "_law_bounds_here", "_law_lot"] (defScope s__law_need) := ⟨rfl, rfl, rfl, by decide +kernel, rfl, by decide +kernel, by decide +kernel⟩
abbrev sp_need (K : PySem.W.Frag) : Sp := SpD K fun ds d => ∃ n A Bs, ∃ l : List Int, ds = [wD n A, bD Bs, lD l] ∧ A.length ≤ 1000 ∧ Bs.length = A.length ∧ d = .int (KM.need A.length (xW A) (yW A) (xW Bs) (yW Bs) fun v => decide (v ∈ l))
theorem cl__law_need (B : GB mg) (DF : Df K mg "_law_need" s__law_need) : Cl P w K mg base 1 "_law_need" (sp_need K) := by
  obtain ⟨f, fd, F, g⟩ := DF.ex
  refine ⟨f, fd, ["_law_web_here", "_law_bounds_here", "_law_lot"], F.ok sc__law_need (fun vs H Q E h => ?_) (fun cdv A outer s H vs Q E hr h => ?_), g, F.kp, F.binds fun _ _ _ _ _ _ us hl => match us, hl with | [_, _, _], _ => rfl⟩
  · obtain ⟨ds, d, hv, ⟨n, A, Bs, l, rfl, _⟩, k⟩ := h
    exact hv.len
  · obtain ⟨ds, d, hv, ⟨n, A, Bs, l, rfl, hA, lB, rfl⟩, k⟩ := h
    obtain ⟨v0, v1, v2, rfl, h0, h1, h2⟩ := ia3 hv
    have nd := sc__law_need.nd
    refine ⟨_, (pss_cons (ps_set (i := 3) nd rfl (.inl rfl) pe_int)
      (pss_cons (ps_for PassesOwn.never rfl (pi_range1 (by rfl) B.range (pa_cons (pe_callB (call_len_K (K := K)) (by rfl) B.len boot_len (pa_cons (pe_ix (ix_K (K := K)) (pv 0) pe_int (fun _ _ => rfl)) pa_nil)) pa_nil)) (pg_name (i := 4) nd rfl (.inl rfl))
        (pss_cons (ps_asg (pe_ix (ix_K (K := K)) (pe_ix (ix_K (K := K)) (pv 0) pe_int (fun _ _ => rfl)) (pv 4) (fun _ _ => rfl)) (pg_tup_K (K := K) (n := 2) rfl (pgs_cons (pg_name (i := 5) nd rfl (.inl rfl)) (pgs_cons (pg_name (i := 6) nd rfl (.inl rfl)) pgs_nil))))
        (Evl.pss_cut (ps_if (PW.pt (pw_and (pt_cmpR (op_in_K (K := K)) (pv 5) (pv 2) rfl) (pw_and1 (pt_cmpR (op_notin_K (K := K)) (pv 6) (pv 2) rfl)))) (pss_one (ps_set (i := 3) nd rfl (.inl rfl) (pe_op op_add (pv 3) (pe_ix (ix_K (K := K)) (pe_ix (ix_K (K := K)) (pv 1) (pv 4) (fun _ _ => rfl)) pe_int (fun _ _ => rfl))))) pss_nil)
        (pss_one (ps_if (PW.pt (pw_and (pt_cmpR (op_in_K (K := K)) (pv 6) (pv 2) rfl) (pw_and1 (pt_cmpR (op_notin_K (K := K)) (pv 5) (pv 2) rfl)))) (pss_one (ps_set (i := 3) nd rfl (.inl rfl) (pe_op op_sub (pv 3) (pe_ix (ix_K (K := K)) (pe_ix (ix_K (K := K)) (pv 1) (pv 4) (fun _ _ => rfl)) pe_int (fun _ _ => rfl))))) pss_nil)))))
      (pss_one (ps_ret (pv 3))))), ?_⟩
    let T : Int → Bool := fun v => decide (v ∈ l)
    let tm : Nat → Int := fun k => (if (T (xW A k) && !T (yW A k)) = true then xW Bs k else 0) - (if (T (yW A k) && !T (xW A k)) = true then yW Bs k else 0)
    refine q_asg (M := Non) (P := fun v _ => v = .int 0) ev_c fun v3 H1 r1 e3 => ?_
    subst e3
    refine q_for (M := Non) (M' := Non) (src_rng1 (K := K) (n := (A.length : Nat)) (ea1 (ed_is (ed_lenT (ed_ix (ed_var (k := 0) rfl (h0.mono r1)) ed_i rfl)) (by rw [List.length_map]))) (by omega) (by omega)) (fun b u' hb => hb.elim) fun H2 r2 => ?_
    refine ⟨fun i σ' H' => ∃ o4 o5 o6, σ' = [some v0, some v1, some v2, some (.int (KM.S i tm)), o4, o5, o6], ⟨_, _, _, rfl⟩, fun i σ' H' hi r' hP v H4 e4 hy => ?_, fun σ' H' r' hP => ?_⟩
    · rw [Int.toNat_natCast] at hi
      obtain ⟨o4, o5, o6, rfl⟩ := hP
      subst hy
      have r04 : R Non H H4 := (r1.trans r2).trans (r'.trans (R.of e4))
      have hAi : A[i]? = some A[i] := List.getElem?_eq_getElem hi
      have hBi : Bs[i]? = some (Bs[i]'(by omega)) := List.getElem?_eq_getElem (by omega)
      have xk := xW_at hAi
      have yk := yW_at hAi
      have xb := xW_at hBi
      have yb := yW_at hBi
      show tSeq _ _ _ ([some v0, some v1, some v2, some (.int (KM.S i tm)), some (.int (i : Nat)), o5, o6] : L2.St) H4
      refine q_asgT (K := K) (M := Non) (d := pD (xW A i, yW A i)) (ed_is (ed_ix (ed_ix (ed_var (k := 0) rfl (h0.mono r04)) ed_i rfl) (ed_var (k := 4) rfl (.int (i : Nat))) (atI_nat (map_get hAi))) (by rw [xk, yk])) fun v5 H5 r5 hv5 => ?_
      obtain ⟨w1, w2, g1, g2, bd⟩ := un2 (i := 5) (j := 6) (σ := [some v0, some v1, some v2, some (.int (KM.S i tm)), some (.int (i : Nat)), o5, o6]) hv5
      obtain rfl := it_int g1
      obtain rfl := it_int g2
      refine bd _ ?_
      have r05 := r04.trans r5
      have eL : ∀ {H' σ}, R Non H H' → σ[2]? = some (some v2) → ED K Non (tVar 2) σ H' (lD l) := fun r e => ed_var e (h2.mono r)
      have eBx : ∀ {H' σ}, R Non H H' → σ[1]? = some (some v1) → σ[4]? = some (some (V.int (i : Nat))) → ED K Non (tOp (rIx K) (tOp (rIx K) (tVar 1) (tVar 4)) (tC (.int 0))) σ H' (.int (xW Bs i)) := fun r e1 e4 => by
        rw [xb]
        exact ed_ix (ed_ix (ed_var e1 (h1.mono r)) (ed_var e4 (.int (i : Nat))) (atI_nat (map_get hBi))) ed_i rfl
      have eBy : ∀ {H' σ}, R Non H H' → σ[1]? = some (some v1) → σ[4]? = some (some (V.int (i : Nat))) → ED K Non (tOp (rIx K) (tOp (rIx K) (tVar 1) (tVar 4)) (tC (.int 1))) σ H' (.int (yW Bs i)) := fun r e1 e4 => by
        rw [yb]
        exact ed_ix (ed_ix (ed_var e1 (h1.mono r)) (ed_var e4 (.int (i : Nat))) (atI_nat (map_get hBi))) ed_i rfl
      refine q_cut (Mid := fun σ' H' => σ' = [some v0, some v1, some v2, some (.int (KM.S i tm + (if (T (xW A i) && !T (yW A i)) = true then xW Bs i else 0))), some (.int (i : Nat)), some (.int (xW A i)), some (.int (yW A i))] ∧ R Non H5 H') ?_ fun σ1 G1 hM => ?_
      · refine s_when (M := Non) (b := T (xW A i) && !T (yW A i)) (et_and (et_test (ed_in (ed_var (k := 5) rfl (.int _)) (eL r05 rfl))) fun _ => et_test (ed_notin (ed_var (k := 6) rfl (.int _)) (eL r05 rfl))) (fun hb G r => ?_) fun hb G r => ⟨by rw [hb, if_neg Bool.false_ne_true, Int.add_zero]; rfl, r⟩
        refine s_asg (M := Non) (P := fun v H => It K H v (.int (KM.S i tm + xW Bs i))) (ed_I0 (g := fun i j => i + j) (ed_var (k := 3) rfl (.int _)) (eBx (r05.trans r) rfl rfl)) fun v6 G2 r6 e6 => ?_
        obtain rfl := it_int e6
        exact ⟨by rw [hb, if_pos rfl]; rfl, r.trans r6⟩
      obtain ⟨rfl, rG⟩ := hM
      have r06 := r05.trans rG
      refine s_when (M := Non) (b := T (yW A i) && !T (xW A i)) (et_and (et_test (ed_in (ed_var (k := 6) rfl (.int _)) (eL r06 rfl))) fun _ => et_test (ed_notin (ed_var (k := 5) rfl (.int _)) (eL r06 rfl))) (fun hb G r => ?_) fun hb G r => ?_
      · refine s_asg (M := Non) (P := fun v H => It K H v (.int (KM.S (i + 1) tm))) (ed_is (ed_I0 (g := fun i j => i - j) (ed_var (k := 3) rfl (.int _)) (eBy (r06.trans r) rfl rfl)) (congrArg PyData.int ?_)) fun v6 G2 r6 e6 => ?_
        · show _ = KM.S i tm + tm i
          simp only [tm]
          rw [if_pos hb]
          omega
        · obtain rfl := it_int e6
          exact ⟨(r'.trans (R.of e4)).trans (r5.trans (rG.trans (r.trans r6))), _, _, _, rfl⟩
      · refine ⟨(r'.trans (R.of e4)).trans (r5.trans (rG.trans r)), some (.int (i : Nat)), some (.int (xW A i)), some (.int (yW A i)), ?_⟩
        have e : KM.S i tm + (if (T (xW A i) && !T (yW A i)) = true then xW Bs i else 0) = KM.S (i + 1) tm := by
          show _ = KM.S i tm + tm i
          simp only [tm]
          rw [hb, if_neg Bool.false_ne_true]
          omega
        rw [e]
    · obtain ⟨o4, o5, o6, rfl⟩ := hP
      rw [Int.toNat_natCast]
      exact s_ret (M := Non) (P := fun v H => It K H v (.int (KM.S A.length tm))) (ed_var (k := 3) rfl (.int _)) fun v H5 r5 p => k v H5 ((r1.trans r2).trans (r'.trans r5)).ex p

-- _law_lots: slots _law_many=0 _law_found=1 _law_x=2c _law_size=3 _law_lot=4
abbrev s__law_lots : Stmt := topS 43
abbrev N__law_lots : List Str := ["_law_many", "_law_found", "_law_x", "_law_size", "_law_lot"]
theorem sc__law_lots : FnScope N__law_lots ["_law_many"] (defScope s__law_lots) := ⟨rfl, rfl, rfl, by decide +kernel, rfl, by decide +kernel, by decide +kernel⟩
def sp_lots (K : PySem.W.Frag) : Sp := fun vs H Q _ => ∃ n : Nat, vs = [.int (n : Nat)] ∧ n ≤ 10 ∧ ∀ ls : List (List Int), (∀ f, lotL n f ∈ ls) → ls.length ≤ 1024 → RetLD K (ls.map lD) H Q
theorem cl__law_lots (B : GB mg) (DF : Df K mg "_law_lots" s__law_lots) : Cl P w K mg base 1 "_law_lots" (sp_lots K) := by
  obtain ⟨f, fd, F, g⟩ := DF.ex
  refine ⟨f, fd, ["_law_many"], F.ok sc__law_lots (fun vs H Q E h => ?_) (fun cdv A outer s H vs Q E hr h => ?_), g, F.kp, F.binds fun _ _ _ _ _ _ us hl => match us, hl with | [_], _ => rfl⟩
  · obtain ⟨n, rfl, _⟩ := h
    rfl
  · obtain ⟨n, rfl, hn, k⟩ := h
    have nd := sc__law_lots.nd
    refine ⟨_, (pss_cons (ps_set (i := 1) nd rfl (.inl rfl) (pe_lst (pa_cons (pe_tup pa_nil) pa_nil)))
      (pss_cons (ps_for PassesOwn.never rfl (pi_range1 (by rfl) B.range (pa_cons (pv 0) pa_nil)) (pg_name (i := 2) nd rfl (.inr rfl))
        (pss_one (ps_set (i := 1) nd rfl (.inl rfl) (pe_op op_cat (pv 1) (pe_lc (own := [("_law_lot", 4)]) (g := (gName 4)) rfl nd (pi_list_K (K := K) (pv 1)) (blkOk_by (own := [("_law_lot", 4)]) (N := N__law_lots) (sc := defScope s__law_lots) (by decide +kernel)) (fun _ _ _ _ _ => (pg_name (i := 4) nd rfl (.inl rfl))) (fun _ _ _ _ _ => pts_nil) (fun _ _ _ _ _ => (pe_op (op_cat_K (K := K)) (pv 4) (pe_tup (pa_cons (pv 2) pa_nil)))))))))
      (pss_one (ps_ret (pe_lc (own := [("_law_size", 3), ("_law_lot", 4)]) (g := (gTup K 2 (gCons (gName 3) (gCons (gName 4) gNil)))) rfl nd (pi_list_K (K := K) (pe_callB (cr_sortedX_K (K := K) hr.units) (by rfl) B.sorted boot_sorted (pa_cons (pe_lc (own := [("_law_lot", 4)]) (g := (gName 4)) rfl nd (pi_list_K (K := K) (pv 1)) (blkOk_by (own := [("_law_lot", 4)]) (N := N__law_lots) (sc := defScope s__law_lots) (by decide +kernel)) (fun _ _ _ _ _ => (pg_name (i := 4) nd rfl (.inl rfl))) (fun _ _ _ _ _ => pts_nil) (fun _ _ _ _ _ => (pe_tup (pa_cons (pe_callB (call_len_K (K := K)) (by rfl) B.len boot_len (pa_cons (pv 4) pa_nil)) (pa_cons (pv 4) pa_nil))))) pa_nil))) (blkOk_by (own := [("_law_size", 3), ("_law_lot", 4)]) (N := N__law_lots) (sc := defScope s__law_lots) (by decide +kernel)) (fun _ _ _ _ _ => (pg_tup_K (K := K) (n := 2) rfl (pgs_cons (pg_name (i := 3) nd rfl (.inl rfl)) (pgs_cons (pg_name (i := 4) nd rfl (.inl rfl)) pgs_nil)))) (fun _ _ _ _ _ => pts_nil) (fun _ _ _ _ _ => (pv 4))))))), ?_⟩
    have p10 : ∀ i, i ≤ n → 2 ^ i ≤ 1024 := fun i hi => Nat.le_trans (Nat.pow_le_pow_right (by decide) (show i ≤ 10 by omega)) (by decide)
    refine q_asgL (K := K) (M := Non) (ds := (lotsTo 0).map lD) (el_lst (ea1 (ed_tup ea_nil (by decide))) (show 1 ≤ 100000 by decide)) fun f0 xs0 H1 hf0 r1 hx0 hall0 => ?_
    refine q_for (M := Non) (M' := Non) (src_rng1 (K := K) (n := (n : Nat)) (ea1 (ed_var (k := 0) rfl (.int _))) (by omega) (by omega)) (fun b u' hb => hb.elim) fun H2 r2 => ?_
    refine ⟨fun i σ' H' => ∃ (o2 : Option V) (fa : Addr) (xs : List V), σ' = [some (.int (n : Nat)), some (.ref fa), o2, none, none] ∧ H' fa = some (.lst xs) ∧ ItAll K H' xs ((lotsTo i).map lD), ⟨_, f0, xs0, rfl, r2.keep (fun z => z) hx0, hall0.mono r2⟩, fun i σ' H' hi r' hP v H4 e4 hy => ?_, fun σ' H' r' hP => ?_⟩
    · rw [Int.toNat_natCast] at hi
      obtain ⟨o2, fa, xs, rfl, hx, hall⟩ := hP
      subst hy
      have hx4 := e4 _ _ hx
      have hall4 := hall.mono (R.of (M := Non) e4)
      have ll := lotsTo_len i
      have lp := p10 i (by omega)
      show tAsg _ _ _ ([some (.int (n : Nat)), some (.ref fa), some (.int (i : Nat)), none, none] : L2.St) H4
      refine s_asgL (K := K) (M := Non) (ds := (lotsTo (i + 1)).map lD) ?_ fun f1 xs1 H5 hf1 r5 hx1 hall1 => ⟨r'.trans ((R.of e4).trans r5), _, f1, xs1, rfl, hx1, hall1⟩
      have e : (lotsTo (i + 1)).map lD = (lotsTo i).map lD ++ (lotsTo i).map fun l => lD (l ++ [(i : Int)]) := by
        show (lotsTo i ++ (lotsTo i).map fun l => l ++ [(i : Int)]).map lD = _
        rw [List.map_append, List.map_map]
        rfl
      rw [e]
      refine el_catL (ev_var (k := 1) rfl) hx4 hall4 ((elp_lc (K := K) (src_lv (ev_var (k := 1) rfl) (fun _ z => z) (.inl (.inl hx4)) (nn hx4) hall4) non_E (by rw [List.length_map, ll]; omega) (fun _ => true) (fun j d => ∀ l, (lotsTo i)[j]? = some l → d = lD (l ++ [(i : Int)])) fun j v H5 hj r5 hy => ?_).el fun es he => ?_) (by rw [List.length_map, List.length_map, ll]; omega)
      · obtain ⟨l, hl, hv⟩ := yd_map hy
        have hsh := lots_short i l (List.mem_of_getElem? hl)
        refine ⟨_, bd_name, rfl, et_yes, fun _ => eq_d (K := K) (d := lD (l ++ [(i : Int)])) (ed_is (ed_cat (ed_var (k := 4) rfl hv) (ed_tup (ea1 (ed_var (k := 2) rfl (.int (i : Nat)))) (show 1 ≤ 100000 by decide)) (by rw [List.length_map]; show _ + 1 ≤ _; omega)) (by unfold lD; rw [List.map_append]; rfl)) fun l' hl' => ?_⟩
        rw [hl] at hl'
        cases hl'
        rfl
      · obtain ⟨g1, g2⟩ := he.all
        rw [List.length_map] at g1
        apply List.ext_getElem?
        intro j
        by_cases hj : j < (lotsTo i).length
        · have h1 : es[j]? = some (es[j]'(by omega)) := List.getElem?_eq_getElem (by omega)
          have h2 : (lotsTo i)[j]? = some (lotsTo i)[j] := List.getElem?_eq_getElem hj
          rw [h1, g2 j _ h1 _ h2, List.getElem?_map, h2]
          rfl
        · rw [List.getElem?_eq_none (by omega), List.getElem?_eq_none (by rw [List.length_map]; omega)]
    · rw [Int.toNat_natCast] at hP
      obtain ⟨o2, fa, xs, rfl, hx, hall⟩ := hP
      have ll := lotsTo_len n
      have lp := p10 n (by omega)
      have r0 : R Non H H' := (r1.trans r2).trans r'
      have srt : ELP K Non _ [some (.int (n : Nat)), some (.ref fa), o2, none, none] H' (fun es => es.Perm ((lotsTo n).map szD)) := elp_srt (K := K) (te := tLc (iList K (tVar 1)) (gName 4) tYes (tTup (tCons (tCB (rLen K) (tCons (tVar 4) tNil)) (tCons (tVar 4) tNil))) [4]) ((elp_lc (K := K) (src_lv (ev_var (k := 1) rfl) (fun _ z => z) (.inl (.inl hx)) (nn hx) hall) non_E (by rw [List.length_map, ll]; omega) (fun _ => true) (fun j d => ∀ l, (lotsTo n)[j]? = some l → d = szD l) fun j v H5 hj r5 hy => by
          obtain ⟨l, hl, hv⟩ := yd_map hy
          refine ⟨_, bd_name, rfl, et_yes, fun _ => eq_d (K := K) (d := szD l) (ed_tup (ea2 (ed_is (ed_lenT (ed_var (k := 4) rfl hv)) (by rw [List.length_map])) (ed_var (k := 4) rfl hv)) (show 2 ≤ 100000 by decide)) fun l' hl' => ?_⟩
          rw [hl] at hl'
          cases hl'
          rfl).el fun es he => by
          obtain ⟨g1, g2⟩ := he.all
          rw [List.length_map] at g1
          apply List.ext_getElem?
          intro j
          by_cases hj : j < (lotsTo n).length
          · have h1 : es[j]? = some (es[j]'(by omega)) := List.getElem?_eq_getElem (by omega)
            have h2 : (lotsTo n)[j]? = some (lotsTo n)[j] := List.getElem?_eq_getElem hj
            rw [h1, g2 j _ h1 _ h2, List.getElem?_map, h2]
            rfl
          · rw [List.getElem?_eq_none (by omega), List.getElem?_eq_none (by rw [List.length_map]; omega)])
        (fun d hd d' hd' => by
          obtain ⟨a, _, rfl⟩ := List.mem_map.mp hd
          obtain ⟨b, _, rfl⟩ := List.mem_map.mp hd'
          exact alike_sz a b) (.inl fun d hd => by
          obtain ⟨a, _, rfl⟩ := List.mem_map.mp hd
          exact ⟨_, _, rfl⟩) (fun d hd => by
          obtain ⟨a, _, rfl⟩ := List.mem_map.mp hd
          exact depth_sz a) (by rw [List.length_map, ll]; omega)
      refine srt H' (R.refl _) _ fun p ys es H5 hp r5 hy hall5 pm => ?_
      -- what is sorted is the lots
      obtain ⟨ls, rfl, hls⟩ : ∃ ls : List (List Int), es = ls.map szD ∧ ∀ l ∈ lotsTo n, l ∈ ls := by
        have : ∀ d ∈ es, ∃ l, d = szD l := fun d hd => by
          obtain ⟨l, _, rfl⟩ := List.mem_map.mp (pm.mem_iff.mp hd)
          exact ⟨l, rfl⟩
        clear hall5
        obtain ⟨ls, e⟩ : ∃ ls : List (List Int), es = ls.map szD := by
          clear pm
          induction es with
          | nil => exact ⟨[], rfl⟩
          | cons d es ih =>
            obtain ⟨l, rfl⟩ := this d List.mem_cons_self
            obtain ⟨ls, e⟩ := ih fun x hx => this x (List.mem_cons_of_mem _ hx)
            exact ⟨l :: ls, by rw [e]; rfl⟩
        refine ⟨ls, e, fun l hl => ?_⟩
        have h1 : szD l ∈ es := pm.mem_iff.mpr (List.mem_map_of_mem hl)
        rw [e] at h1
        obtain ⟨l', h2, h3⟩ := List.mem_map.mp h1
        have h4 : l'.map PyData.int = l.map PyData.int := by
          unfold szD lD at h3
          injection h3 with h3
          injection h3 with _ h3
          injection h3 with h3 _
          injection h3
        have h5 : l' = l := map_int_inj h4
        rw [← h5]
        exact h2
      have pl := pm.length_eq
      rw [List.length_map, List.length_map, ll] at pl
      have key : ELP K Non (tLc (iList K (tC (.ref p))) (gTup K 2 (gCons (gName 3) (gCons (gName 4) gNil))) tYes (tVar 4) [3, 4]) [some (.int (n : Nat)), some (.ref fa), o2, none, none] H5 (fun es => es = ls.map lD) := fun H6 r6 Q k2 =>
        (elp_lc (K := K) (src_lv (ev_c (v := .ref p)) (fun _ z => z) (.inl (.inl hy)) (nn hy) hall5) non_E (by rw [List.length_map]; omega) (fun _ => true) (fun j d => ∀ l, ls[j]? = some l → d = lD l) fun j v H7 hj r7 hyy => by
          obtain ⟨l, hl, hv⟩ := yd_map hyy
          obtain ⟨w1, w2, g1, g2, bd⟩ := un2 (i := 3) (j := 4) (σ := wipe [some (.int (n : Nat)), some (.ref fa), o2, none, none] [3, 4]) hv
          refine ⟨_, bd, rfl, et_yes, fun _ => eq_d (K := K) (d := lD l) (ed_var (k := 4) rfl g2) fun l' hl' => ?_⟩
          rw [hl] at hl'
          cases hl'
          rfl) H6 r6 Q fun p xs ds H7 hn7 r7 hp7 hall7 hgot => k2 p xs ds H7 hn7 r7 hp7 hall7 (by
          obtain ⟨g1, g2⟩ := hgot.all
          rw [List.length_map] at g1
          apply List.ext_getElem?
          intro j
          by_cases hj : j < ls.length
          · have h1 : ds[j]? = some (ds[j]'(by omega)) := List.getElem?_eq_getElem (by omega)
            have h2 : ls[j]? = some ls[j] := List.getElem?_eq_getElem hj
            rw [h1, g2 j _ h1 _ h2, List.getElem?_map, h2]
            rfl
          · rw [List.getElem?_eq_none (by omega), List.getElem?_eq_none (by rw [List.length_map]; omega)])
      refine key H5 (R.refl _) _ fun q zs ds H6 hq r6 hz hall6 e => ?_
      subst e
      exact k ls (fun f => hls _ (lot_in_lots n f)) (by omega) q zs H6 ((r0.trans r5).free hq) ((r0.trans r5).trans r6).ex hz hall6
end
end KP

/-! part KL4 -/
set_option Elab.async false
set_option linter.all false
set_option maxRecDepth 100000
set_option maxHeartbeats 4000000
/-! The law's defs: due. -/
namespace KP
open PySem PySem.Spec PyProof.Rows L2
section
variable {P : Program} {w : World} {K : PySem.W.Frag} {mg : Str → Option Value} {base : Heap}
-- _law_due: slots _law_web_here=0 _law_bounds_here=1 _law_lots_here=2 _law_arrow=3 _law_low=4 _law_high=5 _law_x=6 _law_y=7 _law_lot=8
abbrev s__law_due : Stmt := topS 50
abbrev N__law_due : List Str := ["_law_web_here", "_law_bounds_here", "_law_lots_here", "_law_arrow", "_law_low", "_law_high", "_law_x", "_law_y", "_law_lot"]
theorem sc__law_due : FnScope N__law_due ["_law_web_here", "_law_bounds_here", "_law_lots_here", "_law_arrow"] (defScope s__law_due) := ⟨rfl, rfl, rfl, by decide +kernel, rfl, by decide +kernel, by decide +kernel⟩
def sp_due (K : PySem.W.Frag) : Sp := fun vs H Q _ => ∃ (v0 v1 : V) (la : Addr) (xs : List V) (n : Nat) (A Bs : List (Int × Int)) (ls : List (List Int)) (k : Nat), vs = [v0, v1, .ref la, .int (k : Nat)] ∧ It K H v0 (wD n A) ∧ It K H v1 (bD Bs) ∧ H la = some (.lst xs) ∧ ItAll K H xs (ls.map lD) ∧
  A.length ≤ 1000 ∧ Bs.length = A.length ∧ k < A.length ∧ RetD K (.tuple [.int (dueLo A Bs k ls (xW Bs k)), .int (dueHi A Bs k ls (yW Bs k))]) H Q
theorem cl__law_due (c__law_need : Cl P w K mg base 1 "_law_need" (sp_need K)) (B : GB mg) (DF : Df K mg "_law_due" s__law_due) : Cl P w K mg base 2 "_law_due" (sp_due K) := by
  obtain ⟨f, fd, F, g⟩ := DF.ex
  refine ⟨f, fd, ["_law_web_here", "_law_bounds_here", "_law_lots_here", "_law_arrow"], F.ok sc__law_due (fun vs H Q E h => ?_) (fun cdv A outer s H vs Q E hr h => ?_), g, F.kp, F.binds fun _ _ _ _ _ _ us hl => match us, hl with | [_, _, _, _], _ => rfl⟩
  · obtain ⟨v0, v1, la, xs, n, A, Bs, ls, k, rfl, _⟩ := h
    rfl
  · obtain ⟨v0, v1, la, xs, n, A, Bs, ls, kk, rfl, h0, h1, hla, hall, hA, lB, hk, kR⟩ := h
    have nd := sc__law_due.nd
    refine ⟨_, (pss_cons (ps_asg (pe_ix (ix_K (K := K)) (pv 1) (pv 3) (fun _ _ => rfl)) (pg_tup_K (K := K) (n := 2) rfl (pgs_cons (pg_name (i := 4) nd rfl (.inl rfl)) (pgs_cons (pg_name (i := 5) nd rfl (.inl rfl)) pgs_nil))))
      (pss_cons (ps_asg (pe_ix (ix_K (K := K)) (pe_ix (ix_K (K := K)) (pv 0) pe_int (fun _ _ => rfl)) (pv 3) (fun _ _ => rfl)) (pg_tup_K (K := K) (n := 2) rfl (pgs_cons (pg_name (i := 6) nd rfl (.inl rfl)) (pgs_cons (pg_name (i := 7) nd rfl (.inl rfl)) pgs_nil))))
      (pss_cons (ps_for PassesOwn.never rfl (pi_list_K (K := K) (pv 2)) (pg_name (i := 8) nd rfl (.inl rfl))
        (Evl.pss_cut (ps_if (PW.pt (pw_and (pt_cmpR (op_in_K (K := K)) (pv 6) (pv 8) rfl) (pw_and1 (pt_cmpR (op_notin_K (K := K)) (pv 7) (pv 8) rfl)))) (pss_one (ps_set (i := 5) nd rfl (.inl rfl) (pe_callB (call_min2 rfl) (by rfl) B.min boot_min (pa_cons (pv 5) (pa_cons (pe_op op_sub (pe_ix (ix_K (K := K)) (pe_ix (ix_K (K := K)) (pv 1) (pv 3) (fun _ _ => rfl)) pe_int (fun _ _ => rfl)) (pe_k c__law_need hr (by decide) (by rfl) (pa_cons (pv 0) (pa_cons (pv 1) (pa_cons (pv 8) pa_nil))))) pa_nil))))) pss_nil)
        (pss_one (ps_if (PW.pt (pw_and (pt_cmpR (op_in_K (K := K)) (pv 7) (pv 8) rfl) (pw_and1 (pt_cmpR (op_notin_K (K := K)) (pv 6) (pv 8) rfl)))) (pss_one (ps_set (i := 4) nd rfl (.inl rfl) (pe_callB (call_max2 rfl) (by rfl) B.max boot_max (pa_cons (pv 4) (pa_cons (pe_op op_add (pe_k c__law_need hr (by decide) (by rfl) (pa_cons (pv 0) (pa_cons (pv 1) (pa_cons (pv 8) pa_nil)))) (pe_ix (ix_K (K := K)) (pe_ix (ix_K (K := K)) (pv 1) (pv 3) (fun _ _ => rfl)) pe_int (fun _ _ => rfl))) pa_nil))))) pss_nil))))
      (pss_one (ps_ret (pe_tup (pa_cons (pv 4) (pa_cons (pv 5) pa_nil)))))))), ?_⟩
    have hAi : A[kk]? = some A[kk] := List.getElem?_eq_getElem hk
    have hBi : Bs[kk]? = some (Bs[kk]'(by omega)) := List.getElem?_eq_getElem (by omega)
    have xk := xW_at hAi
    have yk := yW_at hAi
    have xb := xW_at hBi
    have yb := yW_at hBi
    have eBx : ∀ {H' σ}, R Non H H' → σ[1]? = some (some v1) → σ[3]? = some (some (V.int (kk : Nat))) → ED K Non (tOp (rIx K) (tOp (rIx K) (tVar 1) (tVar 3)) (tC (.int 0))) σ H' (.int (xW Bs kk)) := fun r e1 e4 => by
      rw [xb]
      exact ed_ix (ed_ix (ed_var e1 (h1.mono r)) (ed_var e4 (.int (kk : Nat))) (atI_nat (map_get hBi))) ed_i rfl
    have eBy : ∀ {H' σ}, R Non H H' → σ[1]? = some (some v1) → σ[3]? = some (some (V.int (kk : Nat))) → ED K Non (tOp (rIx K) (tOp (rIx K) (tVar 1) (tVar 3)) (tC (.int 1))) σ H' (.int (yW Bs kk)) := fun r e1 e4 => by
      rw [yb]
      exact ed_ix (ed_ix (ed_var e1 (h1.mono r)) (ed_var e4 (.int (kk : Nat))) (atI_nat (map_get hBi))) ed_i rfl
    refine q_asgT (K := K) (M := Non) (d := pD (xW Bs kk, yW Bs kk)) (ed_is (ed_ix (ed_var (k := 1) rfl h1) (ed_var (k := 3) rfl (.int (kk : Nat))) (atI_nat (map_get hBi))) (by rw [xb, yb])) fun v5 H1 r1 hv5 => ?_
    obtain ⟨w1, w2, g1, g2, bd⟩ := un2 (i := 4) (j := 5) (σ := start N__law_due [v0, v1, .ref la, .int (kk : Nat)]) hv5
    obtain rfl := it_int g1
    obtain rfl := it_int g2
    refine bd _ ?_
    refine q_asgT (K := K) (M := Non) (d := pD (xW A kk, yW A kk)) (ed_is (ed_ix (ed_ix (ed_var (k := 0) rfl (h0.mono r1)) ed_i rfl) (ed_var (k := 3) rfl (.int (kk : Nat))) (atI_nat (map_get hAi))) (by rw [xk, yk])) fun v6 H2 r2 hv6 => ?_
    obtain ⟨w1, w2, g1, g2, bd⟩ := un2 (i := 6) (j := 7) (σ := [some v0, some v1, some (.ref la), some (.int (kk : Nat)), some (.int (xW Bs kk)), some (.int (yW Bs kk)), none, none, none]) hv6
    obtain rfl := it_int g1
    obtain rfl := it_int g2
    refine bd _ ?_
    have r02 := r1.trans r2
    have hla2 := r02.keep (fun z => z) hla
    refine q_for (M := Non) (M' := Non) (src_lv (ev_var (k := 2) rfl) (fun _ z => z) (.inl (.inl hla2)) (nn hla2) (hall.mono r02)) (fun b u' hb => hb.elim) fun H3 r3 => ?_
    refine ⟨fun i σ' H' => ∃ o8, σ' = [some v0, some v1, some (.ref la), some (.int (kk : Nat)), some (.int (dueLo A Bs kk (ls.take i) (xW Bs kk))), some (.int (dueHi A Bs kk (ls.take i) (yW Bs kk))), some (.int (xW A kk)), some (.int (yW A kk)), o8], ⟨_, rfl⟩, fun i σ' H' hi r' hP v H4 e4 hy => ?_, fun σ' H' r' hP => ?_⟩
    · obtain ⟨o8, rfl⟩ := hP
      obtain ⟨l, hl, hv⟩ := yd_map hy
      have r04 : R Non H H4 := r02.trans (r3.trans (r'.trans (R.of e4)))
      have eLo := dueLo_take (A := A) (Bs := Bs) (k := kk) (h := xW Bs kk) hl
      have eHi := dueHi_take (A := A) (Bs := Bs) (k := kk) (h := yW Bs kk) hl
      obtain ⟨lo, hlo⟩ : ∃ z, dueLo A Bs kk (ls.take i) (xW Bs kk) = z := ⟨_, rfl⟩
      obtain ⟨hi', hhi⟩ : ∃ z, dueHi A Bs kk (ls.take i) (yW Bs kk) = z := ⟨_, rfl⟩
      obtain ⟨nd', hnd⟩ : ∃ z, KM.need A.length (xW A) (yW A) (xW Bs) (yW Bs) (fun v => decide (v ∈ l)) = z := ⟨_, rfl⟩
      rw [hlo, hnd] at eLo
      rw [hhi, hnd] at eHi
      rw [hlo, hhi]
      have eN : ∀ {H' σ}, R Non H4 H' → σ[0]? = some (some v0) → σ[1]? = some (some v1) → σ[8]? = some (some v) → ED K Non (tCall (sp_need K) [] E0 (tCons (tVar 0) (tCons (tVar 1) (tCons (tVar 8) tNil)))) σ H' (.int nd') := fun r e0 e1 e8 =>
        ed_call (ea3 (ed_var e0 (h0.mono (r04.trans r))) (ed_var e1 (h1.mono (r04.trans r))) (ed_var e8 (hv.mono r))) ⟨n, A, Bs, l, rfl, hA, lB, by rw [hnd]⟩
      have eL : ∀ {H' σ}, R Non H4 H' → σ[8]? = some (some v) → ED K Non (tVar 8) σ H' (lD l) := fun r e => ed_var e (hv.mono r)
      show Evl.tCut _ _ _ ([some v0, some v1, some (.ref la), some (.int (kk : Nat)), some (.int lo), some (.int hi'), some (.int (xW A kk)), some (.int (yW A kk)), some v] : L2.St) H4
      refine q_cut (Mid := fun σ' H' => σ' = [some v0, some v1, some (.ref la), some (.int (kk : Nat)), some (.int lo), some (.int (if xW A kk ∈ l ∧ yW A kk ∉ l then min hi' (xW Bs kk - nd') else hi')), some (.int (xW A kk)), some (.int (yW A kk)), some v] ∧ R Non H4 H') ?_ fun σ1 G1 hM => ?_
      · refine s_when (M := Non) (b := decide (xW A kk ∈ l) && !decide (yW A kk ∈ l)) (et_and (et_test (ed_in (ed_var (k := 6) rfl (.int _)) (eL (R.refl _) rfl))) fun _ => et_test (ed_notin (ed_var (k := 7) rfl (.int _)) (eL (R.refl _) rfl))) (fun hb G r => ?_) fun hb G r => ?_
        · have hc : xW A kk ∈ l ∧ yW A kk ∉ l := by simpa using hb
          refine s_asg (M := Non) (P := fun v H => It K H v (.int (min hi' (xW Bs kk - nd')))) (ed_min (ed_var (k := 5) rfl (.int _)) (ed_I0 (g := fun i j => i - j) (eBx (r04.trans r) rfl rfl) (eN r rfl rfl rfl))) fun v7 G2 r7 e7 => ?_
          obtain rfl := it_int e7
          exact ⟨by rw [if_pos hc]; rfl, r.trans r7⟩
        · have hc : ¬ (xW A kk ∈ l ∧ yW A kk ∉ l) := fun z => by rw [decide_eq_true z.1, decide_eq_false z.2] at hb; cases hb
          exact ⟨by rw [if_neg hc], r⟩
      obtain ⟨rfl, rG⟩ := hM
      rw [← eHi]
      have r0G := r04.trans rG
      refine s_when (M := Non) (b := decide (yW A kk ∈ l) && !decide (xW A kk ∈ l)) (et_and (et_test (ed_in (ed_var (k := 7) rfl (.int _)) (eL rG rfl))) fun _ => et_test (ed_notin (ed_var (k := 6) rfl (.int _)) (eL rG rfl))) (fun hb G r => ?_) fun hb G r => ?_
      · have hc : yW A kk ∈ l ∧ xW A kk ∉ l := by simpa using hb
        refine s_asg (M := Non) (P := fun v H => It K H v (.int (max lo (nd' + yW Bs kk)))) (ed_max (ed_var (k := 4) rfl (.int _)) (ed_I0 (g := fun i j => i + j) (eN (rG.trans r) rfl rfl rfl) (eBy (r0G.trans r) rfl rfl))) fun v7 G2 r7 e7 => ?_
        obtain rfl := it_int e7
        exact ⟨(r'.trans (R.of e4)).trans (rG.trans (r.trans r7)), some v, by rw [eLo, if_pos hc]; rfl⟩
      · have hc : ¬ (yW A kk ∈ l ∧ xW A kk ∉ l) := fun z => by rw [decide_eq_true z.1, decide_eq_false z.2] at hb; cases hb
        exact ⟨(r'.trans (R.of e4)).trans (rG.trans r), some v, by rw [eLo, if_neg hc]⟩
    · obtain ⟨o8, rfl⟩ := hP
      rw [List.length_map, List.take_length]
      exact s_ret (M := Non) (P := fun v H => It K H v (.tuple [.int (dueLo A Bs kk ls (xW Bs kk)), .int (dueHi A Bs kk ls (yW Bs kk))])) (ed_tup (ea2 (ed_var (k := 4) rfl (.int _)) (ed_var (k := 5) rfl (.int _))) (show 2 ≤ 100000 by decide)) fun v H5 r5 p => kR v H5 (r02.trans (r3.trans (r'.trans r5))).ex p
end
/-- what is found is what is due -/
theorem due_hi {n : Nat} {A Bs : List (Int × Int)} {k : Nat} {ls : List (List Int)} {v : Int} (W : WebOk n A) (hk : k < A.length) (hl : ∀ f, lotL n f ∈ ls) (g : GoodV n A Bs k 1 v) : dueHi A Bs k ls (yW Bs k) = v := by
  obtain ⟨T, hT⟩ := g.hi rfl
  obtain ⟨f, hw, hf, rfl⟩ := g.ex
  obtain ⟨d1, d2⟩ := dueHi_le (A := A) (Bs := Bs) (k := k) ls (yW Bs k)
  have le : f k ≤ dueHi A Bs k ls (yW Bs k) := le_dueHi ls _ (hw k hk).2 fun l _ c1 c2 => KM.weakHi W.Ends hw hf hk (decide_eq_true c1) (decide_eq_false c2)
  have ge : dueHi A Bs k ls (yW Bs k) ≤ f k := by
    rcases hT with e | ⟨t1, t2, e⟩
    · rw [e]; exact d1
    · obtain ⟨⟨ex1, ex2⟩, ey1, ey2⟩ := W.Ends k hk
      obtain ⟨X, hX⟩ := Int.eq_ofNat_of_zero_le ex1
      obtain ⟨Y, hY⟩ := Int.eq_ofNat_of_zero_le ey1
      have hc : ∀ u : Int, 0 ≤ u → u < n → decide (u ∈ lotL n fun i => T (i : Nat)) = T u := fun u h0 h1 => by
        obtain ⟨u', rfl⟩ := Int.eq_ofNat_of_zero_le h0
        by_cases c : T ((u' : Nat) : Int) = true
        · rw [c]; exact decide_eq_true (lot_mem.mpr ⟨u', by omega, c, rfl⟩)
        · have c' := Bool.eq_false_iff.mpr c
          rw [c']
          refine decide_eq_false fun z => ?_
          obtain ⟨u2, _, h3, h4⟩ := lot_mem.mp z
          have : u2 = u' := by omega
          subst this
          exact c h3
      have := d2 _ (hl fun i => T (i : Nat)) (of_decide_eq_true (by rw [hc _ ex1 ex2]; exact t1)) (of_decide_eq_false (by rw [hc _ ey1 ey2]; exact t2))
      rw [need_congr W.Ends hc] at this
      omega
  omega
theorem due_lo {n : Nat} {A Bs : List (Int × Int)} {k : Nat} {ls : List (List Int)} {v : Int} (W : WebOk n A) (hk : k < A.length) (hl : ∀ f, lotL n f ∈ ls) (g : GoodV n A Bs k (-1) v) : dueLo A Bs k ls (xW Bs k) = v := by
  obtain ⟨T, hT⟩ := g.lo rfl
  obtain ⟨f, hw, hf, rfl⟩ := g.ex
  obtain ⟨d1, d2⟩ := le_dueLo (A := A) (Bs := Bs) (k := k) ls (xW Bs k)
  have le : dueLo A Bs k ls (xW Bs k) ≤ f k := dueLo_le ls _ (hw k hk).1 fun l _ c1 c2 => KM.weakLo W.Ends hw hf hk (decide_eq_true c1) (decide_eq_false c2)
  have ge : f k ≤ dueLo A Bs k ls (xW Bs k) := by
    rcases hT with e | ⟨t1, t2, e⟩
    · rw [e]; exact d1
    · obtain ⟨⟨ex1, ex2⟩, ey1, ey2⟩ := W.Ends k hk
      have hc : ∀ u : Int, 0 ≤ u → u < n → decide (u ∈ lotL n fun i => T (i : Nat)) = T u := fun u h0 h1 => by
        obtain ⟨u', rfl⟩ := Int.eq_ofNat_of_zero_le h0
        by_cases c : T ((u' : Nat) : Int) = true
        · rw [c]; exact decide_eq_true (lot_mem.mpr ⟨u', by omega, c, rfl⟩)
        · have c' := Bool.eq_false_iff.mpr c
          rw [c']
          refine decide_eq_false fun z => ?_
          obtain ⟨u2, _, h3, h4⟩ := lot_mem.mp z
          have : u2 = u' := by omega
          subst this
          exact c h3
      have := d2 _ (hl fun i => T (i : Nat)) (of_decide_eq_true (by rw [hc _ ey1 ey2]; exact t1)) (of_decide_eq_false (by rw [hc _ ex1 ex2]; exact t2))
      rw [need_congr W.Ends hc] at this
      omega
  omega
end KP

/-! part KL5 -/
set_option Elab.async false
set_option linter.all false
set_option maxRecDepth 100000
set_option maxHeartbeats 4000000
/-! _law_told. -/
namespace KP
open PySem PySem.Spec PyProof.Rows L2 PySem.NWX
section
variable {P : Program} {w : World} {K : PySem.W.Frag} {mg : Str → Option Value} {base : Heap} {C CI fI : Addr}
-- _law_told: slots _law_door=0 _law_web_here=1 _law_bounds_here=2 _law_arrow=3 _law_named=4 _law_found=5 e=6
abbrev s__law_told : Stmt := topS 51
abbrev N__law_told : List Str := ["_law_door", "_law_web_here", "_law_bounds_here", "_law_arrow", "_law_named", "_law_found", "e"]
theorem sc__law_told : FnScope N__law_told ["_law_door", "_law_web_here", "_law_bounds_here", "_law_arrow", "_law_named"] (defScope s__law_told) := ⟨rfl, rfl, rfl, by decide +kernel, rfl, by decide +kernel, by decide +kernel⟩
/-- the list of a lot that bars -/
def RetBars (K : PySem.W.Frag) (n : Nat) (A Bs : List (Int × Int)) (H : Hp) (Q : VK) : Prop := ∀ f : Nat → Bool, 0 < KM.need A.length (xW A) (yW A) (xW Bs) (yW Bs) (fun v => decide (v ∈ lotL n f)) →
  ∀ (p : Addr) (v : V) (H1 : Hp), H p = none → Ex H H1 → H1 p = some (.lst [.str "bars", v]) → It K H1 v (.tuple ((lotL n f).map .int)) → Q (.ref p) H1
def sp_told (K : PySem.W.Frag) : Sp := fun vs H Q _ => ∃ (v1 v2 : V) (n : Nat) (A Bs : List (Int × Int)) (door k : Nat) (nm : Bool), vs = [.int (door : Nat), v1, v2, .int (k : Nat), .bl nm] ∧ It K H v1 (wD n A) ∧ It K H v2 (bD Bs) ∧ WebOk n A ∧ BdsOk A Bs ∧ (door = 0 → k < A.length) ∧
  (door = 0 → ∀ lo hi, GoodV n A Bs k (-1) lo → GoodV n A Bs k 1 hi → RetD K (.tuple [.int lo, .int hi]) H Q) ∧
  (door ≠ 0 → ∀ lo hi : Nat → Int, (∀ k, k < A.length → GoodV n A Bs k (-1) (lo k) ∧ GoodV n A Bs k 1 (hi k)) → RetD K (.tuple ((lotL A.length fun k => decide (lo k = hi k)).map .int)) H Q) ∧ RetBars K n A Bs H Q
theorem cl__law_told (T : NwTxt P K mg C fI) (EC : ExcC K C) (XF : XfC K C) (gI : mg "InvalidArrow" = some (.ref CI)) (e1 : PySem.W.exmOne K (.ref C) (.ref C) = some true) (e2 : PySem.W.kitOne K (.ref C) (.ref CI) = some false)
    (c_value_bounds : ClX P w K mg base 5 "value_bounds" ["web", "bounds", "arrow"] (sp_value_bounds K C)) (c_fixed_arrows : ClX P w K mg base 5 "fixed_arrows" ["web", "bounds"] (sp_fixed_arrows K C)) (B : GB mg) (DF : Df K mg "_law_told" s__law_told) : Cl P w K mg base 6 "_law_told" (sp_told K) := by
  obtain ⟨f, fd, F, g⟩ := DF.ex
  refine ⟨f, fd, ["_law_door", "_law_web_here", "_law_bounds_here", "_law_arrow", "_law_named"], F.ok sc__law_told (fun vs H Q E h => ?_) (fun cdv A outer s H vs Q E hr h => ?_), g, F.kp, F.binds fun _ _ _ _ _ _ us hl => match us, hl with | [_, _, _, _, _], _ => rfl⟩
  · obtain ⟨v1, v2, n, A, Bs, door, k, nm, rfl, _⟩ := h
    rfl
  · obtain ⟨v1, v2, n, A, Bs, door, k, nm, rfl, h1, h2, W, BO, hk, k0, k1, kB⟩ := h
    have nd := sc__law_told.nd
    refine ⟨_, (pss_cons (ps_set (i := 5) nd rfl (.inl rfl) pe_non)
      (pss_cons (ps_try_as1 (i := 6) rfl rfl nd rfl rfl ⟨rfl, by decide, Or.inl T.gC⟩ (fun W pn xe tk _ => (pss_one (ps_if (pt_cmpR (op_eq_K (K := K) hr.units) (pv 0) pe_int (nomark _)) (pss_one (ps_set (i := 5) nd rfl (.inl rfl) (pe_ifExp (pt_val (pv 4)) (pe_kR c_value_bounds tk hr (by decide) (by rfl) (pk_cons (pv 3) (pk_cons (pv 2) (pk_cons (pv 1) pk_nil)))) (pe_kX c_value_bounds tk hr (by decide) (by rfl) (pa_cons (pv 1) (pa_cons (pv 2) (pa_cons (pv 3) pa_nil))))))) (pss_one (ps_set (i := 5) nd rfl (.inl rfl) (pe_ifExp (pt_val (pv 4)) (pe_kR c_fixed_arrows tk hr (by decide) (by rfl) (pk_cons (pv 2) (pk_cons (pv 1) pk_nil))) (pe_kX c_fixed_arrows tk hr (by decide) (by rfl) (pa_cons (pv 1) (pa_cons (pv 2) pa_nil))))))))) (fun a oe cls d pn hz hf => (pss_one (ps_set (i := 5) nd rfl (.inl rfl) (pe_ifExp (pt_not (pt_val (pe_callB (call_isED EC hz hf) (by rfl) B.isinstance boot_isinstance (pa_cons (pv 6) (pa_cons (pe_glob (v := V.ref CI) (by rfl) gI rfl) pa_nil))))) (pe_lst (pa_cons pe_str (pa_cons (pe_xf XF T.noN hz hf (pv 6)) pa_nil))) pe_str)))))
      (pss_one (ps_ret (pv 5))))), ?_⟩
    refine q_asg (M := Non) (P := fun v _ => v = .non) (te := tC .non) ev_c fun v5 H1 r1 e5 => ?_
    subst e5
    have go : ∀ (ff : Nat → Bool), 0 < KM.need A.length (xW A) (yW A) (xW Bs) (yW Bs) (fun v => decide (v ∈ lotL n ff)) → ∀ (v : V) (d : Addr) (H2 : Hp), Ex H H2 → It K H2 v (.tuple ((lotL n ff).map .int)) → H2 d = none → ∀ (a : Addr) (σ6 : L2.St) (te : TE) (Dn : L2.St → Hp → Prop),
        te = tIf (tNot (tB (tCB (rIsED K C a (.ref C) (some d)) (tCons (tVar 6) (tCons (tC (.ref CI)) tNil))))) (tLst (tCons (tC (.str "bars")) (tCons (tXf a (.ref C) (some d) C "lot" (tVar 6)) tNil))) (tC (.str "other")) → σ6[6]? = some (some (.ref a)) →
        (∀ p H4, Q (.ref p) H4 → Dn (σ6.set 5 (some (.ref p))) H4) → te σ6 (upd H2 d (.xd [(("lot" : Str), v)])) fun u H4 => Dn (σ6.set 5 (some u)) H4 := fun ff hn v d H2 ex hv hd a σ6 te Dn hte h6 hD => by
      subst hte
      refine ⟨.ref a, h6, .ref CI, .ref CI, false, d, _, rfl, (fun u hu => by cases hu; rfl), rfl, rfl, upd_same, e2, false, rfl, ?_⟩
      refine ⟨.ref a, h6, rfl, rfl, d, _, v, rfl, upd_same, rfl, small (show 2 ≤ 100000 by decide), fun p hp => hD p _ ?_⟩
      have r : R Non H (upd H2 d (.xd [(("lot" : Str), v)])) := (R.of ex).new hd
      exact kB ff hn p v _ (r.free hp) (r.new hp).ex upd_same ((hv.new hd).new hp)
    refine s_if (M := Non) (b := decide (((door : Nat) : Int) = 0)) (et_test (ed_eqI (K := K) (ed_var (k := 0) rfl (.int _)) ed_i)) (fun hb H2 r2 => ?_) fun hb H2 r2 => ?_
    · have hd0 : door = 0 := by have := of_decide_eq_true hb; omega
      have rr := r1.trans r2
      refine ⟨.bl nm, rfl, nm, rfl, ?_⟩
      cases nm
      · refine ⟨v1, rfl, v2, rfl, .int (k : Nat), rfl, v1, v2, n, A, Bs, k, rfl, h1.mono rr, h2.mono rr, W, BO, hk hd0, fun lo hi g1 g2 v H3 x3 p => ⟨v, rfl, k0 hd0 lo hi g1 g2 v H3 (Ex.tr rr.ex x3) p⟩, fun ff hn v d H3 x3 hv hd => ⟨e1, fun a ha => ?_⟩⟩
        exact go ff hn v d H3 (Ex.tr rr.ex x3) hv hd a _ _ _ rfl rfl fun p H4 q => ⟨_, rfl, q⟩
      · refine ⟨.int (k : Nat), rfl, v2, rfl, v1, rfl, v1, v2, n, A, Bs, k, rfl, h1.mono rr, h2.mono rr, W, BO, hk hd0, fun lo hi g1 g2 v H3 x3 p => ⟨v, rfl, k0 hd0 lo hi g1 g2 v H3 (Ex.tr rr.ex x3) p⟩, fun ff hn v d H3 x3 hv hd => ⟨e1, fun a ha => ?_⟩⟩
        exact go ff hn v d H3 (Ex.tr rr.ex x3) hv hd a _ _ _ rfl rfl fun p H4 q => ⟨_, rfl, q⟩
    · have hd0 : door ≠ 0 := by have := of_decide_eq_false hb; omega
      have rr := r1.trans r2
      refine ⟨.bl nm, rfl, nm, rfl, ?_⟩
      cases nm
      · refine ⟨v1, rfl, v2, rfl, v1, v2, n, A, Bs, rfl, h1.mono rr, h2.mono rr, W, BO, fun lo hi g v H3 x3 p => ⟨v, rfl, k1 hd0 lo hi g v H3 (Ex.tr rr.ex x3) p⟩, fun ff hn v d H3 x3 hv hd => ⟨e1, fun a ha => ?_⟩⟩
        exact go ff hn v d H3 (Ex.tr rr.ex x3) hv hd a _ _ _ rfl rfl fun p H4 q => ⟨_, rfl, q⟩
      · refine ⟨v2, rfl, v1, rfl, v1, v2, n, A, Bs, rfl, h1.mono rr, h2.mono rr, W, BO, fun lo hi g v H3 x3 p => ⟨v, rfl, k1 hd0 lo hi g v H3 (Ex.tr rr.ex x3) p⟩, fun ff hn v d H3 x3 hv hd => ⟨e1, fun a ha => ?_⟩⟩
        exact go ff hn v d H3 (Ex.tr rr.ex x3) hv hd a _ _ _ rfl rfl fun p H4 q => ⟨_, rfl, q⟩
end
end KP

/-! part KG -/
set_option Elab.async false
set_option linter.all false
set_option maxRecDepth 100000
set_option maxHeartbeats 4000000
/-! repr of tuples of data; defs that need the caller's guards empty; the end with guards. -/
namespace KP
open PySem PySem.Spec PyProof.Rows L2
section
variable {X : Cx} {pins : List (Addr × Obj)} {σ : L2.St} {H : Hp} {s : Shared} {K : PySem.W.Frag}
mutual
theorem it_reads (I : Inv X pins σ H s) : ∀ (d : PyData) (v : V) (u : Value), It X.K H v d → RelV v u → Reads s.heap u d []
  | .none, _, _, .non, r => by cases r; exact .none
  | .bool b, _, _, .bl _, r => by cases r; exact .bool b
  | .int i, _, _, .int _, r => by obtain ⟨t, rfl⟩ := r; exact .int i t
  | .str x, _, _, .str _, r => by obtain ⟨t, rfl⟩ := r; exact .str x t
  | .tuple ds, _, _, .tup h hs, r => by
    obtain ⟨its, rv, ⟨o, e1, e2, n, e3⟩, _⟩ := I.tuple h
    cases r
    exact .tuple e1 e2 e3 (by simpa using it_readsAll I ds _ _ hs rv)
theorem it_readsAll (I : Inv X pins σ H s) : ∀ (ds : List PyData) (vs : List V) (us : List Value), ItAll X.K H vs ds → Vals vs us → ReadsAll s.heap us ds []
  | [], _, _, .nil, .nil => .nil
  | d :: ds, _, _, .cons h hs, .cons r rs => ReadsAll.cons (as := []) (bs := []) (it_reads I d _ _ h r) (it_readsAll I ds _ _ hs rs)
end
abbrev rRepr (K : PySem.W.Frag) : List V → Hp → VK → Prop := fun xs H Q => ∃ (v : V) (ds : List PyData), xs = [v] ∧ It K H v (.tuple ds) ∧ (PyData.tuple ds).showable = true ∧ (PyData.tuple ds).hasDict = false ∧ (PyData.tuple ds).shown.length ≤ sizeLine ∧ (PyData.tuple ds).depth ≤ 8 ∧ Q (.str (PyData.tuple ds).shown) H
theorem call_reprT (hg : X.A.guards = some []) (hu : X.A.units + 64 < cLine) (h : X.K = K := by rfl) : CallR X (.builtin "repr") (rRepr K) := by
  subst h
  intro pins s σ H xs us Q I r h
  obtain ⟨v, ds, rfl, hi, hs, hd, hz, hp, q⟩ := h
  cases r with
  | cons rx rr =>
    cases rr
    obtain ⟨a, xs', rfl, hs', hall⟩ := it_tup hi
    cases rx
    exact repr_of_reads' (it_reads I _ _ _ hi rfl) hs (PyData.noDict_hsm hd) hg (by omega) (fun _ _ e => e) (fun h' u tk hk => ⟨.str _, H, I.kept hk, ⟨u, rfl⟩, q⟩) hz
theorem shorts : ∀ (ns : List Int), (∀ i ∈ ns, -999999999999 ≤ i ∧ i ≤ 999999999999) → PyData.showableAll (ns.map .int) = true ∧ PyData.hasDictAll (ns.map .int) = false ∧ PyData.leavesShortAll 13 (ns.map .int) = true ∧ PyData.bulkAll (ns.map .int) = ns.length ∧ PyData.depthAll (ns.map .int) ≤ 0
  | [], _ => by refine ⟨rfl, rfl, rfl, rfl, ?_⟩ ; first | exact Nat.le_refl _ | simp [PyData.depthAll]
  | n :: ns, h => by
    obtain ⟨h1, h2, h3, h4, h5⟩ := shorts ns fun i hi => h i (List.mem_cons_of_mem _ hi)
    obtain ⟨a, b⟩ := h n List.mem_cons_self
    have k1 : PyData.showable (.int n) = true := by
      simp only [PyData.showable, decide_eq_true_eq]
      have : n.natAbs.log2 < 64 := by
        by_cases c : n.natAbs = 0
        · rw [c]; decide
        · exact (Nat.log2_lt c).mpr (by omega)
      omega
    have k3 : PyData.leavesShort 13 (.int n) = true := by
      simp only [PyData.leavesShort, decide_eq_true_eq]
      exact PyData.shown_int_le2 a b
    refine ⟨?_, ?_, ?_, ?_, ?_⟩
    · simp only [List.map_cons, PyData.showableAll, k1, h1, Bool.and_self]
    · simp only [List.map_cons, PyData.hasDictAll, PyData.hasDict, h2, Bool.or_self]
    · simp only [List.map_cons, PyData.leavesShortAll, k3, h3, Bool.and_self]
    · simp only [List.map_cons, PyData.bulkAll, PyData.bulk, h4, List.length_cons]; omega
    · simp only [List.map_cons, PyData.depthAll, PyData.depth]; omega
theorem repr_ints {ns : List Int} (h : ∀ i ∈ ns, -999999999999 ≤ i ∧ i ≤ 999999999999) (hl : ns.length ≤ 1000) : (PyData.tuple (ns.map .int)).showable = true ∧ (PyData.tuple (ns.map .int)).hasDict = false ∧ (PyData.tuple (ns.map .int)).shown.length ≤ sizeLine ∧ (PyData.tuple (ns.map .int)).depth ≤ 8 := by
  obtain ⟨h1, h2, h3, h4, h5⟩ := shorts ns h
  refine ⟨by simpa only [PyData.showable] using h1, by simpa only [PyData.hasDict] using h2, ?_, by simp only [PyData.depth]; omega⟩
  have := PyData.shown_le_bulk 13 (by decide) (.tuple (ns.map .int)) (by simpa only [PyData.leavesShort] using h3)
  simp only [PyData.bulk] at this
  rw [h4] at this
  exact Nat.le_trans this (small (by omega))
/-- repr of a tuple of iv -/
theorem ed_repr {M : MM} {te : TE} {ns : List Int} (h : ED K M te σ H (.tuple (ns.map .int))) (hb : ∀ i ∈ ns, -999999999999 ≤ i ∧ i ≤ 999999999999) (hl : ns.length ≤ 1000) : ED K M (tCB (rRepr K) (tCons te tNil)) σ H (.str (PyData.tuple (ns.map .int)).shown) := fun H1 r Q k => h H1 r _ fun v H2 r2 p => by
  obtain ⟨a1, a2, a3, a4⟩ := repr_ints hb hl
  exact ⟨v, _, rfl, p, a1, a2, a3, a4, k _ H2 r2 (.str _)⟩
end

/-! ### defs that need empty guards -/
/-- one call of the def at f from around A: it keeps its promise -/
abbrev CallKeeps (P : Program) (w : World) (K : PySem.W.Frag) (mg : Str → Option Value) (base : Heap) (CX : CXT) (f : Addr) (fd : FuncData) (ps : List Str) (sp : Sp) (A : Around) : Prop :=
  ∀ {outer : List Env} {s : Shared} {H : Hp} {args : Args} {us : List Value} {vs : List V} {Q : VK} {E : XK}, Env0 P w K mg base A outer s H → BindsTo s fd args (ps.zip us) → Vals vs us → sp vs H Q E → codeAny (model P w) A (.call (.ref f) args) (CR CX outer P w H s Q E) s
structure FnG (P : Program) (w : World) (K : PySem.W.Frag) (mg : Str → Option Value) (base : Heap) (CX : CXT) (k : Nat) (f : Addr) (fd : FuncData) (ps : List Str) (sp : Sp) : Prop where
  many : ∀ {vs H Q E}, sp vs H Q E → vs.length = ps.length
  call : ∀ A : Around, Room k A → A.guards = some [] → CallKeeps P w K mg base CX f fd ps sp A
theorem guards_deeper {A : Around} {env : Env} (h : A.guards = some []) : (A.deeper env).guards = some [] := h
theorem fn_ofG {CX : CXT} {P : Program} {w : World} {K : PySem.W.Frag} {mg : Str → Option Value} {base : Heap} {k : Nat} {f : Addr} {x qual : Str} {ag : Arguments} {bd : List Stmt} {sc : Scope} {dv kv dc pm cdv ct oc : Value} {an od : Option Addr}
    {sl : Array (Option Value)} {N ps : List Str} {sp : Sp} (lk : K.lookup f = some ⟨oc, od, .func (PySem.W.fnOf x qual ag bd sc dv kv dc pm an cdv ct), sl⟩) (cin : PySem.W.codeIn K cdv qual = true) (S : FnScope N ps sc)
    (ln : ∀ vs H Q E, sp vs H Q E → vs.length = ps.length)
    (der : ∀ (A : Around) (outer : List Env) (s : Shared) (H : Hp) (vs : List V) (Q : VK) (E : XK), Room k (A.deeper (envOfC qual sc s.heap.objs.size f cdv)) → (A.deeper (envOfC qual sc s.heap.objs.size f cdv)).guards = some [] → sp vs H Q E →
      ∃ t, PSs (cxOf CX P w K mg base N qual sc f cdv A outer s H E) bd t ∧ t { nx := fun _ G => Q .non G, rt := Q } (start N vs) H) :
    FnG P w K mg base CX (k + 1) f (PySem.W.fnOf x qual ag bd sc dv kv dc pm an cdv ct) ps sp where
  many := ln _ _ _ _
  call := fun A room gu outer s H args us vs Q E e0 bnd rel pr => by
    have hl := ln _ _ _ _ pr
    have inK : K.In s.heap := e0.mod.kin.keeps fun b o z => (e0.bs b o z).1
    obtain ⟨t, d, rd⟩ := der A outer s H vs Q E (room.deeper _) gu pr
    -- where each parameter lies
    have lies : ∀ q ∈ ps.zip us, sc.names.lookup q.1 = some .local ∨ (sc.names.lookup q.1 = some .cell ∧ ((cellsFrom (s.heap.objs.size + 1) sc.names []).lookup q.1).isSome = true) := by
      intro q hq
      exact (S.par q.1 (List.of_mem_zip (a := q.1) (b := q.2) hq).1).imp id fun z => ⟨z, PySem.W.cellsFrom_some _ _ _ (.inl z)⟩
    refine codeAny_call_function room.depth (inK _ _ lk) rfl S.co S.gen rfl (PySem.W.codeRec_of inK cin) (bnd _ _ _ _ (wpAny_newFunctionEnv_cells S.kind lies fun env ee sB made => ?_))
    cases ee
    refine ⟨(e0.mod.nolimit.keeps fun b o z => (e0.bs b o z).1).keeps made.toInCall.keep, codeAny_func (wpAny_mono (d.run [] sB (start N vs) H _ (inv_start S room.hd e0 hl rel made) rd) ?_ fun _ _ z => z)⟩
    intro fl sE ends
    match fl, ends with
    | .ret u, ⟨v, _, G, J, rv, q⟩ => exact ⟨v, G, J.os, J.bare, J.base, J.hok, rv, q⟩
    | .next, ⟨_, G, J, q⟩ => exact ⟨.non, G, J.os, J.bare, J.base, J.hok, rfl, q⟩
    | .brk, ⟨_, _, _, q⟩ => exact q.elim
    | .cont, ⟨_, _, _, q⟩ => exact q.elim
/-- the body of st, read in the frame of a call, the guards told -/
abbrev BodyG (P : Program) (w : World) (K : PySem.W.Frag) (mg : Str → Option Value) (base : Heap) (N : List Str) (qual : Str) (st : Stmt) (f : Addr) (k : Nat) (sp : Sp) : Prop :=
  ∀ (cdv : Value) (A : Around) (outer : List Env) (s : Shared) (H : Hp) (vs : List V) (Q : VK) (E : XK), let D := A.deeper (envOfC qual (defScope st) s.heap.objs.size f cdv)
    Room k D → D.guards = some [] → sp vs H Q E → ∃ t, PSs (cxOf CX0 P w K mg base N qual (defScope st) f cdv A outer s H E).nox (defBody st) t ∧ t { nx := fun _ G => Q .non G, rt := Q } (start N vs) H
section
variable {P : Program} {w : World} {K : PySem.W.Frag} {mg : Str → Option Value} {base : Heap} {N ps : List Str} {k : Nat} {sp : Sp}
theorem okG0 {x qual : Str} {st : Stmt} {f : Addr} {fd : FuncData} (F : Fun K x qual st f fd) (S : FnScope N ps (defScope st)) (len : ∀ vs H Q E, sp vs H Q E → vs.length = ps.length) (body : BodyG P w K mg base N qual st f k sp) : FnG P w K mg base CX0 (k + 1) f fd ps sp :=
  match fd, F.ex with
  | _, ⟨_, _, _, _, _, _, cdv, _, _, rfl, lk, cd⟩ => fn_ofG lk cd S len fun A outer s H vs Q E room gu pr => (body cdv A outer s H vs Q E room gu pr).imp fun _ h => ⟨h.1.nox, h.2⟩
structure ClG (P : Program) (w : World) (K : PySem.W.Frag) (mg : Str → Option Value) (base : Heap) (k : Nat) (x : Str) (sp : Sp) : Prop where
  ex : ∃ (f : Addr) (fd : FuncData) (ps : List Str), FnG P w K mg base CX0 k f fd ps sp ∧ mg x = some (.ref f) ∧ PySem.W.keepIn K (.ref f) = true ∧ Binds K fd ps []
end
/-- with the guards told, a def as the layer knows it -/
theorem runG {X : Cx} {k : Nat} {f : Addr} {fd : FuncData} {ps : List Str} {sp : Sp} {pins : List (Addr × Obj)} {σ : L2.St} {H : Hp} {s : Shared} {Q : VK} {us : List Value} {vs : List V} (F : FnG X.prog X.w X.K X.mg X.base CX0 k f fd ps sp) (room : Room k X.A) (gu : X.A.guards = some [])
    (bnd : Binds X.K fd ps []) (I : Inv X pins σ H s) (r : Vals vs us) (q : sp vs H Q E0) : wpAny (model X.prog X.w) X.A (call (.ref f) us) (EP X pins σ Q) X.xe s := by
  have all : (us ++ []).length = ps.length := by rw [List.append_nil, ← F.many q, r.length]
  have bound : BindsTo s fd ⟨us, []⟩ (ps.zip us) := by simpa only [List.append_nil] using bnd s us I.kIn all
  refine wpAny_call (codeAny_mono (F.call X.A room gu I.env0 bound r q) fun res s2 out => ?_)
  match res, out with
  | .ok (.ret _), got => exact I.after got
  | .error e, air => exact pass0 pins σ H s e s2 I air
theorem pe_kG {X : Cx} {k j : Nat} {x : Str} {sp : Sp} {p pos : Pos} {e : Expr} {es : List Expr} {t : TA} (c : ClG X.prog X.w X.K X.mg X.base k x sp) (gu : X.A.guards = some []) (hr : Room j X.A) (hk : k ≤ j) (hg : Gl X x) (ha : PA X (e :: es) t)
    (pl : Plainly X x e es pos := by exact ⟨by decide, by rfl, by rfl⟩) : PE X (.Call (.Name x p) (e :: es) [] pos) (tCall sp [] E0 t) where
  run pins s σ H Q I h :=
    let ⟨_, _, _, F, m, kp, bnd⟩ := c.ex
    wpAny_Call_Name_kw (ld_glob I hg m (PySem.W.callWith_K (h₀ := X.base) I.ok.mod.kin kp (thn (ha.run pos pins s σ H _ I h) fun _ _ ⟨vs, _, I1, r, q⟩ => ⟨I1.kIn, runG F (hr.mono hk) gu bnd I1 r (List.append_nil vs ▸ q)⟩) pl.each pl.rest) pl.name)
/-! ### the end -/
/-- the script as the abstract heap knows it: tracked, unless it is one of the written part's own -/
def scH (K : PySem.W.Frag) (a : Addr) (vs : List Value) (ns : List Int) : Hp := fun b => if b = a ∧ K.lookup a = none then some (.frz { cls := .type "list", data := .seq vs.toArray } (.lst (ns.map V.int))) else none
section
variable {K : PySem.W.Frag} {a : Addr} {vs : List Value} {ns : List Int}
theorem scH_at {b : Addr} {u : HO} (h : scH K a vs ns b = some u) : b = a ∧ K.lookup a = none ∧ u = .frz { cls := .type "list", data := .seq vs.toArray } (.lst (ns.map V.int)) := by
  unfold scH at h
  split at h
  · rename_i c
    exact ⟨c.1, c.2, (Option.some.inj h).symm⟩
  · cases h
theorem scH_only : Only (scH K a vs ns) := fun b => by
  cases e : scH K a vs ns b with
  | none => exact .inl rfl
  | some u => exact .inr ⟨_, _, by rw [(scH_at e).2.2]⟩
end
theorem law_callG {P : Program} {w : World} {K : PySem.W.Frag} {mg mb : Str → Option Value} {CX : CXT} {k : Nat} {f a : Addr} {fd : FuncData} {x : Str} {sp : Sp} {s : Shared} {vs : List Value} {ns : List Int}
    (inK : K.In s.heap) (gNs : s.heap.Ns mainGlobals mg) (bNs : s.heap.Ns builtinsNs mb) (boot : ∀ y : Str, y ≠ "__name__" → mb y = bootBuiltins y) (lim : s.heap.NoLimit) (gens : s.gens = #[])
    (at' : s.heap.get? a = some { cls := .type "list", data := .seq vs.toArray }) (iv : IntsAre vs ns) (short : ns.length ≤ sizeLine) (room : Room k callerA)
    (F : ∀ base : Heap, K.In base → base.Ns mainGlobals mg → FnG P w K mg base CX k f fd [x] sp) (bnd : ∀ (s : Shared) (u : Value), BindsTo s fd ⟨[u], []⟩ [(x, u)])
    (pr : ∀ H : Hp, Only H → SqL K H a (ns.map V.int) → sp [.ref a] H (fun v _ => v = .bl true) fun _ _ _ => False) (air : ∀ H e s', CX [] H s (fun _ _ _ => False) e s' → False) :
    codeAny (model P w) callerA (.call (.ref f) ⟨[.ref a], []⟩) (fun r s' => r = .ok (.ret (.bool true)) ∧ OldK s.heap s'.heap ∧ s'.os = s.os ∧ AllBare s'.gens) s := by
  obtain ⟨H, eH⟩ : ∃ H, H = scH K a vs ns := ⟨_, rfl⟩
  have rel : Vals (ns.map V.int) vs := vals_ints iv
  have known : ∀ {b : Addr} {u : HO}, H b = some u → b = a ∧ K.lookup a = none ∧ u = .frz { cls := .type "list", data := .seq vs.toArray } (.lst (ns.map V.int)) := fun {b u} h => scH_at (eH ▸ h)
  -- what the abstract heap does not know stands in the base
  have free : ∀ {b : Addr} {o : Obj}, s.heap.get? b = some o → (b = a → K.lookup a ≠ none) → (hidT s.heap H).get? b = some o := fun {b o} ho nb => hidT_get ho (by
    cases e : H b with
    | none => rfl
    | some u => exact absurd (known e).2.1 (nb (known e).1))
  have freeN : ∀ {b : Addr} {m : Str → Option Value}, s.heap.Ns b m → (hidT s.heap H).Ns b m := fun {b m} ⟨o, es, ep, ho, hd, r⟩ => by
    refine ⟨o, es, ep, free ho fun z => ?_, hd, r⟩
    subst z
    rw [at'] at ho
    cases ho
    exact nomatch (show Data.seq vs.toArray _ = Data.dict es ep from hd)
  have baseK : K.In (hidT s.heap H) := fun b o e => free (inK b o e) fun z => by rw [← z, e]; exact fun q => nomatch q
  have sq : SqL K H a (ns.map V.int) := by
    cases hk : K.lookup a with
    | none => exact .inl (.inr ⟨_, by rw [eH]; exact if_pos ⟨rfl, hk⟩⟩)
    | some o =>
      have same := inK a o hk
      rw [at'] at same
      cases same
      exact .inr ⟨_, vs.toArray, _, hk, rfl, rfl, rfl, by rw [List.size_toArray, iv.length]; exact short, by simpa using rel⟩
  have ok : HOk P w H s.heap := fun b u h => by
    obtain ⟨e1, _, e2⟩ := known h
    subst e1
    subst e2
    exact ⟨at', by rw [List.length_map]; exact short, vs, _, rel, at'⟩
  have md : Mod K mg (hidT s.heap H) := by
    obtain ⟨mc, c1, c2⟩ := lim
    exact ⟨baseK, freeN gNs, ⟨mb, freeN bNs, boot⟩, ⟨mc, freeN c1, c2⟩⟩
  have e0 : Env0 P w K mg (hidT s.heap H) callerA [] s H := { frames := rfl, mod := md, bs := fun _ _ z => of_hidT z, bsz := Nat.le_of_eq (hidT_size _ _), funs := trivial, frf := (fun _ z => nomatch z), hok := ok, bare := .of_eq gens }
  have on : Only H := eH ▸ scH_only
  refine codeAny_mono ((F _ baseK (freeN gNs)).call callerA room rfl e0 (us := [.ref a]) (vs := [.ref a]) (bnd s (.ref a)) (.cons rfl .nil) (pr H on sq)) ?_
  intro r s' fin
  match r, fin with
  | .error e, fin => exact (air H e s' fin).elim
  | .ok .next, fin => exact fin.elim
  | .ok .brk, fin => exact fin.elim
  | .ok .cont, fin => exact fin.elim
  | .ok (.ret u), ⟨v, G, os, bare, un, okG, rv, q⟩ =>
    have q : v = .bl true := q
    subst q
    have rv : u = Value.bool true := rv
    subst rv
    refine ⟨rfl, .of_keep fun b o ho => ?_, os, bare⟩
    cases e : H b with
    | none => exact un.keep b o ho e (fun z => nomatch z) (fun z => nomatch z)
    | some t =>
      obtain ⟨e1, _, e2⟩ := known e
      subst e1
      subst e2
      rw [at'] at ho
      cases ho
      exact (okG _ _ (un.frzs _ _ _ e)).1
/-- the law's def, wherever the written part has it: a call keeps its promise -/
abbrev LawDef (P : Program) (K : Params → PySem.W.Frag) (CX : World → CXT) (k : Nat) (name x : Str) (sp : World → Sp) : Prop := ∀ (w : World) (mg : Str → Option Value) (fa : Addr) (h : Heap), (K w.params).In h → h.Ns mainGlobals mg → mg name = some (.ref fa) → ∃ fd : FuncData,
  (∀ (s : Shared) (u : Value), BindsTo s fd ⟨[u], []⟩ [(x, u)]) ∧ ∀ base : Heap, (K w.params).In base → base.Ns mainGlobals mg → FnG P w (K w.params) mg base (CX w) k fa fd [x] (sp w)
theorem walk_ofG {l : PySem.W.OpenLaw} {n k : Nat} {q : Program} {loose : List Str} {XP : (Str → Option Value) → Heap → Prop} {YP : World → Heap → Prop} {d : DefRec} {K : Params → PySem.W.Frag} {CX : World → CXT} {sp : World → Sp} {x : Str}
    (most : l.most = some n) (line : n ≤ sizeLine) (nodef : d.params.defaults = []) (room : Room k callerA) (says : ∀ (w : World) (h : Heap), YP w h → (K w.params).In h)
    (F : LawDef l.prog K CX k d.name x sp)
    (pr : ∀ (w : World) (H : Hp) (a : Addr) (ns : List Int), ns.length ≤ n → (∀ z ∈ ns, Builtin.Int.intBits z ≤ 1048576) → Only H → SqL (K w.params) H a (ns.map V.int) → sp w [.ref a] H (fun v _ => v = .bl true) fun _ _ _ => False)
    (air : ∀ (w : World) (H : Hp) (s : Shared) (e : Value) (s' : Shared), CX w [] H s (fun _ _ _ => False) e s' → False) : PySem.W.WalkO q loose XP YP l.row.toRowW d [] (fun f vs => PySem.call f vs) :=
  Att.attach_callB most nodef fun w s0 s1 mg mb fa o pm cd doc a vs ns G Y ho hd hcd gfa obj iv len bits gens =>
    match F w mg fa _ (says w _ Y) G.T.g gfa with
    | ⟨fd, bnd, ok⟩ => law_callG (says w _ Y) G.T.g G.T.b G.T.builtins G.T.nolimit gens obj iv (Nat.le_trans len line) room ok bnd (fun H on sq => pr w H a ns len bits on sq) fun H e s' => air w H s1 e s'
end KP

/-! part KL6 -/
set_option Elab.async false
set_option linter.all false
set_option maxRecDepth 100000
set_option maxHeartbeats 4000000
/-! _law_right. -/
namespace KP
open PySem PySem.Spec PyProof.Rows L2 PySem.NWX
section
variable {K : PySem.W.Frag} {M : MM} {σ : L2.St} {H H' : Hp} {ta tb te tx tl : TE} {t u : TT} {v x y z : V} {d e : PyData} {P1 P2 P3 : V → Hp → Prop} {ds es : List PyData} {i j : Int} {A : Int → Prop}
theorem ev_eqG (h : EI M ta σ H A) : Ev M (tOp (rEqD K) ta (tC (.int j))) σ H (fun v _ => ∃ b, v = .bl b) := fun H1 r Q k => h H1 r _ fun v H2 r2 ⟨i, e, _⟩ => by
  subst e
  exact ⟨.int i, .int j, .int i, .int j, rfl, rfl, k _ H2 r2 ⟨_, rfl⟩⟩
theorem stb_b : Stb M (fun v _ => ∃ b, v = V.bl b) := fun _ _ _ _ h => h
theorem ed_neS {x y : PySem.Str} (ha : ED K M ta σ H (.str x)) (hb : ED K M tb σ H (.str y)) : ED K M (tOp rNe ta tb) σ H (.bool (!decide (x = y))) :=
  ev_op ha stb_d hb fun v w H1 r p1 p2 Q q => by
    cases p1
    cases p2
    refine ⟨rfl, ?_⟩
    have e : decide (V.str x = V.str y) = decide (x = y) := by
      by_cases c : x = y
      · subst c; simp
      · rw [decide_eq_false c, decide_eq_false (fun z => c (V.str.inj z))]
    rw [e]
    exact q _ H1 (R.refl _) (.bl _)
theorem ed_notinD (ha : EDp K ta σ H d) (hb : EDp K tb σ H (.list ds)) (s1 : SeqAt.shaped d = true) (s2 : SeqAt.shaped (.list ds) = true) : ED K Non (tOp (rNotInD K) ta tb) σ H (.bool (!ds.any fun z => PyData.eqv z d)) :=
  ev_op ha stb_dp hb fun x y H1 r p1 p2 Q q => ⟨d, ds, p1, p2, s1, s2, q _ H1 (R.refl _) (.bl _)⟩
theorem kb_ll : kitB "list" "list" = some true := by decide +kernel
theorem ed_isiL {a : Addr} {xs : List V} (h : EV Non te σ H (.ref a)) (hx : H a = some (.lst xs)) : ED K Non (tCB (rIsi K) (tCons te (tCons (tC (.ty "list")) tNil))) σ H (.bool true) := fun H1 r Q k => h H1 r _ fun v H2 r2 p => by
  subst p
  exact ⟨.ref a, .ty "list", .type "list", .type "list", true, rfl, .ty "list", .base (.lst ((r.trans r2).keep (fun z => z) hx)), kit_ty kb_ll, k _ H2 r2 (.bl true)⟩
theorem got_any {f : Nat → Bool} {P : Nat → PyData → Prop} {n : Nat} {ds : List PyData} (h : Got f P n ds) : (ds = [] → ∀ i, i < n → f i = false) ∧ (ds ≠ [] → ∃ i, i < n ∧ f i = true) ∧ ∀ d ∈ ds, ∃ i, P i d := by
  induction h with
  | nil => exact ⟨fun _ i hi => by omega, fun z => absurd rfl z, fun _ z => nomatch z⟩
  | @yes i ds d _ hf p ih =>
    refine ⟨fun z => by simp at z, fun _ => ⟨i, by omega, hf⟩, fun e he => ?_⟩
    rcases List.mem_append.mp he with he | he
    · exact ih.2.2 e he
    · rw [List.mem_singleton.mp he]; exact ⟨i, p⟩
  | @no i ds _ hf ih =>
    refine ⟨fun z j hj => ?_, fun z => ?_, ih.2.2⟩
    · by_cases c : j = i
      · subst c; exact hf
      · exact ih.1 z j (by omega)
    · obtain ⟨j, hj, e⟩ := ih.2.1 z
      exact ⟨j, by omega, e⟩
theorem eqv_lD {l : List Int} : PyData.eqv (lD l) (lD l) = true := by rw [eqv_tints]; simp
theorem lots_any {ls : List (List Int)} {l : List Int} (h : l ∈ ls) : ((ls.map lD).any fun z => PyData.eqv z (lD l)) = true := List.any_eq_true.mpr ⟨lD l, List.mem_map.mpr ⟨l, h, rfl⟩, eqv_lD⟩
theorem sh_lD {l : List Int} : Sh 1 (lD l) := sh_tup sh_ints
theorem sh_lots {ls : List (List Int)} : SeqAt.shaped (.list (ls.map lD)) = true := (sh_list (n := 1) fun d hd => by
  obtain ⟨l, _, rfl⟩ := List.mem_map.mp hd
  exact sh_lD).shaped (by decide)
theorem hu65 {A : Around} {k : Nat} (hr : Room k A) : A.units + 65 < cLine := by have := hr.un; omega
theorem evp_l {P : List PyData → Prop} (h : ELP K Non te σ H P) : Ev Non te σ H (fun v H2 => ∃ ds, Dp K H2 v (.list ds) ∧ P ds) := fun H1 r Q k => h H1 r Q fun p xs ds H2 hn r2 hp hall hP => k _ H2 r2 ⟨ds, .lst (.inl (.inl hp)) (ItAll.dp _ _ hall), hP⟩
theorem stb_lp {P : List PyData → Prop} : Stb Non (fun v H => ∃ ds, Dp K H v (.list ds) ∧ P ds) := fun _ _ _ r ⟨ds, h, p⟩ => ⟨ds, dp_ex r.ex _ _ h, p⟩
theorem ed_bar {p : Addr} {w : V} {l : List Int} (h : σ[8]? = some (some (.ref p))) (hx : H p = some (.lst [.str "bars", w])) (hv : It K H w (lD l)) : ED K Non (tOp (rIx K) (tVar 8) (tC (.int 1))) σ H (lD l) :=
  ed_ixL (ds := [.str "bars", lD l]) (ev_var h) ed_i (.inl (.inl hx)) (fun _ z => z) (.cons (.str _) (.cons hv .nil)) rfl
theorem lotL_len {n : Nat} {f : Nat → Bool} : (lotL n f).length ≤ n := by
  unfold lotL
  rw [List.length_map]
  exact Nat.le_trans (List.length_filter_le _ _) (by rw [List.length_range]; exact Nat.le_refl _)
theorem two_bools {i : Nat} {d : PyData} (h : ([.bool false, .bool true] : List PyData)[i]? = some d) : ∃ b, d = .bool b := by
  match i, h with
  | 0, h => exact ⟨false, (Option.some.inj h).symm⟩
  | 1, h => exact ⟨true, (Option.some.inj h).symm⟩
  | i + 2, h => simp at h
theorem need_nil {x y lo hi : Nat → Int} {T : Int → Bool} : KM.need 0 x y lo hi T = 0 := rfl
end
section
variable {P : Program} {w : World} {K : PySem.W.Frag} {mg : Str → Option Value} {base : Heap} {C CI fI : Addr}
-- _law_right: slots _law_mill_here=0 _law_web_here=1c _law_bounds_here=2c _law_lots_here=3 _law_barred=4 _law_fixed=5 _law_arrow=6 _law_due_here=7 _law_told_here=8 _law_named=9 _law_lot=10
abbrev s__law_right : Stmt := topS 52
abbrev N__law_right : List Str := ["_law_mill_here", "_law_web_here", "_law_bounds_here", "_law_lots_here", "_law_barred", "_law_fixed", "_law_arrow", "_law_due_here", "_law_told_here", "_law_named", "_law_lot"]
theorem sc__law_right : FnScope N__law_right ["_law_mill_here", "_law_web_here", "_law_bounds_here"] (defScope s__law_right) := ⟨rfl, rfl, rfl, by decide +kernel, rfl, by decide +kernel, by decide +kernel⟩
def sp_right (K : PySem.W.Frag) : Sp := fun vs H Q _ => ∃ (a : Addr) (v1 v2 : V) (n : Nat) (A Bs : List (Int × Int)), vs = [.ref a, v1, v2] ∧ Mok a H ∧ It K H v1 (wD n A) ∧ It K H v2 (bD Bs) ∧ WebOk n A ∧ BdsOk A Bs ∧ ∀ H2, R (Mil a) H H2 → Q (.bl true) H2
theorem cl__law_right (c__law_grind : Cl P w K mg base 1 "_law_grind" sp_grind) (c__law_lots : Cl P w K mg base 1 "_law_lots" (sp_lots K)) (c__law_need : Cl P w K mg base 1 "_law_need" (sp_need K)) (c__law_numbers : Cl P w K mg base 2 "_law_numbers" (sp_numbers K)) (c__law_due : Cl P w K mg base 2 "_law_due" (sp_due K)) (c__law_told : Cl P w K mg base 6 "_law_told" (sp_told K))
    (B : GB mg) (DF : Df K mg "_law_right" s__law_right) : ClG P w K mg base 7 "_law_right" (sp_right K) := by
  obtain ⟨f, fd, F, g⟩ := DF.ex
  refine ⟨f, fd, ["_law_mill_here", "_law_web_here", "_law_bounds_here"], okG0 F sc__law_right (fun vs H Q E h => ?_) (fun cdv A outer s H vs Q E hr hgd h => ?_), g, F.kp, F.binds fun _ _ _ _ _ _ us hl => match us, hl with | [_, _, _], _ => rfl⟩
  · obtain ⟨a, v1, v2, n, A, Bs, rfl, _⟩ := h
    rfl
  · obtain ⟨a, v1, v2, n, A, Bs, rfl, hm, h1, h2, W, BO, k⟩ := h
    have nd := sc__law_right.nd
    refine ⟨_, (pss_cons (ps_set (i := 3) nd rfl (.inl rfl) (pe_k c__law_lots hr (by decide) (by rfl) (pa_cons (pe_ix (ix_K (K := K)) (pv 1) pe_int (fun _ _ => rfl)) pa_nil)))
      (pss_cons (ps_set (i := 4) nd rfl (.inl rfl) (pe_cmpR (op_ne_K (K := K) hr.units) (pe_lc (own := [("_law_lot", 10)]) (g := (gName 10)) rfl nd (pi_list_K (K := K) (pv 3)) (blkOk_by (own := [("_law_lot", 10)]) (N := N__law_right) (sc := defScope s__law_right) (by decide +kernel)) (fun _ _ _ _ _ => (pg_name (i := 10) nd rfl (.inl rfl))) (fun _ _ _ _ _ => (pts_one (pt_cmpR op_gt (pe_k c__law_need hr (by decide) (by rfl) (pa_cons (pv 1) (pa_cons (pv 2) (pa_cons (pv 10) pa_nil)))) pe_int (nomark _)))) (fun _ _ _ _ _ => (pv 10))) (pe_lst pa_nil) (nomark _)))
      (pss_cons (ps_set (i := 5) nd rfl (.inl rfl) (pe_lst pa_nil))
      (pss_cons (ps_for PassesOwn.never rfl (pi_range1 (by rfl) B.range (pa_cons (pe_callB (call_len_K (K := K)) (by rfl) B.len boot_len (pa_cons (pe_ix (ix_K (K := K)) (pv 1) pe_int (fun _ _ => rfl)) pa_nil)) pa_nil)) (pg_name (i := 6) nd rfl (.inl rfl))
        (pss_cons (ps_set (i := 7) nd rfl (.inl rfl) (pe_k c__law_due hr (by decide) (by rfl) (pa_cons (pv 1) (pa_cons (pv 2) (pa_cons (pv 3) (pa_cons (pv 6) pa_nil))))))
        (Evl.pss_cut (ps_set (i := 8) nd rfl (.inl rfl) (pe_k c__law_told hr (by decide) (by rfl) (pa_cons pe_int (pa_cons (pv 1) (pa_cons (pv 2) (pa_cons (pv 6) (pa_cons (pe_cmpR (op_eq_K (K := K) hr.units) (pe_k c__law_grind hr (by decide) (by rfl) (pa_cons (pv 0) (pa_cons pe_int pa_nil))) pe_int (nomark _)) pa_nil)))))))
        (Evl.pss_cut (ps_if (pt_val (pv 4)) (pss_one (ps_if (PW.pt (pw_or (pt_not (pt_val (pe_callB (call_isi_K (K := K)) (by rfl) B.isinstance boot_isinstance (pa_cons (pv 8) (pa_cons (pe_bltn (v := V.ty "list") (by rfl) B.list boot_list rfl) pa_nil))))) (pw_or (pt_not (pt_val (pe_k c__law_numbers hr (by decide) (by rfl) (pa_cons (pe_ix (ix_K (K := K)) (pv 8) pe_int (fun _ _ => rfl)) pa_nil)))) (pw_or (pt_cmpR (op_notinD_K (K := K) (hu65 hr)) (pe_ix (ix_K (K := K)) (pv 8) pe_int (fun _ _ => rfl)) (pv 3) rfl) (pw_or1 (pt_cmpR op_lt (pe_k c__law_need hr (by decide) (by rfl) (pa_cons (pv 1) (pa_cons (pv 2) (pa_cons (pe_ix (ix_K (K := K)) (pv 8) pe_int (fun _ _ => rfl)) pa_nil)))) pe_int (nomark _))))))) (pss_one (ps_ret pe_bl)) pss_nil)) (pss_one (ps_if (pt_cmpR op_ne (pe_callB (call_reprT (K := K) hgd hr.units) (by rfl) B.repr boot_repr (pa_cons (pv 8) pa_nil)) (pe_callB (call_reprT (K := K) hgd hr.units) (by rfl) B.repr boot_repr (pa_cons (pv 7) pa_nil)) (nomark _)) (pss_one (ps_ret pe_bl)) pss_nil)))
        (pss_one (ps_if (pt_cmpR (op_eq_K (K := K) hr.units) (pe_ix (ix_K (K := K)) (pv 7) pe_int (fun _ _ => rfl)) (pe_ix (ix_K (K := K)) (pv 7) pe_int (fun _ _ => rfl)) (nomark _)) (pss_one (ps_expr (pe_bm PySem.F.plainAttrs_list PySem.F.slot_list_append PySem.F.type_list_append mt_append (pv 5) (pa_cons (pv 6) pa_nil)))) pss_nil))))))
      (pss_cons (ps_for PassesOwn.never rfl (pi_list_K (K := K) (pe_lst (pa_cons pe_bl (pa_cons pe_bl pa_nil)))) (pg_name (i := 9) nd rfl (.inl rfl))
        (Evl.pss_cut (ps_set (i := 8) nd rfl (.inl rfl) (pe_k c__law_told hr (by decide) (by rfl) (pa_cons pe_int (pa_cons (pv 1) (pa_cons (pv 2) (pa_cons pe_int (pa_cons (pv 9) pa_nil)))))))
        (Evl.pss_cut (ps_if (pt_val (pv 4)) (pss_cons (ps_if (PW.pt (pw_or (pt_not (pt_val (pe_callB (call_isi_K (K := K)) (by rfl) B.isinstance boot_isinstance (pa_cons (pv 8) (pa_cons (pe_bltn (v := V.ty "list") (by rfl) B.list boot_list rfl) pa_nil))))) (pw_or (pt_not (pt_val (pe_k c__law_numbers hr (by decide) (by rfl) (pa_cons (pe_ix (ix_K (K := K)) (pv 8) pe_int (fun _ _ => rfl)) pa_nil)))) (pw_or1 (pt_cmpR (op_notinD_K (K := K) (hu65 hr)) (pe_ix (ix_K (K := K)) (pv 8) pe_int (fun _ _ => rfl)) (pv 3) rfl))))) (pss_one (ps_ret pe_bl)) pss_nil)
          (pss_one (ps_if (pt_cmpR op_lt (pe_k c__law_need hr (by decide) (by rfl) (pa_cons (pv 1) (pa_cons (pv 2) (pa_cons (pe_ix (ix_K (K := K)) (pv 8) pe_int (fun _ _ => rfl)) pa_nil)))) pe_int (nomark _)) (pss_one (ps_ret pe_bl)) pss_nil))) pss_nil)
        (pss_one (ps_if (PW.pt (pw_and (pt_not (pt_val (pv 4))) (pw_and1 (pt_cmpR op_ne (pe_callB (call_reprT (K := K) hgd hr.units) (by rfl) B.repr boot_repr (pa_cons (pv 8) pa_nil)) (pe_callB (call_reprT (K := K) hgd hr.units) (by rfl) B.repr boot_repr (pa_cons (pe_callTy (call_tuple_K (K := K)) (by rfl) B.tuple boot_tuple (pa_cons (pv 5) pa_nil)) pa_nil)) (nomark _))))) (pss_one (ps_ret pe_bl)) pss_nil)))))
      (pss_one (ps_ret pe_bl))))))), ?_⟩
    have hm1 := W.m1
    have hn1 := W.n1
    have lB := BO.len
    let ND : List Int → Int := fun l => KM.need A.length (xW A) (yW A) (xW Bs) (yW Bs) fun v => decide (v ∈ l)
    have flow0 : ∀ {k : Nat} {sg v : Int}, GoodV n A Bs k sg v → ∀ l, ¬ 0 < ND l := fun g l => by
      obtain ⟨f, hw, hf, _⟩ := g.ex
      have : ND l ≤ 0 := KM.weak W.Ends hw hf (fun v => decide (v ∈ l))
      omega
    -- the lots
    refine q_asgC (M := Non) (va_cons (ed_ix (d := .int (n : Nat)) (ed_var (k := 1) rfl h1) ed_i rfl) stb_d va_nil) fun vs H1 r1 hvs => ?_
    obtain ⟨_, _, rfl, q0, rfl⟩ := hvs
    obtain rfl := it_int q0
    refine ⟨n, rfl, hn1, fun ls hls hlen la xs H2 hla e2 hx hall => ?_⟩
    have r02 : R Non H H2 := r1.trans (R.of e2)
    have hm2 := hm.ex r02.ex
    have laa : la ≠ a := fun z => (hm.ex r1.ex).ne (z ▸ hla)
    let DLo : Nat → Int := fun k => dueLo A Bs k ls (xW Bs k)
    let DHi : Nat → Int := fun k => dueHi A Bs k ls (yW Bs k)
    let F : Nat → Bool := fun k => decide (DLo k = DHi k)
    show tSeq _ _ _ ([some (.ref a), some v1, some v2, some (.ref la), none, none, none, none, none, none, none] : L2.St) H2
    -- barred
    refine q_asg (M := Non) (P := fun v _ => ∃ bb, v = .bl bb ∧ (bb = true → ∃ l ∈ ls, 0 < ND l) ∧ (bb = false → ∀ l ∈ ls, ¬ 0 < ND l)) (ev_op (evp_l (elp_lc (K := K) (src_lv (ev_var (k := 3) rfl) (fun _ z => z) (.inl (.inl hx)) (nn hx) hall) non_E (by rw [List.length_map]; omega) (fun i => decide (0 < ND (ls.getD i []))) (fun i d => ∃ l, d = lD l) fun i v H3 hi r3 hy => ?_)) stb_lp (edp_nil (K := K)) fun x y H3 r3 p1 p2 Q q => ?_) fun v4 H3 r3 hv4 => ?_
    · obtain ⟨l, hl, hv⟩ := yd_map hy
      have r03 := r02.trans r3
      refine ⟨_, bd_name, rfl, et_is (et_test (ed_B0 (g := fun i j => decide (j < i)) (ed_call (ea3 (ed_var (k := 1) rfl (h1.mono r03)) (ed_var (k := 2) rfl (h2.mono r03)) (ed_var (k := 10) rfl hv)) ⟨n, A, Bs, l, rfl, by omega, lB, rfl⟩) ed_i)) ?_, fun _ => ev_dd (ed_var rfl hv) ⟨l, rfl⟩⟩
      show _ = decide (0 < ND (ls.getD i []))
      rw [List.getD_eq_getElem?_getD, hl]
      rfl
    · obtain ⟨ds, p1, got⟩ := p1
      obtain ⟨g1, g2, g3⟩ := got_any got
      have sh : SeqAt.shaped (.list ds) = true := (sh_list (n := 1) fun d hd => by
        obtain ⟨i, l, rfl⟩ := g3 d hd
        exact sh_lD).shaped (by decide)
      refine ⟨.list ds, .list [], p1, p2, sh, rfl, q _ H3 (R.refl _) ⟨_, rfl, fun hb => ?_, fun hb l hl => ?_⟩⟩
      · rw [eqv_lnil] at hb
        have hne : ds ≠ [] := fun z => by rw [decide_eq_true z] at hb; cases hb
        obtain ⟨i, hi, hf⟩ := g2 hne
        rw [List.length_map] at hi
        have hg : ls[i]? = some ls[i] := List.getElem?_eq_getElem hi
        refine ⟨ls[i], List.getElem_mem hi, ?_⟩
        have hf := of_decide_eq_true hf
        rw [List.getD_eq_getElem?_getD, hg] at hf
        exact hf
      · rw [eqv_lnil] at hb
        have he : ds = [] := by
          by_cases c : ds = []
          · exact c
          · rw [decide_eq_false c] at hb; cases hb
        obtain ⟨i, hi, hil⟩ := List.getElem_of_mem hl
        have hf := g1 he i (by rw [List.length_map]; exact hi)
        have hf := of_decide_eq_false hf
        rw [List.getD_eq_getElem?_getD, List.getElem?_eq_getElem hi, hil] at hf
        exact hf
    obtain ⟨bb, rfl, hb1, hb0⟩ := hv4
    have nb : ∀ {k : Nat} {sg v : Int}, GoodV n A Bs k sg v → bb = false := fun g => by
      cases bb with
      | false => rfl
      | true =>
        obtain ⟨l, _, hl⟩ := hb1 rfl
        exact absurd hl (flow0 g l)
    have yb : ∀ {ff : Nat → Bool}, 0 < ND (lotL n ff) → bb = true := fun {ff} h => by
      cases bb with
      | true => rfl
      | false => exact absurd h (hb0 rfl _ (hls ff))
    -- fixed
    refine q_asgL (K := K) (M := Non) (el_lst ea_nil (by decide)) fun lf xs0 H4 hlf r4 hxf hallf => ?_
    cases hallf
    have r04 := (r02.trans r3).trans r4
    have hm4 := hm.ex r04.ex
    have lfa : lf ≠ a := fun z => (hm.ex (r02.trans r3).ex).ne (z ▸ hlf)
    have hx4 := (r3.trans r4).keep (fun z => z) hx
    have lfl : lf ≠ la := fun z => by rw [z, r3.keep (fun z => z) hx] at hlf; cases hlf
    have hlf0 : H lf = none := (r02.trans r3).free hlf
    have nmA : ∀ u, ¬ Also (Mil a) lf la u := fun u z => z.elim (fun z => laa z.1) (fun z => lfl z.symm)
    have nmF : ∀ u, ¬ Mil a lf u := fun u z => lfa z.1
    refine q_for (M := Non) (M' := Also (Mil a) lf) (src_rng1 (K := K) (n := (A.length : Nat)) (ea1 (ed_is (ed_lenT (ed_ix (ed_var (k := 1) rfl (h1.mono r04)) ed_i rfl)) (by rw [List.length_map]))) (by omega) (by omega)) (fun b u' hb => ?_) fun H5 r5 => ?_
    · rcases hb with hb | rfl
      · exact ⟨by rw [hb.1]; exact hm4.ne, fun z => z⟩
      · exact ⟨nn hxf, fun z => z⟩
    have r05 := r04.trans r5
    refine ⟨fun i σ' H' => (∃ o6 o7 o8 o9 o10, σ' = [some (.ref a), some v1, some v2, some (.ref la), some (.bl bb), some (.ref lf), o6, o7, o8, o9, o10]) ∧ Mok a H' ∧ ∃ ns : List Int, H' lf = some (.lst (ns.map .int)) ∧ ns.length ≤ i ∧ (bb = false → ns = lotL i F),
      ⟨⟨_, _, _, _, _, rfl⟩, hm4.ex r5.ex, [], r5.keep (fun z => z) hxf, Nat.le_refl _, fun _ => rfl⟩, fun i σ' H' hi r' hP v H6 e6 hy => ?_, fun σ' H' r' hP => ?_⟩
    · rw [Int.toNat_natCast] at hi
      obtain ⟨⟨o6, o7, o8, o9, o10, rfl⟩, hm', ns, hns, hnl, hnf⟩ := hP
      subst hy
      have r56 : R (Also (Mil a) lf) H5 H6 := r'.trans (R.of e6)
      have hm6 := hm'.ex e6
      have h16 := (h1.mono r05).mono r56
      have h26 := (h2.mono r05).mono r56
      have hx6 := r56.keep (nmA _) (r5.keep (fun z => z) hx4)
      have hall6 := (hall.mono ((r3.trans r4).trans r5)).mono r56
      show tSeq _ _ _ ([some (.ref a), some v1, some v2, some (.ref la), some (.bl bb), some (.ref lf), some (.int (i : Nat)), o7, o8, o9, o10] : L2.St) H6
      -- due
      refine q_asgC (M := Non) (va_cons (ed_var (k := 1) rfl h16) stb_d (va_cons (ed_var (k := 2) rfl h26) stb_d (va_cons (ev_var (k := 3) (v := .ref la) rfl) stb_v (va_cons (ev_var (k := 6) (v := .int (i : Nat)) rfl) stb_v va_nil)))) fun vs H7 r7 hvs => ?_
      obtain ⟨_, _, rfl, q1, _, _, rfl, q2, _, _, rfl, rfl, _, _, rfl, rfl, rfl⟩ := hvs
      refine ⟨_, _, la, xs, n, A, Bs, ls, i, rfl, q1, q2, r7.keep (fun z => z) hx6, hall6.mono r7, by omega, lB, hi, fun vd H8 e8 hvd => ?_⟩
      have r68 : R Non H6 H8 := r7.trans (R.of e8)
      have hm8 := hm6.ex r68.ex
      show Evl.tCut _ _ _ ([some (.ref a), some v1, some v2, some (.ref la), some (.bl bb), some (.ref lf), some (.int (i : Nat)), some vd, o8, o9, o10] : L2.St) H8
      refine q_cut (Mid := fun σ' H' => ∃ w, σ' = [some (.ref a), some v1, some v2, some (.ref la), some (.bl bb), some (.ref lf), some (.int (i : Nat)), some vd, some w, o9, o10] ∧ R (Mil a) H8 H' ∧
        ((bb = false ∧ (∀ z ∈ [DLo i, DHi i], -999999999999 ≤ z ∧ z ≤ 999999999999) ∧ It K H' w (lD [DLo i, DHi i])) ∨ (bb = true ∧ ∃ p l v, w = .ref p ∧ H' p = some (.lst [.str "bars", v]) ∧ It K H' v (lD l) ∧ l ∈ ls ∧ l.length ≤ 10 ∧ 0 < ND l))) ?_ fun σ1 H9 hM => ?_
      · refine s_asgC (M := Mil a) (va_cons (ev_c (v := .int ((0 : Nat) : Int))) stb_v (va_cons (ed_var (k := 1) rfl (h16.mono r68)) stb_d (va_cons (ed_var (k := 2) rfl (h26.mono r68)) stb_d (va_cons (ev_var (k := 6) (v := .int (i : Nat)) rfl) stb_v (va_cons (ev_eqG (K := K) (ei_grind (K := K) (n := 2) (ev_var (k := 0) rfl) ed_i hm8 (by decide) (by decide))) stb_b va_nil))))) fun vs H9 r9 hvs => ?_
        obtain ⟨_, _, rfl, rfl, _, _, rfl, q1, _, _, rfl, q2, _, _, rfl, rfl, _, _, rfl, ⟨nm, rfl⟩, rfl⟩ := hvs
        refine ⟨_, _, n, A, Bs, 0, i, nm, rfl, q1, q2, W, BO, fun _ => hi, fun _ lo hi' g1 g2 w H10 e10 hw => ?_, fun z => absurd rfl z, fun ff hn p v H10 hp e10 hx hv => ?_⟩
        · have el : DLo i = lo := due_lo W hi hls g1
          have eh : DHi i = hi' := due_hi W hi hls g2
          refine ⟨w, rfl, r9.trans (R.of e10), .inl ⟨nb g1, fun z hz => ?_, by rw [el, eh]; exact hw⟩⟩
          have bd : ∀ {sg v : Int}, GoodV n A Bs i sg v → -999999999999 ≤ v ∧ v ≤ 999999999999 := fun g => by
            obtain ⟨f, hw, _, rfl⟩ := g.ex
            have hBi : Bs[i]? = some (Bs[i]'(by omega)) := List.getElem?_eq_getElem (by omega)
            have := BO.bd _ (List.mem_of_getElem? hBi)
            have := hw i hi
            rw [xW_at hBi, yW_at hBi] at this
            omega
          rw [el, eh] at hz
          rcases List.mem_cons.mp hz with rfl | hz
          · exact bd g1
          · rw [List.mem_singleton.mp hz]; exact bd g2
        · exact ⟨.ref p, rfl, r9.trans (R.of e10), .inr ⟨yb hn, p, lotL n ff, v, rfl, hx, hv, hls ff, Nat.le_trans lotL_len hn1, hn⟩⟩
      obtain ⟨w, rfl, r9, hw⟩ := hM
      have hvd9 := hvd.mono r9
      refine q_cutS (Mid := fun H' => R Non H9 H') ?_ fun H10 r10 => ?_
      · refine s_if (M := Non) (b := bb) (et_B (ed_var (K := K) (k := 4) rfl (.bl bb))) (fun hb G r => ?_) fun hb G r => ?_
        · rcases hw with ⟨z, _⟩ | ⟨_, p, l, v, rfl, hx, hv, hl1, hl2, hl3⟩
          · rw [hb] at z; cases z
          · have e8 : ∀ {G'}, R Non G G' → ED K Non (tOp (rIx K) (tVar 8) (tC (.int 1))) [some (.ref a), some v1, some v2, some (.ref la), some (.bl bb), some (.ref lf), some (.int (i : Nat)), some vd, some (.ref p), o9, o10] G' (lD l) := fun r' => ed_bar rfl ((r.trans r').keep (fun z => z) hx) (hv.mono (r.trans r'))
            have r6G := (r68.non.trans r9).trans r.non
            refine s_when (M := Non) (b := false) (et_or (a := false) (b := false) (et_not (a := true) (et_B (ed_isiL (ev_var (k := 8) rfl) (r.keep (fun z => z) hx)))) fun _ => et_or (a := false) (b := false) (et_not (a := true) (et_B (ed_call (ea1 (e8 (R.refl _))) ⟨l, rfl, by omega, rfl⟩))) fun _ => et_or (a := false) (b := false) (et_is (et_test (ed_notinD (edp_d (e8 (R.refl _))) (edp_v (k := 3) rfl (.inl (.inl (r6G.keep (fun z => laa z.1) hx6))) (hall6.mono r6G)) (sh_lD.shaped (by decide)) sh_lots)) (by rw [lots_any hl1]; rfl)) fun _ => et_is (et_test (ed_B0 (g := fun i j => decide (i < j)) (ed_call (ea3 (ed_var (k := 1) rfl (h16.mono r6G)) (ed_var (k := 2) rfl (h26.mono r6G)) (e8 (R.refl _))) ⟨n, A, Bs, l, rfl, by omega, lB, rfl⟩) ed_i)) (decide_eq_false (show ¬ ND l < 1 by omega))) (fun z => nomatch z) fun _ G2 r2 => ⟨rfl, r.trans r2⟩
        · rcases hw with ⟨_, hbd, hw⟩ | ⟨z, _⟩
          · have hz : ([DLo i, DHi i] : List Int).length ≤ 1000 := by show 2 ≤ 1000; decide
            exact s_when (M := Non) (b := false) (et_is (et_test (ed_neS (K := K) (ed_repr (ns := [DLo i, DHi i]) (ed_var (k := 8) rfl (hw.mono r)) hbd hz) (ed_repr (ns := [DLo i, DHi i]) (ed_var (k := 7) rfl (hvd9.mono r)) hbd hz))) (by simp)) (fun z => nomatch z) fun _ G2 r2 => ⟨rfl, r.trans r2⟩
          · rw [hb] at z; cases z
      have r6x : R (Mil a) H6 H10 := (r68.non.trans r9).trans r10.non
      have hns10 := r6x.keep (nmF _) (e6 _ _ hns)
      have hm10 := hm6.mono r6x
      have rAll : R (Also (Mil a) lf) H5 H10 := r56.trans r6x.also
      have hvd10 := hvd9.mono r10
      refine s_when (M := Non) (b := F i) (et_test (ed_eqI (K := K) (ed_ix (ed_var (k := 7) rfl hvd10) ed_i rfl) (ed_ix (ed_var (k := 7) rfl hvd10) ed_i rfl))) (fun hb G r => ?_) fun hb G r => ?_
      · refine s_app (K := K) (M := Non) (P := fun v _ => v = .int (i : Nat)) (r.keep (fun z => z) hns10) (fun _ z => z) (ev_var (k := 5) rfl) (ev_var (k := 6) rfl) (by rw [List.length_map]; omega) fun v G2 r2 e h => ?_
        subst e
        refine ⟨(rAll.trans (r.trans r2).non).chgA h mt_l mt_l, ⟨_, _, _, _, _, rfl⟩, ?_, ns ++ [(i : Int)], by rw [upd_same, List.map_append]; rfl, by rw [List.length_append]; show ns.length + 1 ≤ i + 1; omega, fun z => by rw [lotL_succ, hnf z, hb]; rfl⟩
        obtain ⟨g, x, hg⟩ := hm10.ex (r.trans r2).ex
        exact ⟨g, x, by rw [upd_ne (fun z => lfa z.symm)]; exact hg⟩
      · exact ⟨rAll.trans r.non, ⟨_, _, _, _, _, rfl⟩, hm10.ex r.ex, ns, r.keep (fun z => z) hns10, by omega, fun z => by rw [lotL_succ, hnf z, hb]; simp⟩
    · rw [Int.toNat_natCast] at hP
      obtain ⟨⟨o6, o7, o8, o9, o10, rfl⟩, hm', ns, hns, hnl, hnf⟩ := hP
      have h1' := (h1.mono r05).mono r'
      have h2' := (h2.mono r05).mono r'
      have hx' := r'.keep (nmA _) (r5.keep (fun z => z) hx4)
      have hall' := (hall.mono ((r3.trans r4).trans r5)).mono r'
      have rH : R (Mil a) H H' := (show R (Mil a) H H5 from r05.non).drop hlf0 r'
      refine q_for (M := Non) (M' := Mil a) (src_list (K := K) (el_lst (ea_cons ed_b (ea_cons ed_b ea_nil)) (show 2 ≤ 100000 by decide))) (mil_M hm') fun G5 g5 => ?_
      have hm5 := hm'.ex g5.ex
      have hx5 := g5.keep (fun z => z) hx'
      have hns5 := g5.keep (fun z => z) hns
      refine ⟨fun i σ' H' => (∃ o6 o7 o8 o9 o10, σ' = [some (.ref a), some v1, some v2, some (.ref la), some (.bl bb), some (.ref lf), o6, o7, o8, o9, o10]), ⟨_, _, _, _, _, rfl⟩, fun i σ' G' hi g' hP v G6 e6 hy => ?_, fun σ' G' g' hP => ?_⟩
      · obtain ⟨o6, o7, o8, o9, o10, rfl⟩ := hP
        obtain ⟨d, hd, hv⟩ := hy
        obtain ⟨b, rfl⟩ := two_bools hd
        obtain rfl := it_bl hv
        have g56 : R (Mil a) G5 G6 := g'.trans (R.of e6)
        have hm6 := hm5.mono g56
        have h16 := (h1'.mono g5).mono g56
        have h26 := (h2'.mono g5).mono g56
        show Evl.tCut _ _ _ ([some (.ref a), some v1, some v2, some (.ref la), some (.bl bb), some (.ref lf), o6, o7, o8, some (.bl b), o10] : L2.St) G6
        refine q_cut (Mid := fun σ' H' => ∃ w, σ' = [some (.ref a), some v1, some v2, some (.ref la), some (.bl bb), some (.ref lf), o6, o7, some w, some (.bl b), o10] ∧ R (Mil a) G6 H' ∧
          ((bb = false ∧ It K H' w (lD (lotL A.length F))) ∨ (bb = true ∧ ∃ p l v, w = .ref p ∧ H' p = some (.lst [.str "bars", v]) ∧ It K H' v (lD l) ∧ l ∈ ls ∧ l.length ≤ 10 ∧ 0 < ND l))) ?_ fun σ1 G9 hM => ?_
        · refine s_asgC (M := Non) (va_cons (ev_c (v := .int ((1 : Nat) : Int))) stb_v (va_cons (ed_var (k := 1) rfl h16) stb_d (va_cons (ed_var (k := 2) rfl h26) stb_d (va_cons (ev_c (v := .int ((0 : Nat) : Int))) stb_v (va_cons (ev_var (k := 9) (v := .bl b) rfl) stb_v va_nil))))) fun vs G9 g9 hvs => ?_
          obtain ⟨_, _, rfl, rfl, _, _, rfl, q1, _, _, rfl, q2, _, _, rfl, rfl, _, _, rfl, rfl, rfl⟩ := hvs
          refine ⟨_, _, n, A, Bs, 1, 0, b, rfl, q1, q2, W, BO, (fun z => by cases z), (fun z => by cases z), fun _ lo hi' g w G10 e10 hw => ?_, fun ff hn p v G10 hp e10 hx hv => ?_⟩
          · refine ⟨w, rfl, g9.non.trans (R.of e10), .inl ⟨?_, ?_⟩⟩
            · by_cases h0 : A.length = 0
              · cases hbb : bb with
                | false => rfl
                | true =>
                  obtain ⟨l, _, hl⟩ := hb1 hbb
                  have : ND l = 0 := by
                    show KM.need A.length _ _ _ _ _ = 0
                    rw [h0]; rfl
                  omega
              · exact nb (g 0 (by omega)).1
            · have e : lotL A.length (fun k => decide (lo k = hi' k)) = lotL A.length F := by
                unfold lotL
                congr 1
                refine List.filter_congr fun k hk => ?_
                have hk := List.mem_range.mp hk
                have el : DLo k = lo k := due_lo W hk hls (g k hk).1
                have eh : DHi k = hi' k := due_hi W hk hls (g k hk).2
                show decide (lo k = hi' k) = decide (DLo k = DHi k)
                rw [el, eh]
              rw [← e]
              exact hw
          · exact ⟨.ref p, rfl, g9.non.trans (R.of e10), .inr ⟨yb hn, p, lotL n ff, v, rfl, hx, hv, hls ff, Nat.le_trans lotL_len hn1, hn⟩⟩
        obtain ⟨w, rfl, g9, hw⟩ := hM
        have g59 := g56.trans g9
        refine q_cutS (Mid := fun H' => R Non G9 H') ?_ fun G10 g10 => ?_
        · refine s_if (M := Non) (b := bb) (et_B (ed_var (K := K) (k := 4) rfl (.bl bb))) (fun hb G r => ?_) fun hb G r => ⟨rfl, r⟩
          rcases hw with ⟨z, _⟩ | ⟨_, p, l, v, rfl, hx, hv, hl1, hl2, hl3⟩
          · rw [hb] at z; cases z
          · have e8 : ∀ {G'}, R Non G G' → ED K Non (tOp (rIx K) (tVar 8) (tC (.int 1))) [some (.ref a), some v1, some v2, some (.ref la), some (.bl bb), some (.ref lf), o6, o7, some (.ref p), some (.bl b), o10] G' (lD l) := fun r' => ed_bar rfl ((r.trans r').keep (fun z => z) hx) (hv.mono (r.trans r'))
            have r5G := g59.trans r.non
            refine q_when (M := Non) (b := false) (et_or (a := false) (b := false) (et_not (a := true) (et_B (ed_isiL (ev_var (k := 8) rfl) (r.keep (fun z => z) hx)))) fun _ => et_or (a := false) (b := false) (et_not (a := true) (et_B (ed_call (ea1 (e8 (R.refl _))) ⟨l, rfl, by omega, rfl⟩))) fun _ => (et_is (et_test (ed_notinD (edp_d (e8 (R.refl _))) (edp_v (k := 3) rfl (.inl (.inl (r5G.keep (fun z => laa z.1) hx5))) ((hall'.mono g5).mono r5G)) (sh_lD.shaped (by decide)) sh_lots)) (by rw [lots_any hl1]; rfl))) (fun z => nomatch z) fun _ G2 r2 => ?_
            exact s_when (M := Non) (b := false) (et_is (et_test (ed_B0 (g := fun i j => decide (i < j)) (ed_call (ea3 (ed_var (k := 1) rfl ((h16.mono (g9.trans r.non)).mono r2)) (ed_var (k := 2) rfl ((h26.mono (g9.trans r.non)).mono r2)) (e8 r2)) ⟨n, A, Bs, l, rfl, by omega, lB, rfl⟩) ed_i)) (decide_eq_false (show ¬ ND l < 1 by omega))) (fun z => nomatch z) fun _ G3 r3 => ⟨rfl, (r.trans r2).trans r3⟩
        have bdl : ∀ z ∈ lotL A.length F, -999999999999 ≤ z ∧ z ≤ 999999999999 := fun z hz => by
          obtain ⟨u, hu, _, rfl⟩ := lot_mem.mp hz
          omega
        have lnl : (lotL A.length F).length ≤ 1000 := Nat.le_trans lotL_len (by omega)
        refine s_when (M := Non) (b := false) (et_is (et_and (a := !bb) (b := false) (et_not (et_B (ed_var (K := K) (k := 4) rfl (.bl bb)))) fun hb => ?_) (by cases bb <;> rfl)) (fun z => nomatch z) fun _ G2 r2 => ⟨(g59.trans g10.non).trans r2.non, _, _, _, _, _, rfl⟩
        have hb' : bb = false := by cases bb with | false => rfl | true => cases hb
        rcases hw with ⟨_, hw⟩ | ⟨z, _⟩
        · have en := hnf hb'
          have hns10 : G10 lf = some (.lst ((lotL A.length F).map .int)) := by rw [← en]; exact (g59.trans g10.non).keep (nmF _) hns5
          exact et_is (et_test (ed_neS (K := K) (ed_repr (ns := lotL A.length F) (ed_var (k := 8) rfl (hw.mono g10)) bdl lnl) (ed_repr (ns := lotL A.length F) (ed_tupV (ev_var (k := 5) rfl) (fun _ z => z) (.inl (.inl hns10)) (ItAll.ofInts _)) bdl lnl))) (by simp)
        · rw [hb'] at z; cases z
      · obtain ⟨o6, o7, o8, o9, o10, rfl⟩ := hP
        exact s_ret (M := Non) (P := fun v _ => v = .bl true) ev_c fun v G7 g7 e => by
          subst e
          exact k _ ((rH.trans g5.non).trans (g'.trans g7.non))
end
end KP

/-! part KL7 -/
set_option Elab.async false
set_option linter.all false
set_option maxRecDepth 100000
set_option maxHeartbeats 4000000
/-! _law_ring. -/
namespace KP
open PySem PySem.Spec PyProof.Rows L2
section
variable {K : PySem.W.Frag} {M : MM} {σ : L2.St} {H H' : Hp} {ta tb te tx tl : TE} {t u : TT} {v x y z : V} {d e : PyData} {P1 P2 P3 : V → Hp → Prop} {ds es : List PyData} {i j : Int}
theorem ev_ixR {a : Addr} {xs : List V} {k : Nat} (ha : EV Non ta σ H (.ref a)) (hb : ED K Non tb σ H (.int (k : Nat))) (hs : H a = some (.lst xs)) (hk : xs[k]? = some v) : EV Non (tOp (rIx K) ta tb) σ H v :=
  ev_op ha stb_v hb fun x y H1 r p1 p2 Q q => by
    subst p1
    exact Or.inl ⟨a, xs, k, v, rfl, it_int p2, .inl (.inl (r.keep (fun z => z) hs)), atI_nat hk, q v H1 (R.refl _) rfl⟩
theorem atI_last {α : Type} {xs : List α} {z : α} : L2.atI (xs ++ [z]) (-1) = some z := by
  unfold L2.atI ixN
  rw [if_neg (by decide), if_pos (by rw [List.length_append, List.length_singleton]; omega)]
  show (xs ++ [z])[(-1 + (((xs ++ [z]).length : Nat) : Int)).toNat]? = _
  have e : (-1 + (((xs ++ [z]).length : Nat) : Int)).toNat = xs.length := by rw [List.length_append, List.length_singleton]; omega
  rw [e]
  simp
theorem ed_notinL {a : Addr} {ns : List Int} (ha : ED K Non ta σ H (.int i)) (hb : EV Non tb σ H (.ref a)) (hs : H a = some (.lst (ns.map .int))) : ED K Non (tOp (rIn K true) ta tb) σ H (.bool (!decide (i ∈ ns))) :=
  ev_op ha stb_d hb fun x y H1 r p1 p2 Q q => by
    subst p2
    obtain rfl := it_int p1
    refine ⟨a, _, rfl, .inl (.inl (.inl (r.keep (fun z => z) hs))), rfl, flat_ints ns, ?_⟩
    show Q (.bl (!inV (.int i) (ns.map .int))) H1
    rw [inV_ints]
    exact q _ H1 (R.refl _) (.bl _)
theorem ev_lstL (h : EL K Non te σ H ds) : Ev Non (tLst (tCons te tNil)) σ H (fun v H2 => ∃ p q xs, v = .ref p ∧ p ≠ q ∧ H p = none ∧ H q = none ∧ H2 p = some (.lst [.ref q]) ∧ H2 q = some (.lst xs) ∧ ItAll K H2 xs ds) := fun H1 r Q k => h H1 r _ fun q xs H2 hq r2 hx hall =>
  ⟨small (show 1 ≤ 100000 by decide), fun a ha => k _ _ (r2.new ha) ⟨a, q, xs, rfl, (fun z => by subst z; rw [hx] at ha; cases ha), (r.trans r2).free ha, r.free hq, upd_same, by rw [upd_ne (fun z => by subst z; rw [hx] at ha; cases ha)]; exact hx, hall.new ha⟩⟩
theorem el_ev (h : EL K Non te σ H ds) : Ev Non te σ H (fun v H2 => ∃ p xs, v = .ref p ∧ H p = none ∧ H2 p = some (.lst xs) ∧ ItAll K H2 xs ds) := fun H1 r Q q => h H1 r _ fun p xs H2 hp r2 hx hall => q _ H2 r2 ⟨p, xs, rfl, r.free hp, hx, hall⟩
theorem stb_l : Stb Non (fun v H2 => ∃ p xs, v = .ref p ∧ H p = none ∧ H2 p = some (.lst xs) ∧ ItAll K H2 xs ds) := fun _ _ _ r ⟨p, xs, e, hp, hx, hall⟩ => ⟨p, xs, e, hp, r.keep (fun z => z) hx, hall.mono r⟩
end
/-! ### what the ring keeps -/
def gD (q : Nat × Int) : PyData := pD ((q.1 : Nat), q.2)
structure RingOk (m : Nat) (L : List (Nat × Int)) : Prop where
  at' : ∀ q ∈ L, q.1 < m ∧ (q.2 = 1 ∨ q.2 = -1)
  nd : (L.map (·.1)).Nodup
  len : L.length ≤ 10
def M3 (lw ls ln : Addr) : MM := fun b _ => b = lw ∨ b = ls ∨ b = ln
section
variable {K : PySem.W.Frag} {H0 H H' : Hp} {n k : Nat} {A : List (Int × Int)} {lw ls ln : Addr} {sn sn' : List Int} {v : V}
def WayI (H0 : Hp) (lw ls ln : Addr) (sn : List Int) (H : Hp) (v : V) : Prop := ∃ (p : Addr) (ns : List Int) (z : Int), v = .ref p ∧ H0 p = none ∧ ¬ (p = lw ∨ p = ls ∨ p = ln) ∧ H p = some (.lst ((ns ++ [z]).map .int)) ∧ z ∈ sn ∧ ns.length ≤ sn.length
def StpI (K : PySem.W.Frag) (H0 : Hp) (A : List (Int × Int)) (k : Nat) (lw ls ln : Addr) (sn : List Int) (H : Hp) (v : V) : Prop := ∃ (p : Addr) (xs : List V) (L : List (Nat × Int)), v = .ref p ∧ H0 p = none ∧ ¬ (p = lw ∨ p = ls ∨ p = ln) ∧ H p = some (.lst xs) ∧ ItAll K H xs (L.map gD) ∧
  (∀ q ∈ L, q.1 < A.length ∧ (q.2 = 1 ∨ q.2 = -1) ∧ (q.1 = k ∨ (xW A q.1 ∈ sn ∧ yW A q.1 ∈ sn))) ∧ (L.map (·.1)).Nodup ∧ L.length ≤ sn.length
theorem WayI.mono (r : R (M3 lw ls ln) H H') (hs : ∀ z ∈ sn, z ∈ sn') (hl : sn.length ≤ sn'.length) (h : WayI H0 lw ls ln sn H v) : WayI H0 lw ls ln sn' H' v := by
  obtain ⟨p, ns, z, rfl, h0, hb, hp, hz, hn⟩ := h
  exact ⟨p, ns, z, rfl, h0, hb, r.keep hb hp, hs z hz, by omega⟩
theorem StpI.mono (r : R (M3 lw ls ln) H H') (hs : ∀ z ∈ sn, z ∈ sn') (hl : sn.length ≤ sn'.length) (h : StpI K H0 A k lw ls ln sn H v) : StpI K H0 A k lw ls ln sn' H' v := by
  obtain ⟨p, xs, L, rfl, h0, hb, hp, hall, hL, hd, hn⟩ := h
  exact ⟨p, xs, L, rfl, h0, hb, r.keep hb hp, hall.mono r, fun q hq => ⟨(hL q hq).1, (hL q hq).2.1, (hL q hq).2.2.imp id fun z => ⟨hs _ z.1, hs _ z.2⟩⟩, hd, by omega⟩
/-- the three lists -/
structure RI (K : PySem.W.Frag) (H0 : Hp) (n : Nat) (A : List (Int × Int)) (k : Nat) (lw ls ln : Addr) (sn : List Int) (H : Hp) (ws ss : List V) : Prop where
  hw : H lw = some (.lst ws)
  hs : H ls = some (.lst ss)
  hn : H ln = some (.lst (sn.map .int))
  e1 : ws.length = sn.length
  e2 : ss.length = sn.length
  nd : sn.Nodup
  rg : ∀ z ∈ sn, 0 ≤ z ∧ z < n
  ways : ∀ v ∈ ws, WayI H0 lw ls ln sn H v
  stps : ∀ v ∈ ss, StpI K H0 A k lw ls ln sn H v
theorem RI.ex {ws ss : List V} (h : RI K H0 n A k lw ls ln sn H ws ss) (r : R Non H H') : RI K H0 n A k lw ls ln sn H' ws ss :=
  ⟨r.keep (fun z => z) h.hw, r.keep (fun z => z) h.hs, r.keep (fun z => z) h.hn, h.e1, h.e2, h.nd, h.rg, fun v hv => (h.ways v hv).mono r.non (fun _ z => z) (Nat.le_refl _), fun v hv => (h.stps v hv).mono r.non (fun _ z => z) (Nat.le_refl _)⟩
theorem RI.short {ws ss : List V} (h : RI K H0 n A k lw ls ln sn H ws ss) : sn.length ≤ n := KM.nodup_len h.nd h.rg
end
theorem nodup_snoc {α : Type} {l : List α} {a : α} (h : l.Nodup) (ha : a ∉ l) : (l ++ [a]).Nodup := by
  rw [List.nodup_append]
  refine ⟨h, List.nodup_cons.mpr ⟨(fun z => nomatch z), List.nodup_nil⟩, fun x hx y hy e => ?_⟩
  rw [List.mem_singleton.mp hy] at e
  exact ha (e ▸ hx)
theorem two_ways {xj yj : Int} {i : Nat} {d : PyData} (h : ([.tuple [.int xj, .int yj, .int 1], .tuple [.int yj, .int xj, .int (-1)]] : List PyData)[i]? = some d) :
    ∃ lo hi sg : Int, d = .tuple [.int lo, .int hi, .int sg] ∧ (sg = 1 ∨ sg = -1) ∧ ((lo = xj ∧ hi = yj) ∨ (lo = yj ∧ hi = xj)) := by
  match i, h with
  | 0, h => exact ⟨xj, yj, 1, (Option.some.inj h).symm, .inl rfl, .inl ⟨rfl, rfl⟩⟩
  | 1, h => exact ⟨yj, xj, -1, (Option.some.inj h).symm, .inr rfl, .inr ⟨rfl, rfl⟩⟩
  | i + 2, h => simp at h
section
variable {P : Program} {w : World} {K : PySem.W.Frag} {mg : Str → Option Value} {base : Heap}
-- _law_ring: slots _law_web_here=0 _law_k=1 _law_x=2 _law_y=3 _law_ways=4 _law_steps=5 _law_seen=6 _law_at=7 _law_here=8 _law_j=9 _law_low=10 _law_high=11 _law_sign=12
abbrev s__law_ring : Stmt := topS 49
abbrev N__law_ring : List Str := ["_law_web_here", "_law_k", "_law_x", "_law_y", "_law_ways", "_law_steps", "_law_seen", "_law_at", "_law_here", "_law_j", "_law_low", "_law_high", "_law_sign"]
theorem sc__law_ring : FnScope N__law_ring ["_law_web_here", "_law_k"] (defScope s__law_ring) := ⟨rfl, rfl, rfl, by decide +kernel, rfl, by decide +kernel, by decide +kernel⟩
def RetR (K : PySem.W.Frag) (m : Nat) (H : Hp) (Q : VK) : Prop := ∀ (p : Addr) (xs : List V) (L : List (Nat × Int)) (H2 : Hp), H p = none → Ex H H2 → H2 p = some (.lst xs) → ItAll K H2 xs (L.map gD) → RingOk m L → Q (.ref p) H2
def sp_ring (K : PySem.W.Frag) : Sp := fun vs H Q _ => ∃ (v0 : V) (n : Nat) (A : List (Int × Int)) (k : Nat), vs = [v0, .int (k : Nat)] ∧ It K H v0 (wD n A) ∧ WebOk n A ∧ k < A.length ∧ RetR K A.length H Q
theorem cl__law_ring (B : GB mg) (DF : Df K mg "_law_ring" s__law_ring) : Cl P w K mg base 1 "_law_ring" (sp_ring K) := by
  obtain ⟨f, fd, F, g⟩ := DF.ex
  refine ⟨f, fd, ["_law_web_here", "_law_k"], F.ok sc__law_ring (fun vs H Q E h => ?_) (fun cdv A outer s H vs Q E hr h => ?_), g, F.kp, F.binds fun _ _ _ _ _ _ us hl => match us, hl with | [_, _], _ => rfl⟩
  · obtain ⟨v0, n, A, k, rfl, _⟩ := h
    rfl
  · obtain ⟨v0, n, A, k, rfl, h0, W, hk, kQ⟩ := h
    have nd := sc__law_ring.nd
    refine ⟨_, (pss_cons (ps_asg (pe_ix (ix_K (K := K)) (pe_ix (ix_K (K := K)) (pv 0) pe_int (fun _ _ => rfl)) (pv 1) (fun _ _ => rfl)) (pg_tup_K (K := K) (n := 2) rfl (pgs_cons (pg_name (i := 2) nd rfl (.inl rfl)) (pgs_cons (pg_name (i := 3) nd rfl (.inl rfl)) pgs_nil))))
      (pss_cons (ps_set (i := 4) nd rfl (.inl rfl) (pe_lst (pa_cons (pe_lst (pa_cons (pv 3) pa_nil)) pa_nil)))
      (pss_cons (ps_set (i := 5) nd rfl (.inl rfl) (pe_lst (pa_cons (pe_lst (pa_cons (pe_tup (pa_cons (pv 1) (pa_cons pe_int pa_nil))) pa_nil)) pa_nil)))
      (pss_cons (ps_set (i := 6) nd rfl (.inl rfl) (pe_lst (pa_cons (pv 3) pa_nil)))
      (pss_cons (ps_set (i := 7) nd rfl (.inl rfl) pe_int)
      (pss_cons (ps_while PassesOwn.never (pt_cmpR op_lt (pv 7) (pe_callB (call_len_K (K := K)) (by rfl) B.len boot_len (pa_cons (pv 4) pa_nil)) (nomark _))
        (pss_cons (ps_set (i := 8) nd rfl (.inl rfl) (pe_ix (ix_K (K := K)) (pe_ix (ix_K (K := K)) (pv 4) (pv 7) (fun _ _ => rfl)) (pe_un un_neg pe_int) (fun _ _ => rfl)))
        (pss_cons (ps_if (pt_cmpR (op_eq_K (K := K) hr.units) (pv 8) (pv 2) (nomark _)) (pss_one (ps_ret (pe_ix (ix_K (K := K)) (pv 5) (pv 7) (fun _ _ => rfl)))) pss_nil)
        (pss_cons (ps_for PassesOwn.never rfl (pi_range1 (by rfl) B.range (pa_cons (pe_callB (call_len_K (K := K)) (by rfl) B.len boot_len (pa_cons (pe_ix (ix_K (K := K)) (pv 0) pe_int (fun _ _ => rfl)) pa_nil)) pa_nil)) (pg_name (i := 9) nd rfl (.inl rfl))
          (pss_one (ps_for PassesOwn.never rfl (pi_list_K (K := K) (pe_lst (pa_cons (pe_op (op_cat_K (K := K)) (pe_ix (ix_K (K := K)) (pe_ix (ix_K (K := K)) (pv 0) pe_int (fun _ _ => rfl)) (pv 9) (fun _ _ => rfl)) (pe_tup (pa_cons pe_int pa_nil))) (pa_cons (pe_op (op_cat_K (K := K)) (pe_step_K (K := K) (pe_ix (ix_K (K := K)) (pe_ix (ix_K (K := K)) (pv 0) pe_int (fun _ _ => rfl)) (pv 9) (fun _ _ => rfl)) (pe_un un_neg pe_int)) (pe_tup (pa_cons (pe_un un_neg pe_int) pa_nil))) pa_nil)))) (pg_tup_K (K := K) (n := 3) rfl (pgs_cons (pg_name (i := 10) nd rfl (.inl rfl)) (pgs_cons (pg_name (i := 11) nd rfl (.inl rfl)) (pgs_cons (pg_name (i := 12) nd rfl (.inl rfl)) pgs_nil))))
            (pss_one (ps_if (PW.pt (pw_and (pt_cmpR (op_ne_K (K := K) hr.units) (pv 9) (pv 1) (nomark _)) (pw_and (pt_cmpR (op_eq_K (K := K) hr.units) (pv 10) (pv 8) (nomark _)) (pw_and1 (pt_cmpR (op_notin_K (K := K)) (pv 11) (pv 6) rfl))))) (pss_cons (ps_expr (pe_bm PySem.F.plainAttrs_list PySem.F.slot_list_append PySem.F.type_list_append mt_append (pv 6) (pa_cons (pv 11) pa_nil)))
              (pss_cons (ps_expr (pe_bm PySem.F.plainAttrs_list PySem.F.slot_list_append PySem.F.type_list_append mt_append (pv 4) (pa_cons (pe_op op_cat (pe_ix (ix_K (K := K)) (pv 4) (pv 7) (fun _ _ => rfl)) (pe_lst (pa_cons (pv 11) pa_nil))) pa_nil)))
              (pss_one (ps_expr (pe_bm PySem.F.plainAttrs_list PySem.F.slot_list_append PySem.F.type_list_append mt_append (pv 5) (pa_cons (pe_op op_cat (pe_ix (ix_K (K := K)) (pv 5) (pv 7) (fun _ _ => rfl)) (pe_lst (pa_cons (pe_tup (pa_cons (pv 9) (pa_cons (pv 12) pa_nil))) pa_nil))) pa_nil)))))) pss_nil)))))
        (pss_one (ps_set (i := 7) nd rfl (.inl rfl) (pe_op op_add (pv 7) pe_int)))))))
      (pss_one (ps_ret (pe_lst pa_nil))))))))), ?_⟩
    have hn1 := W.n1
    have hm1 := W.m1
    have hAk : A[k]? = some A[k] := List.getElem?_eq_getElem hk
    have xk := xW_at hAk
    have yk := yW_at hAk
    refine q_asgT (K := K) (M := Non) (d := pD (xW A k, yW A k)) (ed_is (ed_ix (ed_ix (ed_var (k := 0) rfl h0) ed_i rfl) (ed_var (k := 1) rfl (.int (k : Nat))) (atI_nat (map_get hAk))) (by rw [xk, yk])) fun v2 H1 r1 hv2 => ?_
    obtain ⟨w1, w2, g1, g2, bd⟩ := un2 (i := 2) (j := 3) (σ := start N__law_ring [v0, .int (k : Nat)]) hv2
    obtain rfl := it_int g1
    obtain rfl := it_int g2
    refine bd _ ?_
    show tSeq _ _ _ ([some v0, some (.int (k : Nat)), some (.int (xW A k)), some (.int (yW A k)), none, none, none, none, none, none, none, none, none] : L2.St) H1
    -- ways
    refine q_asg (M := Non) (ev_lstL (K := K) (el_lst (ea_cons (ed_var (k := 3) rfl (.int (yW A k))) ea_nil) (show 1 ≤ 100000 by decide))) fun v4 H2 r2 hv4 => ?_
    obtain ⟨lw, pw, xw, rfl, nlp, hlw, hpw, hxw, hxpw, hallw⟩ := hv4
    have exw := hallw.ints (ns := [yW A k])
    subst exw
    -- steps
    refine q_asg (M := Non) (ev_lstL (K := K) (el_lst (ds := [gD (k, 1)]) (ea_cons (ed_tup (ea_cons (ed_var (k := 1) rfl (.int (k : Nat))) (ea_cons ed_i ea_nil)) (show 2 ≤ 100000 by decide)) ea_nil) (show 1 ≤ 100000 by decide))) fun v5 H3 r3 hv5 => ?_
    obtain ⟨ls, ps, xs, rfl, nsp, hls, hps, hxs, hxps, halls⟩ := hv5
    have kw := r3.keep (fun z => z) hxw
    have kpw := r3.keep (fun z => z) hxpw
    -- seen
    refine q_asgL (K := K) (M := Non) (el_lst (ds := [PyData.int (yW A k)]) (ea_cons (ed_var (k := 3) rfl (.int (yW A k))) ea_nil) (show 1 ≤ 100000 by decide)) fun ln xn H4 hln r4 hxn halln => ?_
    have exn := halln.ints (ns := [yW A k])
    subst exn
    have nls : ls ≠ lw := fun z => by rw [z, hxw] at hls; cases hls
    have nlp2 : ls ≠ pw := fun z => by rw [z, hxpw] at hls; cases hls
    have npl : ps ≠ lw := fun z => by rw [z, hxw] at hps; cases hps
    have nnw : ln ≠ lw := fun z => by rw [z, kw] at hln; cases hln
    have nns : ln ≠ ls := fun z => by rw [z, hxs] at hln; cases hln
    have nnp : ln ≠ pw := fun z => by rw [z, kpw] at hln; cases hln
    have nnq : ln ≠ ps := fun z => by rw [z, hxps] at hln; cases hln
    have fw : H lw = none := r1.free hlw
    have fs : H ls = none := (r1.trans r2).free hls
    have fn : H ln = none := ((r1.trans r2).trans r3).free hln
    -- at
    refine q_asg (M := Non) (P := fun v _ => v = .int ((0 : Nat) : Int)) ev_c fun v7 H5 r5 e7 => ?_
    subst e7
    have r05 : R Non H H5 := (((r1.trans r2).trans r3).trans r4).trans r5
    have r35 := r4.trans r5
    obtain ⟨⟨ex1, ex2⟩, ey1, ey2⟩ := W.Ends k hk
    have I5 : RI K H n A k lw ls ln [yW A k] H5 [.ref pw] [.ref ps] := by
      refine ⟨r35.keep (fun z => z) kw, r35.keep (fun z => z) hxs, r5.keep (fun z => z) hxn, rfl, rfl, List.nodup_cons.mpr ⟨(fun z => nomatch z), List.nodup_nil⟩, fun z hz => ?_, fun v hv => ?_, fun v hv => ?_⟩
      · rw [List.mem_singleton.mp hz]; exact ⟨ey1, ey2⟩
      · rw [List.mem_singleton.mp hv]
        exact ⟨pw, [], yW A k, rfl, r1.free hpw, fun z => z.elim (fun z => nlp z.symm) fun z => z.elim (fun z => nlp2 z.symm) fun z => nnp z.symm, r35.keep (fun z => z) kpw, List.mem_singleton.mpr rfl, Nat.zero_le _⟩
      · rw [List.mem_singleton.mp hv]
        exact ⟨ps, xs, [(k, 1)], rfl, (r1.trans r2).free hps, fun z => z.elim npl fun z => z.elim (fun z => nsp z.symm) fun z => nnq z.symm, r35.keep (fun z => z) hxps, halls.mono r35, fun q hq => by rw [List.mem_singleton.mp hq]; exact ⟨hk, .inl rfl, .inl rfl⟩, List.nodup_cons.mpr ⟨(fun z => nomatch z), List.nodup_nil⟩, Nat.le_refl _⟩
    -- what is left as it was
    have exM : ∀ {G : Hp}, R (M3 lw ls ln) H5 G → Ex H G := fun {G} r b u hb => by
      refine r.keep (fun z => ?_) (r05.keep (fun z => z) hb)
      rcases z with rfl | rfl | rfl
      · rw [fw] at hb; cases hb
      · rw [fs] at hb; cases hb
      · rw [fn] at hb; cases hb
    have h05 := h0.mono r05
    refine q_while (M := Non) (fun m σ' H' => ∃ (at' : Nat) (sn : List Int) (ws ss : List V), (∃ o8 o9 o10 o11 o12, σ' = [some v0, some (.int (k : Nat)), some (.int (xW A k)), some (.int (yW A k)), some (.ref lw), some (.ref ls), some (.ref ln), some (.int (at' : Nat)), o8, o9, o10, o11, o12]) ∧
      R (M3 lw ls ln) H5 H' ∧ RI K H n A k lw ls ln sn H' ws ss ∧ at' ≤ sn.length ∧ m = n + 1 - at') (n + 1) ⟨0, [yW A k], [.ref pw], [.ref ps], ⟨_, _, _, _, _, rfl⟩, R.refl _, I5, Nat.zero_le _, rfl⟩ fun m σ' H' hW => ?_
    obtain ⟨at', sn, ws, ss, ⟨o8, o9, o10, o11, o12, rfl⟩, r', I, hat, rfl⟩ := hW
    have hsn := I.short
    refine ⟨decide (at' < sn.length), et_is (et_test (ed_B0 (K := K) (g := fun i j => decide (i < j)) (ed_var (k := 7) rfl (.int (at' : Nat))) (ed_lenV (K := K) (a := lw) (xs := ws) (ev_var (k := 4) rfl) (fun _ z => z) (.inl (.inl I.hw))))) ?_, fun hb H6 r6 => ?_, fun hb H6 r6 => ?_⟩
    · rw [I.e1]
      by_cases c : at' < sn.length
      · rw [decide_eq_true c, decide_eq_true (by omega)]
      · rw [decide_eq_false c, decide_eq_false (by omega)]
    · have hlt := of_decide_eq_true hb
      have I6 := I.ex r6
      have r56 : R (M3 lw ls ln) H5 H6 := r'.trans r6.non
      have hwat : ws[at']? = some (ws[at']'(by rw [I.e1]; exact hlt)) := List.getElem?_eq_getElem _
      have hsat : ss[at']? = some (ss[at']'(by rw [I.e2]; exact hlt)) := List.getElem?_eq_getElem _
      obtain ⟨pa, na, za, epa, fpa, bpa, hpa, hza, hla⟩ := I6.ways _ (List.mem_of_getElem? hwat)
      obtain ⟨qa, xa, La, eqa, fqa, bqa, hqa, halla, hLa, hda, hlL⟩ := I6.stps _ (List.mem_of_getElem? hsat)
      rw [epa] at hwat
      rw [eqa] at hsat
      refine ⟨fun σ2 G => ∃ (sn : List Int) (ws ss : List V), (∃ o8 o9 o10 o11 o12, σ2 = [some v0, some (.int (k : Nat)), some (.int (xW A k)), some (.int (yW A k)), some (.ref lw), some (.ref ls), some (.ref ln), some (.int ((at' + 1 : Nat) : Int)), o8, o9, o10, o11, o12]) ∧
        R (M3 lw ls ln) H5 G ∧ RI K H n A k lw ls ln sn G ws ss ∧ at' + 1 ≤ sn.length, fun σ2 G ⟨sn, ws, ss, hσ, r, I, h⟩ => ⟨n + 1 - (at' + 1), by omega, at' + 1, sn, ws, ss, hσ, r, I, h, rfl⟩, ?_⟩
      show tSeq _ _ _ ([some v0, some (.int (k : Nat)), some (.int (xW A k)), some (.int (yW A k)), some (.ref lw), some (.ref ls), some (.ref ln), some (.int (at' : Nat)), o8, o9, o10, o11, o12] : L2.St) H6
      -- here
      refine q_asg (M := Non) (P := fun v H2 => It K H2 v (.int za)) (ed_ixL (ds := (na ++ [za]).map PyData.int) (ev_ixR (K := K) (ev_var (k := 4) rfl) (ed_var (k := 7) rfl (.int (at' : Nat))) I6.hw hwat) (ed_U (g := fun i => -i) ed_i) (.inl (.inl hpa)) (fun _ z => z) (ItAll.ofInts _) (by rw [List.map_append]; exact atI_last)) fun v8 H7 r7 hv8 => ?_
      obtain rfl := it_int hv8
      -- here == x
      refine q_when (M := Non) (et_test (ed_eqI (K := K) (ed_var (k := 8) rfl (.int za)) (ed_var (k := 2) rfl (.int (xW A k))))) (fun _ H8 r8 => ?_) fun _ H8 r8 => ?_
      · refine s_ret (M := Non) (ev_ixR (K := K) (ev_var (k := 5) rfl) (ed_var (k := 7) rfl (.int (at' : Nat))) ((r7.trans r8).keep (fun z => z) I6.hs) hsat) fun v H9 r9 e9 => ?_
        subst e9
        have rr := (r7.trans r8).trans r9
        exact kQ qa xa La H9 fqa (exM (r56.trans rr.non)) (rr.keep (fun z => z) hqa) (halla.mono rr) ⟨fun q hq => ⟨(hLa q hq).1, (hLa q hq).2.1⟩, hda, by omega⟩
      have I8 := I6.ex (r7.trans r8)
      have r58 : R (M3 lw ls ln) H5 H8 := r56.trans (r7.trans r8).non
      -- the arrows
      refine q_for (M := Non) (M' := M3 lw ls ln) (src_rng1 (K := K) (n := (A.length : Nat)) (ea1 (ed_is (ed_lenT (ed_ix (ed_var (k := 0) rfl (h05.mono r58)) ed_i rfl)) (by rw [List.length_map]))) (by omega) (by omega)) (fun b u hb => ?_) fun H9 r9 => ?_
      · refine ⟨?_, fun z => z⟩
        rcases hb with rfl | rfl | rfl
        · exact nn I8.hw
        · exact nn I8.hs
        · exact nn I8.hn
      have I9 := I8.ex r9
      have r59 : R (M3 lw ls ln) H5 H9 := r58.trans r9.non
      have hpa9 := (r7.trans r8).trans r9 |>.keep (fun z => z) hpa
      have hqa9 := (r7.trans r8).trans r9 |>.keep (fun z => z) hqa
      have halla9 := halla.mono ((r7.trans r8).trans r9)
      let PV : L2.St → Hp → Prop := fun σ' G => (∃ o9 o10 o11 o12, σ' = [some v0, some (.int (k : Nat)), some (.int (xW A k)), some (.int (yW A k)), some (.ref lw), some (.ref ls), some (.ref ln), some (.int (at' : Nat)), some (.int za), o9, o10, o11, o12]) ∧
        ∃ (sn' : List Int) (ws' ss' : List V), RI K H n A k lw ls ln sn' G ws' ss' ∧ (∀ z ∈ sn, z ∈ sn') ∧ sn.length ≤ sn'.length ∧ ws'[at']? = some (.ref pa) ∧ ss'[at']? = some (.ref qa)
      refine ⟨fun _ => PV, ⟨⟨_, _, _, _, rfl⟩, sn, ws, ss, I9, fun _ z => z, Nat.le_refl _, hwat, hsat⟩, fun j σ' G hj rG hP v G1 e1 hy => ?_, fun σ' G rG hP => ?_⟩
      · rw [Int.toNat_natCast] at hj
        obtain ⟨⟨o9, o10, o11, o12, rfl⟩, sn', ws', ss', IG, sub, lsub, hw', hs'⟩ := hP
        subst hy
        have rG1 : R (M3 lw ls ln) H9 G1 := rG.trans (R.of e1)
        have IG1 := IG.ex (R.of e1)
        have hAj : A[j]? = some A[j] := List.getElem?_eq_getElem hj
        have xj := xW_at hAj
        have yj := yW_at hAj
        have h0G := (h05.mono r59).mono rG1
        have eA : ∀ {σ'' : L2.St}, σ''[0]? = some (some v0) → σ''[9]? = some (some (V.int (j : Nat))) → ED K Non (tOp (rIx K) (tOp (rIx K) (tVar 0) (tC (.int 1))) (tVar 9)) σ'' G1 (.tuple [.int (xW A j), .int (yW A j)]) := fun e0 e9 => by
          rw [xj, yj]
          exact ed_ix (ed_ix (ed_var e0 h0G) ed_i rfl) (ed_var e9 (.int (j : Nat))) (atI_nat (map_get hAj))
        show tFor _ _ _ _ ([some v0, some (.int (k : Nat)), some (.int (xW A k)), some (.int (yW A k)), some (.ref lw), some (.ref ls), some (.ref ln), some (.int (at' : Nat)), some (.int za), some (.int (j : Nat)), o10, o11, o12] : L2.St) G1
        refine s_for (M := Non) (M' := M3 lw ls ln) (src_list (K := K) (ds := [.tuple [.int (xW A j), .int (yW A j), .int 1], .tuple [.int (yW A j), .int (xW A j), .int (-1)]]) (el_lst (ea_cons (ed_cat (ds := [.int (xW A j), .int (yW A j)]) (es := [.int 1]) (eA rfl rfl) (ed_tup (ea1 ed_i) (show 1 ≤ 100000 by decide)) (show 3 ≤ 100000 by decide)) (ea_cons (ed_cat (ds := [.int (yW A j), .int (xW A j)]) (es := [.int (-1)]) (ed_is (ed_step (c := -1) (eA rfl rfl) (ed_U (g := fun i => -i) ed_i) (.inr rfl)) rfl) (ed_tup (ea1 (ed_U (g := fun i => -i) ed_i)) (show 1 ≤ 100000 by decide)) (show 3 ≤ 100000 by decide)) ea_nil)) (show 2 ≤ 100000 by decide))) (fun b u hb => ?_) fun G2 r2' => ?_
        · refine ⟨?_, fun z => z⟩
          rcases hb with rfl | rfl | rfl
          · exact nn IG1.hw
          · exact nn IG1.hs
          · exact nn IG1.hn
        let PW : L2.St → Hp → Prop := fun σ' G => (∃ o10 o11 o12, σ' = [some v0, some (.int (k : Nat)), some (.int (xW A k)), some (.int (yW A k)), some (.ref lw), some (.ref ls), some (.ref ln), some (.int (at' : Nat)), some (.int za), some (.int (j : Nat)), o10, o11, o12]) ∧
          ∃ (sn' : List Int) (ws' ss' : List V), RI K H n A k lw ls ln sn' G ws' ss' ∧ (∀ z ∈ sn, z ∈ sn') ∧ sn.length ≤ sn'.length ∧ ws'[at']? = some (.ref pa) ∧ ss'[at']? = some (.ref qa)
        have r92 : R (M3 lw ls ln) H9 G2 := rG1.trans r2'.non
        refine ⟨fun _ => PW, ⟨⟨_, _, _, rfl⟩, sn', ws', ss', IG1.ex r2', sub, lsub, hw', hs'⟩, fun i σ' G3 hi r3' hP v G4 e4 hy => ?_, fun σ' G3 r3' hP => ?_⟩
        · obtain ⟨⟨o10, o11, o12, rfl⟩, sn', ws', ss', IG3, sub, lsub, hw', hs'⟩ := hP
          obtain ⟨d, hd, hv⟩ := hy
          obtain ⟨lo, hi', sg, rfl, hsg, hends⟩ := two_ways hd
          obtain ⟨w1, w2, w3, g1, g2, g3, bd⟩ := un3 (i := 10) (j := 11) (l := 12) (σ := [some v0, some (.int (k : Nat)), some (.int (xW A k)), some (.int (yW A k)), some (.ref lw), some (.ref ls), some (.ref ln), some (.int (at' : Nat)), some (.int za), some (.int (j : Nat)), o10, o11, o12]) hv
          obtain rfl := it_int g1
          obtain rfl := it_int g2
          obtain rfl := it_int g3
          refine bd _ ?_
          have IG4 := IG3.ex (R.of e4)
          have r24 : R (M3 lw ls ln) G2 G4 := r3'.trans (R.of e4)
          have hsn4 := IG4.short
          have l1 := IG4.e1
          have l2 := IG4.e2
          show tIfS _ _ _ _ ([some v0, some (.int (k : Nat)), some (.int (xW A k)), some (.int (yW A k)), some (.ref lw), some (.ref ls), some (.ref ln), some (.int (at' : Nat)), some (.int za), some (.int (j : Nat)), some (.int lo), some (.int hi'), some (.int sg)] : L2.St) G4
          refine s_when (M := Non) (b := !decide (((j : Nat) : Int) = (k : Nat)) && (decide (lo = za) && !decide (hi' ∈ sn'))) (et_and (et_test (ed_neI (K := K) (ed_var (k := 9) rfl (.int (j : Nat))) (ed_var (k := 1) rfl (.int (k : Nat))))) fun _ => et_and (et_test (ed_eqI (K := K) (ed_var (k := 10) rfl (.int lo)) (ed_var (k := 8) rfl (.int za)))) fun _ => et_test (ed_notinL (K := K) (ed_var (k := 11) rfl (.int hi')) (ev_var (k := 6) rfl) IG4.hn)) (fun hb G5 r5' => ?_) fun hb G5 r5' => ?_
          · have hb : (¬ ((j : Nat) : Int) = (k : Nat)) ∧ lo = za ∧ hi' ∉ sn' := by simpa using hb
            obtain ⟨hjk, rfl, hnew⟩ := hb
            have IG5 := IG4.ex r5'
            -- seen
            refine q_app (K := K) (M := Non) (P := fun v _ => v = .int hi') IG5.hn (fun _ z => z) (ev_var (k := 6) rfl) (ev_var (k := 11) rfl) (by rw [List.length_map]; omega) fun v G6 r6' ev6 hn6 => ?_
            subst ev6
            have IG6 := IG5.ex r6'
            have rx7 : R (M3 lw ls ln) G4 (upd G6 ln (.lst (sn'.map .int ++ [.int hi']))) := (r5'.trans r6').non.chg hn6 mt_l mt_l (.inr (.inr rfl)) (.inr (.inr rfl))
            have hw7 : (upd G6 ln (.lst (sn'.map .int ++ [.int hi']))) lw = some (.lst ws') := by rw [upd_ne nnw.symm]; exact IG6.hw
            have hs7 : (upd G6 ln (.lst (sn'.map .int ++ [.int hi']))) ls = some (.lst ss') := by rw [upd_ne nns.symm]; exact IG6.hs
            have hn7 : (upd G6 ln (.lst (sn'.map .int ++ [.int hi']))) ln = some (.lst ((sn' ++ [hi']).map .int)) := by rw [upd_same, List.map_append]; rfl
            generalize (upd G6 ln (.lst (sn'.map .int ++ [.int hi']))) = G7 at rx7 hw7 hs7 hn7 ⊢
            have r97 : R (M3 lw ls ln) H9 G7 := (r92.trans r24).trans rx7
            have hpa7 := r97.keep bpa hpa9
            have hqa7 := r97.keep bqa hqa9
            have halla7 := halla9.mono r97
            -- ways
            refine q_app (K := K) (M := Non) hw7 (fun _ z => z) (ev_var (k := 4) rfl) (el_ev (K := K) (el_catL (ev_ixR (K := K) (ev_var (k := 4) rfl) (ed_var (k := 7) rfl (.int (at' : Nat))) hw7 hw') hpa7 (ItAll.ofInts (na ++ [lo])) (el_lst (ds := [PyData.int hi']) (ea_cons (ed_var (k := 11) rfl (.int hi')) ea_nil) (show 1 ≤ 100000 by decide)) (by rw [List.length_map, List.length_append]; show na.length + 1 + 1 ≤ 100000; omega))) (by omega) fun v G8 r8' hv8 hw8 => ?_
            obtain ⟨pb, xb, rfl, fpb, hpb, hallb⟩ := hv8
            have exb := ItAll.ints (ns := na ++ [lo] ++ [hi']) (by rw [List.map_append]; exact hallb)
            subst exb
            have nb1 : pb ≠ lw := fun z => by rw [z, hw7] at fpb; cases fpb
            have nb2 : pb ≠ ls := fun z => by rw [z, hs7] at fpb; cases fpb
            have nb3 : pb ≠ ln := fun z => by rw [z, hn7] at fpb; cases fpb
            have rx9 : R (M3 lw ls ln) G7 (upd G8 lw (.lst (ws' ++ [.ref pb]))) := r8'.non.chg hw8 mt_l mt_l (.inl rfl) (.inl rfl)
            have hw9 : (upd G8 lw (.lst (ws' ++ [.ref pb]))) lw = some (.lst (ws' ++ [.ref pb])) := upd_same
            have hs9 : (upd G8 lw (.lst (ws' ++ [.ref pb]))) ls = some (.lst ss') := by rw [upd_ne nls]; exact r8'.keep (fun z => z) hs7
            have hn9 : (upd G8 lw (.lst (ws' ++ [.ref pb]))) ln = some (.lst ((sn' ++ [hi']).map .int)) := by rw [upd_ne nnw]; exact r8'.keep (fun z => z) hn7
            have hpb9 : (upd G8 lw (.lst (ws' ++ [.ref pb]))) pb = some (.lst ((na ++ [lo] ++ [hi']).map .int)) := by rw [upd_ne nb1]; exact hpb
            generalize (upd G8 lw (.lst (ws' ++ [.ref pb]))) = G9 at rx9 hw9 hs9 hn9 hpb9 ⊢
            have r99 := r97.trans rx9
            have hqa9' := r99.keep bqa hqa9
            have halla9' := halla9.mono r99
            -- steps
            refine s_app (K := K) (M := Non) hs9 (fun _ z => z) (ev_var (k := 5) rfl) (el_ev (K := K) (el_catL (ev_ixR (K := K) (ev_var (k := 5) rfl) (ed_var (k := 7) rfl (.int (at' : Nat))) hs9 hs') hqa9' halla9' (el_lst (ds := [gD (j, sg)]) (ea_cons (ed_tup (ea_cons (ed_var (k := 9) rfl (.int (j : Nat))) (ea_cons (ed_var (k := 12) rfl (.int sg)) ea_nil)) (show 2 ≤ 100000 by decide)) ea_nil) (show 1 ≤ 100000 by decide)) (by rw [List.length_map]; show La.length + 1 ≤ 100000; omega))) (by omega) fun v G10 r10' hv10 hs10 => ?_
            obtain ⟨pc, xc, rfl, fpc, hpc, hallc⟩ := hv10
            have nc1 : pc ≠ lw := fun z => by rw [z, hw9] at fpc; cases fpc
            have nc2 : pc ≠ ls := fun z => by rw [z, hs9] at fpc; cases fpc
            have nc3 : pc ≠ ln := fun z => by rw [z, hn9] at fpc; cases fpc
            have rx11 : R (M3 lw ls ln) G9 (upd G10 ls (.lst (ss' ++ [.ref pc]))) := r10'.non.chg hs10 mt_l mt_l (.inr (.inl rfl)) (.inr (.inl rfl))
            have hw11 : (upd G10 ls (.lst (ss' ++ [.ref pc]))) lw = some (.lst (ws' ++ [.ref pb])) := by rw [upd_ne nls.symm]; exact r10'.keep (fun z => z) hw9
            have hs11 : (upd G10 ls (.lst (ss' ++ [.ref pc]))) ls = some (.lst (ss' ++ [.ref pc])) := upd_same
            have hn11 : (upd G10 ls (.lst (ss' ++ [.ref pc]))) ln = some (.lst ((sn' ++ [hi']).map .int)) := by rw [upd_ne nns]; exact r10'.keep (fun z => z) hn9
            have hpb11 : (upd G10 ls (.lst (ss' ++ [.ref pc]))) pb = some (.lst ((na ++ [lo] ++ [hi']).map .int)) := by rw [upd_ne nb2]; exact r10'.keep (fun z => z) hpb9
            have hpc11 : (upd G10 ls (.lst (ss' ++ [.ref pc]))) pc = some (.lst xc) := by rw [upd_ne nc2]; exact hpc
            have hallc11 : ItAll K (upd G10 ls (.lst (ss' ++ [.ref pc]))) xc ((La ++ [(j, sg)]).map gD) := by
              rw [List.map_append]
              exact hallc.updL hs10
            generalize (upd G10 ls (.lst (ss' ++ [.ref pc]))) = G11 at rx11 hw11 hs11 hn11 hpb11 hpc11 hallc11 ⊢
            have r4E : R (M3 lw ls ln) G4 G11 := (rx7.trans rx9).trans rx11
            have fb : H pb = none := by
              cases e : H pb with
              | none => rfl
              | some u =>
                have := exM (r59.trans r97) pb u e
                rw [fpb] at this; cases this
            have fc : H pc = none := by
              cases e : H pc with
              | none => rfl
              | some u =>
                have := exM (r59.trans r99) pc u e
                rw [fpc] at this; cases this
            obtain ⟨⟨a1, a2⟩, a3, a4⟩ := W.Ends j hj
            have hj' : j ≠ k := fun z => hjk (by rw [z])
            have both : lo ∈ sn' ++ [hi'] ∧ hi' ∈ sn' ++ [hi'] := ⟨List.mem_append_left _ (sub _ hza), List.mem_append_right _ (List.mem_singleton.mpr rfl)⟩
            have up : ∀ z ∈ sn', z ∈ sn' ++ [hi'] := fun z hz => List.mem_append_left _ hz
            have lup : sn'.length ≤ (sn' ++ [hi']).length := by rw [List.length_append]; omega
            have llen : (sn' ++ [hi']).length = sn'.length + 1 := by rw [List.length_append]; rfl
            refine ⟨r3'.trans ((R.of e4).trans r4E), ⟨_, _, _, rfl⟩, sn' ++ [hi'], ws' ++ [.ref pb], ss' ++ [.ref pc], ⟨hw11, hs11, hn11, by rw [List.length_append, List.length_append, l1]; rfl, by rw [List.length_append, List.length_append, l2]; rfl, nodup_snoc IG4.nd hnew, fun z hz => ?_, fun v hv => ?_, fun v hv => ?_⟩, fun z hz => up _ (sub z hz), by omega, by rw [List.getElem?_append_left (List.getElem?_eq_some_iff.mp hw').1]; exact hw', by rw [List.getElem?_append_left (List.getElem?_eq_some_iff.mp hs').1]; exact hs'⟩
            · rcases List.mem_append.mp hz with hz | hz
              · exact IG4.rg z hz
              · rw [List.mem_singleton.mp hz]
                rcases hends with ⟨_, rfl⟩ | ⟨_, rfl⟩
                · exact ⟨a3, a4⟩
                · exact ⟨a1, a2⟩
            · rcases List.mem_append.mp hv with hv | hv
              · exact (IG4.ways v hv).mono r4E up lup
              · rw [List.mem_singleton.mp hv]
                exact ⟨pb, na ++ [lo], hi', rfl, fb, fun z => z.elim nb1 fun z => z.elim nb2 nb3, hpb11, both.2, by rw [List.length_append, llen]; show na.length + 1 ≤ _; omega⟩
            · rcases List.mem_append.mp hv with hv | hv
              · exact (IG4.stps v hv).mono r4E up lup
              · rw [List.mem_singleton.mp hv]
                refine ⟨pc, xc, La ++ [(j, sg)], rfl, fc, fun z => z.elim nc1 fun z => z.elim nc2 nc3, hpc11, hallc11, fun q hq => ?_, ?_, by rw [List.length_append, llen]; show La.length + 1 ≤ _; omega⟩
                · rcases List.mem_append.mp hq with hq | hq
                  · exact ⟨(hLa q hq).1, (hLa q hq).2.1, (hLa q hq).2.2.imp id fun z => ⟨up _ (sub _ z.1), up _ (sub _ z.2)⟩⟩
                  · rw [List.mem_singleton.mp hq]
                    refine ⟨hj, hsg, .inr ?_⟩
                    rcases hends with ⟨e1, e2⟩ | ⟨e1, e2⟩
                    · show xW A j ∈ _ ∧ yW A j ∈ _
                      rw [← e1, ← e2]; exact both
                    · show xW A j ∈ _ ∧ yW A j ∈ _
                      rw [← e1, ← e2]; exact ⟨both.2, both.1⟩
                · rw [List.map_append]
                  refine nodup_snoc hda fun hm => ?_
                  obtain ⟨q, hq, e⟩ := List.mem_map.mp hm
                  have e : q.1 = j := e
                  rcases (hLa q hq).2.2 with z | ⟨z1, z2⟩
                  · exact hj' (by rw [← e, z])
                  · rw [e] at z1 z2
                    rcases hends with ⟨_, e2⟩ | ⟨_, e2⟩
                    · exact hnew (e2 ▸ sub _ z2)
                    · exact hnew (e2 ▸ sub _ z1)
          · exact ⟨r3'.trans ((R.of e4).trans r5'.non), ⟨_, _, _, rfl⟩, sn', ws', ss', IG4.ex r5', sub, lsub, hw', hs'⟩
        · obtain ⟨⟨o10, o11, o12, rfl⟩, z⟩ := hP
          exact ⟨(rG.trans (R.of e1)).trans (r2'.non.trans r3'), ⟨_, _, _, _, rfl⟩, z⟩
      · obtain ⟨⟨o9, o10, o11, o12, rfl⟩, sn', ws', ss', IG, sub, lsub, hw', hs'⟩ := hP
        refine s_asg (M := Non) (P := fun v _ => v = .int ((at' + 1 : Nat) : Int)) ((ed_I0 (K := K) (g := fun i j => i + j) (ed_var (k := 7) rfl (.int (at' : Nat))) (ed_i (i := 1))).imp fun v H2 _ p => by rw [it_int p]; rfl) fun v G2 r2' ev => ?_
        subst ev
        exact ⟨sn', ws', ss', ⟨_, _, _, _, _, rfl⟩, (r59.trans rG).trans r2'.non, IG.ex r2', by omega⟩
    · refine s_retL (K := K) (M := Non) (ds := []) (el_lst ea_nil (by decide)) fun p xs G hp rG hx hall => ?_
      have rr : R (M3 lw ls ln) H5 G := (r'.trans r6.non).trans rG.non
      refine kQ p xs [] G ?_ (exM rr) hx hall ⟨(fun _ z => nomatch z), List.nodup_nil, Nat.zero_le _⟩
      cases e : H p with
      | none => rfl
      | some u =>
        have := exM (r'.trans r6.non) p u e
        rw [hp] at this; cases this
end
end KP

/-! part KL8 -/
set_option Elab.async false
set_option linter.all false
set_option maxRecDepth 100000
set_option maxHeartbeats 4000000
/-! _law_some_flow, _law_bounds. -/
namespace KP
open PySem PySem.Spec PyProof.Rows L2
section
variable {K : PySem.W.Frag} {M : MM} {σ : L2.St} {H H' : Hp} {ta tb te tx tl : TE} {t u : TT} {v x y z : V} {d e : PyData} {P1 P2 P3 : V → Hp → Prop} {ds es : List PyData} {i j : Int}
theorem s_forC {D : Ends} {gt : TG} {tu : TS} {sp : Sp} {E : XK} {ta : TA} {PL : List V → Hp → Prop} (h : EvA M ta σ H PL) (c : ∀ vs H1, R M H H1 → PL vs H1 → sp vs H1 (fun v H2 => tFor (iList K (tC v)) gt tu D σ H2) E) : tFor (iList K (tCall sp [] E ta)) gt tu D σ H := h H (R.refl H) _ fun vs H1 r p => by
  show sp (vs ++ []) H1 _ E
  rw [List.append_nil]
  exact c vs H1 r p
theorem sh_pD {p : Int × Int} : Sh 1 (pD p) := sh_tup (ds := [p.1, p.2].map .int) sh_ints
theorem sh_arr {A : List (Int × Int)} : SeqAt.shaped (.tuple (A.map pD)) = true := (sh_tup (n := 1) fun d hd => by
  obtain ⟨p, _, rfl⟩ := List.mem_map.mp hd
  exact sh_pD).shaped (by decide)
end
theorem take_snoc {α : Type} {L : List α} {i : Nat} {q : α} (h : L[i]? = some q) : L.take (i + 1) = L.take i ++ [q] := by
  rw [List.take_succ, h]
  rfl
theorem new_arrow {L : List (Nat × Int)} {i : Nat} {q : Nat × Int} (nd : (L.map (·.1)).Nodup) (h : L[i]? = some q) : q.1 ∉ (L.take i).map (·.1) := fun hm => by
  have s : ((L.take (i + 1)).map (·.1)).Nodup := nd.sublist ((List.take_sublist _ _).map _)
  rw [take_snoc h, List.map_append, List.nodup_append] at s
  exact s.2.2 _ hm q.1 (List.mem_singleton.mpr rfl) rfl
/-- how far the amounts may lie -/
def Far (cs : List Int) (t : Nat) (T : List Nat) : Prop := ∀ j : Nat, -(3 * (t : Int) + (if j ∈ T then 3 else 0)) ≤ fL cs j ∧ fL cs j ≤ 3 * (t : Int) + (if j ∈ T then 3 else 0)
theorem Far.step {cs : List Int} {t : Nat} {T : List Nat} {q : Nat} {s tm : Int} (h : Far cs t T) (hq : q ∉ T) (hk : q < cs.length) (hs : s = 1 ∨ s = -1) (h1 : -3 ≤ tm) (h2 : tm ≤ 3) : Far (cs.set q (fL cs q + s * tm)) t (T ++ [q]) := fun j => by
  rw [fL_set hk]
  by_cases c : j = q
  · subst c
    rw [if_pos rfl, if_pos (List.mem_append_right _ (List.mem_singleton.mpr rfl))]
    have := h j
    rw [if_neg hq] at this
    rcases hs with rfl | rfl <;> omega
  · rw [if_neg c]
    have := h j
    have e : (j ∈ T ++ [q]) ↔ j ∈ T := ⟨fun z => (List.mem_append.mp z).elim id fun z => absurd (List.mem_singleton.mp z) c, fun z => List.mem_append_left _ z⟩
    by_cases d : j ∈ T
    · rw [if_pos (e.mpr d)]
      rw [if_pos d] at this
      exact this
    · rw [if_neg fun z => d (e.mp z)]
      rw [if_neg d] at this
      exact this
theorem Far.next {cs : List Int} {t : Nat} {T : List Nat} (h : Far cs t T) : Far cs (t + 1) [] := fun j => by
  have := h j
  rw [if_neg (fun z => nomatch z)]
  by_cases d : j ∈ T
  · rw [if_pos d] at this; omega
  · rw [if_neg d] at this; omega
theorem Far.mem {cs : List Int} {t : Nat} (h : Far cs t []) : ∀ c ∈ cs, -(3 * (t : Int)) ≤ c ∧ c ≤ 3 * (t : Int) := fun c hc => by
  obtain ⟨j, hj, rfl⟩ := List.getElem_of_mem hc
  have := h j
  rw [if_neg (fun z => nomatch z), fL_at (List.getElem?_eq_getElem hj)] at this
  omega
section
variable {P : Program} {w : World} {K : PySem.W.Frag} {mg : Str → Option Value} {base : Heap}
-- _law_some_flow: slots _law_mill_here=0 _law_web_here=1 _law_found=2 _law_turn=3 _law_k=4 _law_times=5 _law_arrow=6 _law_sign=7
abbrev s__law_some_flow : Stmt := topS 48
abbrev N__law_some_flow : List Str := ["_law_mill_here", "_law_web_here", "_law_found", "_law_turn", "_law_k", "_law_times", "_law_arrow", "_law_sign"]
theorem sc__law_some_flow : FnScope N__law_some_flow ["_law_mill_here", "_law_web_here"] (defScope s__law_some_flow) := ⟨rfl, rfl, rfl, by decide +kernel, rfl, by decide +kernel, by decide +kernel⟩
def RetAm (a : Addr) (m : Nat) (H : Hp) (Q : VK) : Prop := ∀ (p : Addr) (cs : List Int) (H2 : Hp), H p = none → R (Mil a) H H2 → H2 p = some (.lst (cs.map .int)) → cs.length = m → (∀ c ∈ cs, -9 ≤ c ∧ c ≤ 9) → Q (.ref p) H2
def sp_some_flow (K : PySem.W.Frag) : Sp := fun vs H Q _ => ∃ (a : Addr) (v1 : V) (n : Nat) (A : List (Int × Int)), vs = [.ref a, v1] ∧ Mok a H ∧ It K H v1 (wD n A) ∧ WebOk n A ∧ RetAm a A.length H Q
theorem cl__law_some_flow (c__law_grind : Cl P w K mg base 1 "_law_grind" sp_grind) (c__law_ring : Cl P w K mg base 1 "_law_ring" (sp_ring K)) (B : GB mg) (DF : Df K mg "_law_some_flow" s__law_some_flow) : Cl P w K mg base 2 "_law_some_flow" (sp_some_flow K) := by
  obtain ⟨f, fd, F, g⟩ := DF.ex
  refine ⟨f, fd, ["_law_mill_here", "_law_web_here"], F.ok sc__law_some_flow (fun vs H Q E h => ?_) (fun cdv A outer s H vs Q E hr h => ?_), g, F.kp, F.binds fun _ _ _ _ _ _ us hl => match us, hl with | [_, _], _ => rfl⟩
  · obtain ⟨a, v1, n, A, rfl, _⟩ := h
    rfl
  · obtain ⟨a, v1, n, A, rfl, hm, h1, W, kQ⟩ := h
    have nd := sc__law_some_flow.nd
    refine ⟨_, (pss_cons (ps_set (i := 2) nd rfl (.inl rfl) (pe_op op_rep (pe_lst (pa_cons pe_int pa_nil)) (pe_callB (call_len_K (K := K)) (by rfl) B.len boot_len (pa_cons (pe_ix (ix_K (K := K)) (pv 1) pe_int (fun _ _ => rfl)) pa_nil))))
      (pss_cons (ps_for PassesOwn.never rfl (pi_range1 (by rfl) B.range (pa_cons pe_int pa_nil)) (pg_name (i := 3) nd rfl (.inl rfl))
        (pss_one (ps_if (pt_cmpR (op_ne_K (K := K) hr.units) (pe_ix (ix_K (K := K)) (pv 1) pe_int (fun _ _ => rfl)) (pe_tup pa_nil) (nomark _)) (pss_cons (ps_set (i := 4) nd rfl (.inl rfl) (pe_k c__law_grind hr (by decide) (by rfl) (pa_cons (pv 0) (pa_cons (pe_callB (call_len_K (K := K)) (by rfl) B.len boot_len (pa_cons (pe_ix (ix_K (K := K)) (pv 1) pe_int (fun _ _ => rfl)) pa_nil)) pa_nil))))
          (pss_cons (ps_set (i := 5) nd rfl (.inl rfl) (pe_op op_sub (pe_k c__law_grind hr (by decide) (by rfl) (pa_cons (pv 0) (pa_cons pe_int pa_nil))) pe_int))
          (pss_one (ps_for PassesOwn.never rfl (pi_list_K (K := K) (pe_k c__law_ring hr (by decide) (by rfl) (pa_cons (pv 1) (pa_cons (pv 4) pa_nil)))) (pg_tup_K (K := K) (n := 2) rfl (pgs_cons (pg_name (i := 6) nd rfl (.inl rfl)) (pgs_cons (pg_name (i := 7) nd rfl (.inl rfl)) pgs_nil)))
            (pss_one (ps_asg (pe_op op_add (pe_ix (ix_K (K := K)) (pv 2) (pv 6) (fun _ _ => rfl)) (pe_op op_mul (pv 7) (pv 5))) (pg_sub (pv 2) (pv 6) set_list))))))) pss_nil)))
      (pss_one (ps_ret (pv 2))))), ?_⟩
    have hm1 := W.m1
    refine q_asgL (K := K) (M := Non) (el_rep (n := A.length) (el_lst (ea1 ed_i) (by decide)) (ed_is (ed_lenT (ed_ix (ed_var (k := 1) rfl h1) ed_i rfl)) (by rw [List.length_map])) (by omega)) fun lf xs H1 hlf r1 hx hall => ?_
    have exs := ItAll.ints (ns := List.replicate A.length 0) (by rw [List.map_replicate]; exact hall)
    subst exs
    have hma := hm.ex r1.ex
    have lfa : lf ≠ a := fun z => hm.ne (z ▸ hlf)
    have nmF : ∀ u, ¬ Mil a lf u := fun u z => lfa z.1
    refine q_for (M := Non) (M' := Also (Mil a) lf) (src_rng1 (K := K) (n := 3) (ea1 ed_i) (by decide) (by decide)) (fun b u' hb => ?_) fun H2 r2 => ?_
    · rcases hb with hb | rfl
      · exact ⟨by rw [hb.1]; exact hma.ne, fun z => z⟩
      · exact ⟨nn hx, fun z => z⟩
    refine ⟨fun i σ' H' => (∃ o3 o4 o5 o6 o7, σ' = [some (.ref a), some v1, some (.ref lf), o3, o4, o5, o6, o7]) ∧ Mok a H' ∧ ∃ cs : List Int, H' lf = some (.lst (cs.map .int)) ∧ cs.length = A.length ∧ Far cs i [], ⟨⟨_, _, _, _, _, rfl⟩, hma.ex r2.ex, _, r2.keep (fun z => z) hx, List.length_replicate, fun j => ?_⟩, fun i σ' H' hi r' hP v H3 e3 hy => ?_, fun σ' H' r' hP => ?_⟩
    · rw [if_neg (fun z => nomatch z)]
      have : fL (List.replicate A.length 0) j = 0 := by
        unfold fL
        rw [List.getD_eq_getElem?_getD]
        by_cases c : j < A.length
        · rw [List.getElem?_eq_getElem (by rw [List.length_replicate]; exact c), List.getElem_replicate]; rfl
        · rw [List.getElem?_eq_none (by rw [List.length_replicate]; omega)]; rfl
      rw [this]
      exact ⟨by decide, by decide⟩
    · obtain ⟨⟨o3, o4, o5, o6, o7, rfl⟩, hm', cs, hcs, hcl, hcf⟩ := hP
      subst hy
      have hm3 := hm'.ex e3
      have r23 : R (Also (Mil a) lf) H2 H3 := r'.trans (R.of e3)
      have h13 : It K H3 v1 (wD n A) := (h1.mono (r1.trans r2)).mono r23
      have hcs3 := e3 _ _ hcs
      show tIfS _ _ _ _ ([some (.ref a), some v1, some (.ref lf), some (.int (i : Nat)), o4, o5, o6, o7] : L2.St) H3
      generalize (some (V.int ((i : Nat) : Int))) = o3
      refine s_when (M := Non) (b := !decide (A.map pD = [])) (et_is (et_test (ed_neD (K := K) (ed_ix (ed_var (k := 1) rfl h13) ed_i rfl) (ed_tup ea_nil (by decide)) sh_arr rfl)) (by rw [eqv_tnil])) (fun hb H4 r4 => ?_) fun hb H4 r4 => ⟨r23.trans r4.non, ⟨_, _, _, _, _, rfl⟩, hm3.ex r4.ex, cs, r4.keep (fun z => z) hcs3, hcl, hcf.next⟩
      have hA : 0 < A.length := by
        cases A with
        | nil => cases hb
        | cons _ _ => exact Nat.succ_pos _
      refine q_asg (M := Mil a) (ei_grind (K := K) (n := (A.length : Nat)) (ev_var (k := 0) rfl) (ed_is (ed_lenT (ed_ix (ed_var (k := 1) rfl (h13.mono r4)) ed_i rfl)) (by rw [List.length_map])) (hm3.ex r4.ex) (by omega) (by omega)) fun v4 H5 r5 hv4 => ?_
      obtain ⟨ki, rfl, k0, k1⟩ := hv4
      obtain ⟨k, rfl⟩ := Int.eq_ofNat_of_zero_le k0
      have r35 : R (Mil a) H3 H5 := r4.non.trans r5
      refine q_asg (M := Mil a) (ei_I0 (g := fun i j => i - j) (B := fun j => j = 3) (C := fun i => -3 ≤ i ∧ i ≤ 3) (ei_grind (K := K) (n := 7) (ev_var (k := 0) rfl) ed_i (hm3.mono r35) (by decide) (by decide)) (ei_d (K := K) ed_i rfl) fun i j h1 h2 => by subst h2; show -3 ≤ i - 3 ∧ i - 3 ≤ 3; omega) fun v5 H6 r6 hv5 => ?_
      obtain ⟨tm, rfl, t0, t1⟩ := hv5
      have r36 := r35.trans r6
      refine s_forC (K := K) (M := Non) (va_cons (ed_var (k := 1) rfl (h13.mono r36)) stb_d (va_cons (ev_var (k := 4) (v := .int (k : Nat)) rfl) stb_v va_nil)) fun vs H7 r7 hvs => ?_
      obtain ⟨_, _, rfl, q1, _, _, rfl, rfl, rfl⟩ := hvs
      refine ⟨_, n, A, k, rfl, q1, W, by omega, fun p xs L H8 hp e8 hpx hpall ok => ?_⟩
      have r38 := r36.trans (r7.non.trans (R.of e8))
      have hcs8 := r38.keep (nmF _) hcs3
      have lfp : lf ≠ p := fun z => by
        have := (r36.trans r7.non).keep (nmF _) hcs3
        rw [z, hp] at this; cases this
      refine s_for (M := Non) (M' := Also Non lf) (src_lv (K := K) (ds := L.map gD) ev_c (fun _ z => z) (.inl (.inl hpx)) (nn hpx) hpall) (fun b u hb => ?_) fun H9 r9 => ?_
      · rcases hb with hb | rfl
        · exact hb.elim
        · exact ⟨nn hcs8, lfp⟩
      refine ⟨fun l σ' H' => (∃ o6 o7, σ' = [some (.ref a), some v1, some (.ref lf), o3, some (.int (k : Nat)), some (.int tm), o6, o7]) ∧ ∃ cs : List Int, H' lf = some (.lst (cs.map .int)) ∧ cs.length = A.length ∧ Far cs i ((L.take l).map (·.1)), ⟨⟨_, _, rfl⟩, cs, r9.keep (fun z => z) hcs8, hcl, hcf⟩, fun l σ' H' hl r' hP v G e hy => ?_, fun σ' G rG hP => ?_⟩
      · obtain ⟨⟨o6, o7, rfl⟩, cs', hcs', hcl', hcf'⟩ := hP
        obtain ⟨q, hq, hv⟩ := yd_map hy
        obtain ⟨w1, w2, g1, g2, bd⟩ := un2 (i := 6) (j := 7) (σ := [some (.ref a), some v1, some (.ref lf), o3, some (.int (k : Nat)), some (.int tm), o6, o7]) hv
        obtain rfl := it_int g1
        obtain rfl := it_int g2
        refine bd _ ?_
        obtain ⟨hq1, hq2⟩ := ok.at' q (List.mem_of_getElem? hq)
        have hk2 : q.1 < cs'.length := by omega
        have hg : cs'[q.1]? = some (fL cs' q.1) := by
          unfold fL
          rw [List.getD_eq_getElem?_getD, List.getElem?_eq_getElem hk2]
          rfl
        have hcsG := e _ _ hcs'
        refine s_setL (K := K) (M := Non) (k := q.1) (P := fun v _ => v = .int (fL cs' q.1 + q.2 * tm)) hcsG (fun _ z => z) ((ed_I0 (K := K) (g := fun i j => i + j) (ed_li (ev_var (k := 2) rfl) (fun _ z => z) hcsG (ed_var (k := 6) rfl (.int (q.1 : Nat))) hg) (ed_mul1 (ed_var (k := 7) rfl (.int q.2)) (ed_var (k := 5) rfl (.int tm)) hq2)).imp fun v H2 _ p => it_int p) stb_v (ev_var (k := 2) rfl) (ed_var (K := K) (k := 6) rfl (.int (q.1 : Nat))) (by rw [List.length_map]; exact hk2) fun v G2 r2' ev h2 => ?_
        subst ev
        refine ⟨((r'.trans (R.of e)).trans r2'.non).chgA h2 mt_l mt_l, ⟨_, _, rfl⟩, cs'.set q.1 (fL cs' q.1 + q.2 * tm), by rw [upd_same, List.map_set], by rw [List.length_set]; exact hcl', ?_⟩
        rw [take_snoc hq, List.map_append]
        exact hcf'.step (new_arrow ok.nd hq) hk2 hq2 t0 t1
      · obtain ⟨⟨o6, o7, rfl⟩, cs', hcs', hcl', hcf'⟩ := hP
        have rx : R (Also (Mil a) lf) H3 G := (r38.trans r9.non).also.trans (rG.wide fun b u h => h.elim (fun z => z.elim) .inr)
        refine ⟨r23.trans rx, ⟨_, _, _, _, _, rfl⟩, ?_, cs', hcs', hcl', hcf'.next⟩
        obtain ⟨g, x, hg⟩ := hm3.mono (r38.trans r9.non)
        exact ⟨g, x, rG.keep (fun z => z.elim (fun z => z) fun z => lfa z.symm) hg⟩
    · obtain ⟨⟨o3, o4, o5, o6, o7, rfl⟩, hm', cs, hcs, hcl, hcf⟩ := hP
      refine s_ret (M := Non) (ev_var (k := 2) (v := .ref lf) rfl) fun v H5 r5 e => ?_
      subst e
      exact kQ lf cs H5 hlf (((r1.trans r2).non.drop hlf r').trans r5.non) (r5.keep (fun z => z) hcs) hcl hcf.mem

-- _law_bounds: slots _law_mill_here=0c _law_web_here=1 _law_reach=2 _law_way=3 _law_amounts=4 _law_found=5 _law_one=6 _law_low=7 _law_high=8 _law_ends=9
abbrev s__law_bounds : Stmt := topS 47
abbrev N__law_bounds : List Str := ["_law_mill_here", "_law_web_here", "_law_reach", "_law_way", "_law_amounts", "_law_found", "_law_one", "_law_low", "_law_high", "_law_ends"]
theorem sc__law_bounds : FnScope N__law_bounds ["_law_mill_here", "_law_web_here", "_law_reach"] (defScope s__law_bounds) := ⟨rfl, rfl, rfl, by decide +kernel, rfl, by decide +kernel, by decide +kernel⟩
def BdsQ (m : Nat) (d : PyData) : Prop := ∃ Bs : List (Int × Int), d = bD Bs ∧ Bs.length = m ∧ ∀ p ∈ Bs, -12 ≤ p.1 ∧ p.1 ≤ p.2 ∧ p.2 ≤ 12 ∧ p.2 ≤ p.1 + 4
def sp_bounds (K : PySem.W.Frag) : Sp := fun vs H Q _ => ∃ (a : Addr) (v1 : V) (n : Nat) (A : List (Int × Int)), vs = [.ref a, v1, .int 2] ∧ Mok a H ∧ It K H v1 (wD n A) ∧ WebOk n A ∧ RetQ K a (BdsQ A.length) H Q
theorem cl__law_bounds (c__law_grind : Cl P w K mg base 1 "_law_grind" sp_grind) (c__law_some_flow : Cl P w K mg base 2 "_law_some_flow" (sp_some_flow K)) (B : GB mg) (DF : Df K mg "_law_bounds" s__law_bounds) : Cl P w K mg base 3 "_law_bounds" (sp_bounds K) := by
  obtain ⟨f, fd, F, g⟩ := DF.ex
  refine ⟨f, fd, ["_law_mill_here", "_law_web_here", "_law_reach"], F.ok sc__law_bounds (fun vs H Q E h => ?_) (fun cdv A outer s H vs Q E hr h => ?_), g, F.kp, F.binds fun _ _ _ _ _ _ us hl => match us, hl with | [_, _, _], _ => rfl⟩
  · obtain ⟨a, v1, n, A, rfl, _⟩ := h
    rfl
  · obtain ⟨a, v1, n, A, rfl, hm, h1, W, kQ⟩ := h
    have nd := sc__law_bounds.nd
    refine ⟨_, (pss_cons (ps_set (i := 3) nd rfl (.inl rfl) (pe_k c__law_grind hr (by decide) (by rfl) (pa_cons (pv 0) (pa_cons pe_int pa_nil))))
      (pss_cons (ps_set (i := 4) nd rfl (.inl rfl) (pe_ifExp (pt_cmpR op_gt (pv 3) pe_int (nomark _)) (pe_k c__law_some_flow hr (by decide) (by rfl) (pa_cons (pv 0) (pa_cons (pv 1) pa_nil))) (pe_lc (own := [("_law_ends", 9)]) (g := (gName 9)) rfl nd (pi_tup_K (K := K) (pe_ix (ix_K (K := K)) (pv 1) pe_int (fun _ _ => rfl))) (blkOk_by (own := [("_law_ends", 9)]) (N := N__law_bounds) (sc := defScope s__law_bounds) (by decide +kernel)) (fun _ _ _ _ _ => (pg_name (i := 9) nd rfl (.inl rfl))) (fun _ _ _ _ _ => pts_nil) (fun _ _ _ _ _ => (pe_op op_sub (pe_k c__law_grind hr (by decide) (by rfl) (pa_cons (pv 0) (pa_cons pe_int pa_nil))) pe_int)))))
      (pss_cons (ps_set (i := 5) nd rfl (.inl rfl) (pe_lst pa_nil))
      (pss_cons (ps_for PassesOwn.never rfl (pi_list_K (K := K) (pv 4)) (pg_name (i := 6) nd rfl (.inl rfl))
        (pss_cons (ps_set (i := 7) nd rfl (.inl rfl) (pe_k c__law_grind hr (by decide) (by rfl) (pa_cons (pv 0) (pa_cons (pe_op op_add (pv 2) pe_int) pa_nil))))
        (pss_cons (ps_set (i := 8) nd rfl (.inl rfl) (pe_k c__law_grind hr (by decide) (by rfl) (pa_cons (pv 0) (pa_cons (pe_op op_add (pv 2) pe_int) pa_nil))))
        (Evl.pss_cut (ps_if (PW.pt (pw_and (pt_cmpR (op_eq_K (K := K) hr.units) (pv 3) pe_int (nomark _)) (pw_and1 (pt_cmpR (op_eq_K (K := K) hr.units) (pe_k c__law_grind hr (by decide) (by rfl) (pa_cons (pv 0) (pa_cons pe_int pa_nil))) pe_int (nomark _))))) (pss_one (ps_set (i := 6) nd rfl (.inl rfl) (pe_op op_sub (pe_op op_add (pv 6) (pe_k c__law_grind hr (by decide) (by rfl) (pa_cons (pv 0) (pa_cons pe_int pa_nil)))) pe_int))) pss_nil)
        (pss_one (ps_expr (pe_bm PySem.F.plainAttrs_list PySem.F.slot_list_append PySem.F.type_list_append mt_append (pv 5) (pa_cons (pe_tup (pa_cons (pe_op op_sub (pv 6) (pv 7)) (pa_cons (pe_op op_add (pv 6) (pv 8)) pa_nil))) pa_nil))))))))
      (pss_one (ps_ret (pe_callTy (call_tuple_K (K := K)) (by rfl) B.tuple boot_tuple (pa_cons (pv 5) pa_nil)))))))), ?_⟩
    have hm1 := W.m1
    -- way
    refine q_asg (M := Mil a) (ei_grind (K := K) (n := 4) (ev_var (k := 0) rfl) ed_i hm (by decide) (by decide)) fun v3 H1 r1 hv3 => ?_
    obtain ⟨wy, rfl, wy1, wy2⟩ := hv3
    have hma := hm.mono r1
    -- amounts
    refine q_asg (M := Mil a) (P := fun v H2 => ∃ (p : Addr) (cs : List Int), v = .ref p ∧ H1 p = none ∧ H2 p = some (.lst (cs.map .int)) ∧ cs.length = A.length ∧ ∀ c ∈ cs, -9 ≤ c ∧ c ≤ 9) (ev_if (b := decide (0 < wy)) (et_test (ed_B0 (K := K) (g := fun i j => decide (j < i)) (ed_var (k := 3) rfl (.int wy)) ed_i)) (fun _ => ev_call (va_cons (ev_var (k := 0) (v := .ref a) rfl) stb_v (va_cons (ed_var (k := 1) rfl (h1.mono r1)) stb_d va_nil)) fun vs H2 r2 hvs Q k => ?_) fun _ => fun H2 r2 Q k => elp_lc (K := K) (src_tup (ed_ix (ed_var (k := 1) rfl ((h1.mono r1).mono r2)) ed_i rfl)) (mil_M (hma.mono r2)) (by rw [List.length_map]; omega) (fun _ => true) (fun _ d => ∃ i, d = .int i ∧ -9 ≤ i ∧ i ≤ 9) (fun i v H3 hi r3 hy => ?_) H2 (R.refl _) Q fun p xs ds H3 hp r3 hx hall got => ?_) fun v4 H2 r2 hv4 => ?_
    · obtain ⟨_, _, rfl, rfl, _, _, rfl, q1, rfl⟩ := hvs
      exact ⟨a, _, n, A, rfl, hma.mono r2, q1, W, fun p cs H3 hp r3 hx hl hb => k _ H3 r3 ⟨p, cs, rfl, r2.free hp, hx, hl, hb⟩⟩
    · refine ⟨_, bd_name, rfl, et_yes, fun _ => eq_i (ei_I0 (g := fun i j => i - j) (B := fun j => j = 3) (ei_grind (K := K) (n := 7) (ev_var (k := 0) rfl) ed_i ((hma.mono r2).mono r3) (by decide) (by decide)) (ei_d (K := K) ed_i rfl) fun i j h1 h2 => by subst h2; show -9 ≤ i - 3 ∧ i - 3 ≤ 9; omega)⟩
    · obtain ⟨gl, gm⟩ := got_mem (Q := fun d => ∃ i, d = .int i ∧ -9 ≤ i ∧ i ≤ 9) got fun _ _ z => z
      obtain ⟨cs, rfl, hcs⟩ := ints_of gm
      have exs := hall.ints
      subst exs
      rw [List.length_map, List.length_map] at gl
      exact k _ H3 r3 ⟨p, cs, rfl, r2.free hp, hx, gl, hcs⟩
    obtain ⟨p, cs, rfl, hp, hpx, hcl, hcb⟩ := hv4
    have pa : p ≠ a := fun z => hma.ne (z ▸ hp)
    have nmP : ∀ u, ¬ Mil a p u := fun u z => pa z.1
    have hm2 := hma.mono r2
    have r02 := r1.trans r2
    -- found
    refine q_asgL (K := K) (M := Non) (el_lst ea_nil (by decide)) fun l xs H3 hl r3 hx hall => ?_
    cases hall
    have hm3 := hm2.ex r3.ex
    have hla : l ≠ a := fun z => hm2.ne (z ▸ hl)
    have hlp : l ≠ p := fun z => by rw [z, hpx] at hl; cases hl
    have nm : ∀ u, ¬ Mil a l u := fun u z => hla z.1
    have hpx3 := r3.keep (fun z => z) hpx
    refine q_for (M := Non) (M' := Also (Mil a) l) (src_lv (K := K) (ds := cs.map .int) (ev_var (k := 4) rfl) (fun _ z => z) (.inl (.inl hpx3)) (nn hpx3) (ItAll.ofInts cs)) (fun b u' hb => ?_) fun H4 r4 => ?_
    · rcases hb with hb | rfl
      · exact ⟨by rw [hb.1]; exact hm3.ne, by rw [hb.1]; exact fun z => pa z.symm⟩
      · exact ⟨nn hx, hlp⟩
    let PO : PyData → Prop := fun e => ∃ p, e = pD p ∧ -12 ≤ p.1 ∧ p.1 ≤ p.2 ∧ p.2 ≤ 12 ∧ p.2 ≤ p.1 + 4
    refine ⟨fun i σ' H' => (∃ o6 o7 o8 o9, σ' = [some (.ref a), some v1, some (.int 2), some (.int wy), some (.ref p), some (.ref l), o6, o7, o8, o9]) ∧ Mok a H' ∧ ∃ xs ds, H' l = some (.lst xs) ∧ ItAll K H' xs ds ∧ ds.length = i ∧ ∀ e ∈ ds, PO e,
      ⟨⟨_, _, _, _, rfl⟩, hm3.ex r4.ex, [], [], r4.keep (fun z => z) hx, .nil, rfl, fun _ z => nomatch z⟩, fun i σ' H' hi r' hP v H5 e5 hy => ?_, fun σ' H' r' hP => ?_⟩
    · obtain ⟨⟨o6, o7, o8, o9, rfl⟩, hm', xs, ds, hx', hall', hlen, hmem⟩ := hP
      obtain ⟨c, hc, hv⟩ := yd_map hy
      obtain rfl := it_int hv
      obtain ⟨c1, c2⟩ := hcb c (List.mem_of_getElem? hc)
      rw [List.length_map] at hi
      have hm5 := hm'.ex e5
      have hx5 := e5 _ _ hx'
      have hall5 := hall'.mono (R.of (M := Mil a) e5)
      have lx := hall'.len
      show tSeq _ _ _ ([some (.ref a), some v1, some (.int 2), some (.int wy), some (.ref p), some (.ref l), some (.int c), o7, o8, o9] : L2.St) H5
      refine q_asg (M := Mil a) (ei_grind (K := K) (n := 2 + 1) (ev_var (k := 0) rfl) (ed_I0 (g := fun i j => i + j) (ed_var (k := 2) rfl (.int 2)) ed_i) hm5 (by decide) (by decide)) fun v7 H6 r6 hv7 => ?_
      obtain ⟨lo, rfl, lo1, lo2⟩ := hv7
      refine q_asg (M := Mil a) (ei_grind (K := K) (n := 2 + 1) (ev_var (k := 0) rfl) (ed_I0 (g := fun i j => i + j) (ed_var (k := 2) rfl (.int 2)) ed_i) (hm5.mono r6) (by decide) (by decide)) fun v8 H7 r7 hv8 => ?_
      obtain ⟨hi', rfl, hi1, hi2⟩ := hv8
      have r57 := r6.trans r7
      refine q_cut (Mid := fun σ' H' => ∃ c' : Int, σ' = [some (.ref a), some v1, some (.int 2), some (.int wy), some (.ref p), some (.ref l), some (.int c'), some (.int lo), some (.int hi'), o9] ∧ (-10 ≤ c' ∧ c' ≤ 10) ∧ R (Mil a) H5 H') ?_ fun σ1 G1 hM1 => ?_
      · refine s_whenN (M := Mil a) (en_and (b := decide (wy = 1)) (et_test (ed_eqI (K := K) (ed_var (k := 3) rfl (.int wy)) ed_i)) fun _ => en_eq (K := K) (ei_grind (K := K) (n := 4) (ev_var (k := 0) rfl) ed_i (hm5.mono r57) (by decide) (by decide))) (fun G r => ?_) fun G r => ⟨c, rfl, ⟨by omega, by omega⟩, r57.trans r⟩
        refine s_asg (M := Mil a) (ei_I0 (g := fun i j => i - j) (A := fun i => -9 ≤ i ∧ i ≤ 11) (B := fun j => j = 1) (C := fun i => -10 ≤ i ∧ i ≤ 10) (ei_I0 (g := fun i j => i + j) (A := fun i => i = c) (ei_d (K := K) (ed_var (k := 6) rfl (.int c)) rfl) (ei_grind (K := K) (n := 3) (ev_var (k := 0) rfl) ed_i ((hm5.mono r57).mono r) (by decide) (by decide)) fun i j h1 h2 => by subst h1; show -9 ≤ i + j ∧ i + j ≤ 11; omega) (ei_d (K := K) ed_i rfl) fun i j h1 h2 => by subst h2; show -10 ≤ i - 1 ∧ i - 1 ≤ 10; omega) fun v G2 r2' hv => ?_
        obtain ⟨c', rfl, hc'⟩ := hv
        exact ⟨c', rfl, hc', r57.trans (r.trans r2')⟩
      obtain ⟨c', rfl, ⟨d1, d2⟩, rr⟩ := hM1
      refine s_app (K := K) (M := Non) (P := fun v H => It K H v (pD (c' - lo, c' + hi'))) (rr.keep (nm _) hx5) (fun _ z => z) (ev_var (k := 5) rfl) (ed_tup (ea2 (ed_I0 (g := fun i j => i - j) (ed_var (k := 6) rfl (.int c')) (ed_var (k := 7) rfl (.int lo))) (ed_I0 (g := fun i j => i + j) (ed_var (k := 6) rfl (.int c')) (ed_var (k := 8) rfl (.int hi')))) (show 2 ≤ 100000 by decide)) (by omega) fun v G5 r5' hv5 h5 => ?_
      have rx : R (Mil a) H5 G5 := rr.trans r5'.non
      refine ⟨((r'.trans (R.of e5)).trans rx.also).chgA h5 mt_l mt_l, ⟨_, _, _, _, rfl⟩, ?_, _, ds ++ [pD (c' - lo, c' + hi')], upd_same, ItAll.app ((hall5.mono rx).updL h5) (.cons (hv5.updL h5) .nil), by rw [List.length_append, hlen]; rfl, fun e he => ?_⟩
      · obtain ⟨g, x, hg⟩ := hm5.mono rx
        exact ⟨g, x, by rw [upd_ne (fun z => hla z.symm)]; exact hg⟩
      · rcases List.mem_append.mp he with he | he
        · exact hmem e he
        · refine ⟨_, List.mem_singleton.mp he, ?_⟩
          dsimp only
          omega
    · obtain ⟨⟨o6, o7, o8, o9, rfl⟩, hm', xs, ds, hx', hall', hlen, hmem⟩ := hP
      rw [List.length_map] at hlen
      have rH : R (Mil a) H H' := r02.trans ((r3.trans r4).non.drop hl r')
      refine s_ret (M := Non) (P := fun v H => It K H v (.tuple ds)) (ed_tupV (ev_var (k := 5) rfl) (fun _ z => z) (.inl (.inl hx')) hall') fun v H5 r5 p => ?_
      obtain ⟨Bs, rfl, hBs⟩ := pairs_of hmem
      rw [List.length_map] at hlen
      exact kQ _ v H5 (rH.trans r5.non) p ⟨Bs, rfl, by omega, hBs⟩
end
end KP

/-! part KRt -/
set_option Elab.async false
set_option linter.all false
set_option maxRecDepth 100000
set_option maxHeartbeats 4000000
/-! t * n, n one or more. -/
namespace KP
open PySem PySem.Spec PyProof.Rows L2
/-- t * 1 is t itself -/
theorem mul_one {t : Addr} {its : Array Value} {n : Nat} {dd : Option Addr} {sl : Array (Option Value)} {u : Tok} :
    Meets (Builtin.«tuple.__mul__» ⟨[.ref t, .int 1 u], []⟩) fun _ R s => s.heap.get? t = some ⟨.type "tuple", dd, .seq its n, sl⟩ ∧ R (.ok (.ret (.ref t))) s :=
  .of_wp fun _ _ _ _ s ⟨at_, go⟩ => by
    cases s
    have ix := AutoSeq1.idx_int
    wp_walk using wpAny_loadPart' at_
    exact ⟨_, rfl, go⟩
def rRep1 (K : PySem.W.Frag) : R2 := fun x y H Q => ∃ l xs, x = .ref l ∧ y = .int 1 ∧ SqT K H l xs ∧ Q (.ref l) H
section
variable {X : Cx} {K : PySem.W.Frag}
theorem op_rep1 : OpR X (binaryOp .Mult) (rRep1 X.K) := by
  rintro pins s σ H _ _ v _ Q I rv ri ⟨t, xs, rfl, rfl, tup, q⟩
  obtain rfl : v = .ref t := rv
  obtain ⟨tk, rfl⟩ := ri
  obtain ⟨its, _, ⟨⟨_, dd, _, sl⟩, at_, rfl, n, rfl⟩, _⟩ := I.tuple tup
  have isT : s.TypeIs (.ref t) "tuple" := ⟨_, at_, rfl⟩
  have mul : wpAny (model X.prog X.w) X.A (call (.builtin "tuple.__mul__") [.ref t, .int 1 tk]) (EP X pins σ Q) X.xe s :=
    call_meets F.slot_tuple_mul isT F.entry_tuple_mul (F.args_tuple_mul_2 _ _) (mul_one (its := its.toArray) (n := n) (dd := dd) (sl := sl) (u := tk)) ⟨at_, .ref t, H, I, rfl, q⟩
  refine wpAny_binaryOp_repeat_ref (T := "tuple") (U := "int") (by decide) isT (fun _ => typeIs_int _ 1 tk) noFill_tuple_mul F.fills_int_mul F.slot_int_rmul repeat_tuple F.slot_int_index.lookup ?_
  exact call_meets F.slot_int_rmul (typeIs_int s 1 tk) F.entry_int_rmul (F.args_int_rmul_2 _ _) (int_rmul_tuple 1 tk t its.toArray n dd sl) ⟨at_, rfl, isT, mul⟩
abbrev rRepA (K : PySem.W.Frag) : R2 := fun x y H Q => rRepT K x y H Q ∨ rRep1 K x y H Q
theorem op_repA_K (h : X.K = K := by rfl) : OpR X (binaryOp .Mult) (rRepA K) := h ▸ (op_repT.or op_rep1)
theorem rep_flatA {i : Int} : ∀ n : Nat, (List.replicate n [V.int i]).flatten = (List.replicate n i).map V.int
  | 0 => rfl
  | n + 1 => by
    rw [List.replicate_succ, List.flatten_cons, rep_flatA n, List.replicate_succ, List.map_cons]
    rfl
/-- (d,) * n -/
theorem ed_repA {M : MM} {σ : L2.St} {H : Hp} {ta tb : TE} {i : Int} {n : Nat} (ha : ED K M ta σ H (.tuple [.int i])) (hb : ED K M tb σ H (.int (n : Nat))) (h0 : 1 ≤ n) (h1 : n ≤ 1000) : ED K M (tOp (rRepA K) ta tb) σ H (.tuple ((List.replicate n i).map .int)) :=
  ev_op ha stb_d hb fun x y H1 r p1 p2 Q q => by
    obtain ⟨a, xs, rfl, hs, hall⟩ := it_tup p1
    have e := ItAll.ints (ns := [i]) hall
    subst e
    obtain rfl := it_int p2
    by_cases c : n = 1
    · subst c
      exact .inr ⟨a, _, rfl, rfl, hs, q _ H1 (R.refl _) (.tup hs (ItAll.ofInts [i]))⟩
    · refine .inl ⟨a, (n : Nat), _, rfl, rfl, hs, (fun z => by cases z), by omega, by omega, by show 1 ≤ 1000; decide, fun p hp => q _ _ ((R.refl _).new hp) (.tup (.inl (.inl upd_same)) ?_)⟩
      have e : (List.replicate ((n : Int)).toNat [V.int i]).flatten = (List.replicate n i).map V.int := by
        rw [Int.toNat_natCast]
        exact rep_flatA n
      show ItAll K _ (List.replicate ((n : Int)).toNat ([i].map V.int)).flatten _
      rw [show ([i].map V.int) = [V.int i] from rfl, e]
      exact ItAll.ofInts _
end
end KP

/-! part KL9 -/
set_option Elab.async false
set_option linter.all false
set_option maxRecDepth 100000
set_option maxHeartbeats 4000000
/-! _law_all_within: the plain law. -/
namespace KP
open PySem PySem.Spec PyProof.Rows L2
theorem S_tail {f : Nat → Int} {k : Nat} : ∀ {m : Nat}, k ≤ m → (∀ j, k ≤ j → j < m → f j = 0) → KM.S m f = KM.S k f
  | 0, h, _ => by
    have : k = 0 := by omega
    subst this
    rfl
  | m + 1, h, z => by
    by_cases c : k = m + 1
    · subst c; rfl
    · show KM.S m f + f m = _
      rw [S_tail (m := m) (by omega) fun j h1 h2 => z j h1 (by omega), z m (by omega) (by omega)]
      omega
theorem fL_snoc {r : List Int} {a : Int} {j : Nat} : fL (r ++ [a]) j = if j = r.length then a else fL r j := by
  unfold fL
  rw [List.getD_eq_getElem?_getD, List.getD_eq_getElem?_getD]
  by_cases c : j = r.length
  · subst c
    rw [if_pos rfl, List.getElem?_append_right (Nat.le_refl _), Nat.sub_self]
    rfl
  · rw [if_neg c]
    by_cases d : j < r.length
    · rw [List.getElem?_append_left d]
    · rw [List.getElem?_eq_none (by rw [List.length_append]; show r.length + 1 ≤ j; omega), List.getElem?_eq_none (by omega)]
theorem fL_take {c : List Int} {k j : Nat} (h : j < k) : fL (c.take k) j = fL c j := by
  unfold fL
  rw [List.getD_eq_getElem?_getD, List.getD_eq_getElem?_getD, List.getElem?_take, if_pos h]
theorem fL_rep {n v : Nat} {a : Int} (h : v < n) : fL (List.replicate n a) v = a := by
  unfold fL
  rw [List.getD_eq_getElem?_getD, List.getElem?_eq_getElem (by rw [List.length_replicate]; exact h), List.getElem_replicate]
  rfl
/-- the last arrow at each place -/
structure LastI (n : Nat) (A : List (Int × Int)) (k : Nat) (ls : List Int) : Prop where
  len : ls.length = n
  up : ∀ v : Nat, v < n → ∀ j : Nat, j < k → (xW A j = v ∨ yW A j = v) → (j : Int) ≤ fL ls v
  at' : ∀ v : Nat, v < n → ∀ j : Nat, fL ls v = j → j < k ∧ (xW A j = v ∨ yW A j = v)
theorem LastI.zero {n : Nat} {A : List (Int × Int)} : LastI n A 0 (List.replicate n (-1)) := ⟨List.length_replicate, fun v _ j hj => by omega, fun v hv j e => by rw [fL_rep hv] at e; omega⟩
theorem LastI.step {n : Nat} {A : List (Int × Int)} {k X Y : Nat} {ls : List Int} (h : LastI n A k ls) (hx : xW A k = (X : Nat)) (hy : yW A k = (Y : Nat)) (hX : X < n) (hY : Y < n) : LastI n A (k + 1) ((ls.set X k).set Y k) := by
  have e : ∀ v : Nat, fL ((ls.set X (k : Int)).set Y (k : Int)) v = if v = Y then (k : Int) else if v = X then (k : Int) else fL ls v := fun v => by
    rw [fL_set (by rw [List.length_set, h.len]; exact hY), fL_set (by rw [h.len]; exact hX)]
  refine ⟨by rw [List.length_set, List.length_set, h.len], fun v hv j hj ht => ?_, fun v hv j ej => ?_⟩
  · rw [e]
    by_cases c1 : v = Y
    · rw [if_pos c1]; omega
    · rw [if_neg c1]
      by_cases c2 : v = X
      · rw [if_pos c2]; omega
      · rw [if_neg c2]
        by_cases c3 : j = k
        · subst c3
          rcases ht with ht | ht
          · exact absurd (by omega) c2
          · exact absurd (by omega) c1
        · exact h.up v hv j (by omega) ht
  · rw [e] at ej
    by_cases c1 : v = Y
    · rw [if_pos c1] at ej
      have : k = j := by omega
      subst this
      exact ⟨by omega, .inr (by rw [hy, c1])⟩
    · rw [if_neg c1] at ej
      by_cases c2 : v = X
      · rw [if_pos c2] at ej
        have : k = j := by omega
        subst this
        exact ⟨by omega, .inl (by rw [hx, c2])⟩
      · rw [if_neg c2] at ej
        obtain ⟨a, b⟩ := h.at' v hv j ej
        exact ⟨by omega, b⟩
structure Snd (n : Nat) (A Bs : List (Int × Int)) (ls : List Int) (k : Nat) (q : List Int × List Int) : Prop where
  l1 : q.1.length = k
  wi : ∀ j, j < k → xW Bs j ≤ fL q.1 j ∧ fL q.1 j ≤ yW Bs j
  l2 : q.2.length = n
  ex : ∀ v : Nat, v < n → fL q.2 v = KM.exc k (xW A) (yW A) (fL q.1) v
  zr : ∀ v : Nat, v < n → fL ls v < k → fL q.2 v = 0
def cand (X Y : Nat) (q : List Int × List Int) (a : Int) : List Int × List Int := (q.1 ++ [a], (q.2.set X (fL q.2 X + a)).set Y (fL (q.2.set X (fL q.2 X + a)) Y - a))
def keepB (ls : List Int) (k X Y : Nat) (e : List Int) : Bool := (decide ((k : Int) < fL ls X) || decide (fL e X = 0)) && (decide ((k : Int) < fL ls Y) || decide (fL e Y = 0))
section
variable {n k X Y : Nat} {A Bs : List (Int × Int)} {ls : List Int} {q : List Int × List Int} {a : Int}
theorem cand_at (l2 : q.2.length = n) (hX : X < n) (hY : Y < n) (v : Nat) : fL (cand X Y q a).2 v = fL q.2 v + (if v = X then a else 0) - (if v = Y then a else 0) := by
  show fL ((q.2.set X (fL q.2 X + a)).set Y (fL (q.2.set X (fL q.2 X + a)) Y - a)) v = _
  rw [fL_set (by rw [List.length_set, l2]; exact hY), fL_set (by rw [l2]; exact hX), fL_set (by rw [l2]; exact hX)]
  by_cases c1 : v = Y
  · rw [if_pos c1, if_pos c1]
    subst c1
    by_cases c2 : v = X
    · rw [if_pos c2, if_pos c2]; subst c2; omega
    · rw [if_neg c2, if_neg c2]; omega
  · rw [if_neg c1, if_neg c1]
    by_cases c2 : v = X
    · rw [if_pos c2, if_pos c2]; subst c2; omega
    · rw [if_neg c2, if_neg c2]; omega
theorem cand_ex (h : Snd n A Bs ls k q) (hx : xW A k = (X : Nat)) (hy : yW A k = (Y : Nat)) (hX : X < n) (hY : Y < n) {v : Nat} (hv : v < n) : fL (cand X Y q a).2 v = KM.exc (k + 1) (xW A) (yW A) (fL (q.1 ++ [a])) v := by
  rw [cand_at h.l2 hX hY, h.ex v hv]
  show _ = KM.S k (fun j => (if xW A j = v then fL (q.1 ++ [a]) j else 0) - (if yW A j = v then fL (q.1 ++ [a]) j else 0)) + ((if xW A k = v then fL (q.1 ++ [a]) k else 0) - (if yW A k = v then fL (q.1 ++ [a]) k else 0))
  rw [KM.S_congr (g := fun j => (if xW A j = v then fL q.1 j else 0) - (if yW A j = v then fL q.1 j else 0)) fun j hj => by
    have e : fL (q.1 ++ [a]) j = fL q.1 j := by
      rw [fL_snoc]
      exact if_neg (by rw [h.l1]; omega)
    rw [e]]
  have e : fL (q.1 ++ [a]) k = a := by
    rw [fL_snoc]
    exact if_pos h.l1.symm
  rw [e, hx, hy]
  show KM.S k (fun j => (if xW A j = v then fL q.1 j else 0) - (if yW A j = v then fL q.1 j else 0)) + _ - _ = _
  by_cases c1 : v = X <;> by_cases c2 : v = Y <;> simp [c1, c2] <;> omega
theorem Snd.step {m : Nat} (L : LastI n A m ls) (h : Snd n A Bs ls k q) (hk : k < m) (hx : xW A k = (X : Nat)) (hy : yW A k = (Y : Nat)) (hX : X < n) (hY : Y < n) (h1 : xW Bs k ≤ a) (h2 : a ≤ yW Bs k) (kb : keepB ls k X Y (cand X Y q a).2 = true) : Snd n A Bs ls (k + 1) (cand X Y q a) := by
  refine ⟨by show (q.1 ++ [a]).length = _; rw [List.length_append, h.l1]; rfl, fun j hj => ?_, by show (((q.2.set X _).set Y _)).length = _; rw [List.length_set, List.length_set, h.l2], fun v hv => cand_ex h hx hy hX hY hv, fun v hv hl => ?_⟩
  · show xW Bs j ≤ fL (q.1 ++ [a]) j ∧ fL (q.1 ++ [a]) j ≤ yW Bs j
    rw [fL_snoc, h.l1]
    by_cases c : j = k
    · subst c; rw [if_pos rfl]; exact ⟨h1, h2⟩
    · rw [if_neg c]; exact h.wi j (by omega)
  · unfold keepB at kb
    rw [Bool.and_eq_true, Bool.or_eq_true, Bool.or_eq_true] at kb
    simp only [decide_eq_true_eq] at kb
    by_cases c1 : v = X
    · subst c1
      rcases kb.1 with z | z
      · omega
      · exact z
    · by_cases c2 : v = Y
      · subst c2
        rcases kb.2 with z | z
        · omega
        · exact z
      · rw [cand_at h.l2 hX hY, if_neg c1, if_neg c2]
        have : fL q.2 v = 0 := h.zr v hv (by
          by_cases e : fL ls v = k
          · rcases (L.at' v hv k e).2 with z | z
            · rw [hx] at z; exact absurd (by omega) c1
            · rw [hy] at z; exact absurd (by omega) c2
          · omega)
        omega
end
def FlowIn (n : Nat) (A Bs : List (Int × Int)) (c : List Int) : Prop := c.length = A.length ∧ KM.Within A.length (xW Bs) (yW Bs) (fL c) ∧ KM.Flow n A.length (xW A) (yW A) (fL c)
theorem keep_of {n k X Y : Nat} {A Bs : List (Int × Int)} {ls c e : List Int} (L : LastI n A A.length ls) (hk : k < A.length) (h : Snd n A Bs ls k (c.take k, e)) (hx : xW A k = (X : Nat)) (hy : yW A k = (Y : Nat)) (hX : X < n) (hY : Y < n) (F : FlowIn n A Bs c) : keepB ls k X Y (cand X Y (c.take k, e) (fL c k)).2 = true := by
  have tk : c.take k ++ [fL c k] = c.take (k + 1) := by
    have hg : c[k]? = some (fL c k) := by
      unfold fL
      rw [List.getD_eq_getElem?_getD, List.getElem?_eq_getElem (by rw [F.1]; exact hk)]
      rfl
    rw [take_snoc hg]
  have z : ∀ v : Nat, v < n → ¬ (k : Int) < fL ls v → fL (cand X Y (c.take k, e) (fL c k)).2 v = 0 := fun v hv hl => by
    rw [cand_ex h hx hy hX hY hv]
    show KM.exc (k + 1) (xW A) (yW A) (fL (c.take k ++ [fL c k])) v = 0
    rw [tk]
    have f0 := F.2.2 v hv
    unfold KM.exc at f0 ⊢
    rw [KM.S_congr (g := fun j => (if xW A j = v then fL c j else 0) - (if yW A j = v then fL c j else 0)) fun j hj => by rw [fL_take hj]]
    rw [← S_tail (m := A.length) (by omega) fun j h1 h2 => ?_]
    · exact f0
    · have n1 : ¬ xW A j = v := fun z => by have := L.up v hv j h2 (.inl z); omega
      have n2 : ¬ yW A j = v := fun z => by have := L.up v hv j h2 (.inr z); omega
      rw [if_neg n1, if_neg n2]; rfl
  unfold keepB
  rw [Bool.and_eq_true, Bool.or_eq_true, Bool.or_eq_true]
  simp only [decide_eq_true_eq]
  refine ⟨?_, ?_⟩
  · by_cases c1 : (k : Int) < fL ls X
    · exact .inl c1
    · exact .inr (z X hX c1)
  · by_cases c1 : (k : Int) < fL ls Y
    · exact .inl c1
    · exact .inr (z Y hY c1)
/-- the rows of k amounts -/
structure RowsI (n : Nat) (A Bs : List (Int × Int)) (ls : List Int) (k : Nat) (rows : List (List Int × List Int)) : Prop where
  snd : ∀ q ∈ rows, Snd n A Bs ls k q
  cmp : ∀ c, FlowIn n A Bs c → ∃ e, (c.take k, e) ∈ rows
  len : rows.length ≤ 5 ^ k
theorem RowsI.zero {n : Nat} {A Bs : List (Int × Int)} {ls : List Int} : RowsI n A Bs ls 0 [([], List.replicate n 0)] := by
  refine ⟨fun q hq => ?_, fun c _ => ⟨List.replicate n 0, by rw [List.take_zero]; exact List.mem_singleton.mpr rfl⟩, Nat.le_refl _⟩
  rw [List.mem_singleton.mp hq]
  exact ⟨rfl, fun j hj => by omega, List.length_replicate, fun v hv => by show fL (List.replicate n 0) v = 0; rw [fL_rep hv], fun v hv _ => by show fL (List.replicate n 0) v = 0; rw [fL_rep hv]⟩
theorem RowsI.next {n k X Y : Nat} {A Bs : List (Int × Int)} {ls : List Int} {rows rows' : List (List Int × List Int)} (L : LastI n A A.length ls) (h : RowsI n A Bs ls k rows) (hk : k < A.length) (hx : xW A k = (X : Nat)) (hy : yW A k = (Y : Nat)) (hX : X < n) (hY : Y < n)
    (s : ∀ q ∈ rows', Snd n A Bs ls (k + 1) q) (c : ∀ q ∈ rows, ∀ a, xW Bs k ≤ a → a ≤ yW Bs k → keepB ls k X Y (cand X Y q a).2 = true → cand X Y q a ∈ rows') (l : rows'.length ≤ 5 * rows.length) : RowsI n A Bs ls (k + 1) rows' := by
  refine ⟨s, fun d hd => ?_, ?_⟩
  · obtain ⟨e, he⟩ := h.cmp d hd
    have := c _ he (fL d k) (hd.2.1 k hk).1 (hd.2.1 k hk).2 (keep_of L hk (h.snd _ he) hx hy hX hY hd)
    have tk : d.take k ++ [fL d k] = d.take (k + 1) := by
      have hg : d[k]? = some (fL d k) := by
        unfold fL
        rw [List.getD_eq_getElem?_getD, List.getElem?_eq_getElem (by rw [hd.1]; exact hk)]
        rfl
      rw [take_snoc hg]
    refine ⟨(cand X Y (d.take k, e) (fL d k)).2, ?_⟩
    rw [← tk]
    exact this
  · have := h.len
    rw [Nat.pow_succ]
    omega
structure AllW (n : Nat) (A Bs : List (Int × Int)) (rs : List (List Int)) : Prop where
  snd : ∀ r ∈ rs, FlowIn n A Bs r
  cmp : ∀ c, FlowIn n A Bs c → c ∈ rs
theorem RowsI.all {n : Nat} {A Bs : List (Int × Int)} {ls : List Int} {rows : List (List Int × List Int)} (L : LastI n A A.length ls) (h : RowsI n A Bs ls A.length rows) : AllW n A Bs (rows.map (·.1)) := by
  refine ⟨fun r hr => ?_, fun c hc => ?_⟩
  · obtain ⟨q, hq, rfl⟩ := List.mem_map.mp hr
    have s := h.snd q hq
    refine ⟨s.l1, s.wi, fun v hv => ?_⟩
    rw [← s.ex v hv]
    refine s.zr v hv ?_
    by_cases c : fL ls v < 0
    · omega
    · obtain ⟨j, e⟩ := Int.eq_ofNat_of_zero_le (show 0 ≤ fL ls v by omega)
      have := (L.at' v hv j e).1
      omega
  · obtain ⟨e, he⟩ := h.cmp c hc
    rw [List.take_of_length_le (by rw [hc.1]; exact Nat.le_refl _)] at he
    exact List.mem_map.mpr ⟨_, he, rfl⟩
end KP

/-! part KL10 -/
set_option Elab.async false
set_option linter.all false
set_option maxRecDepth 100000
set_option maxHeartbeats 4000000
/-! _law_all_within: the walk. -/
namespace KP
open PySem PySem.Spec PyProof.Rows L2
def rD (q : List Int × List Int) : PyData := .tuple [lD q.1, lD q.2]
theorem fL_get {c : List Int} {k : Nat} (h : k < c.length) : c[k]? = some (fL c k) := by
  unfold fL
  rw [List.getD_eq_getElem?_getD, List.getElem?_eq_getElem h]
  rfl
def endsTo (ls : List Int) (X Y k : Nat) : Nat → List Int
  | 0 => ls
  | 1 => ls.set X k
  | _ => (ls.set X k).set Y k
theorem endsTo_len {ls : List Int} {X Y k : Nat} : ∀ i, (endsTo ls X Y k i).length = ls.length
  | 0 => rfl
  | 1 => List.length_set
  | _ + 2 => by show ((ls.set X (k : Int)).set Y (k : Int)).length = _; rw [List.length_set, List.length_set]
theorem two_ends {ls : List Int} {X Y k i : Nat} {d : PyData} (h : ([.int (X : Nat), .int (Y : Nat)] : List PyData)[i]? = some d) : ∃ Z : Nat, d = .int (Z : Nat) ∧ (Z = X ∨ Z = Y) ∧ endsTo ls X Y k (i + 1) = (endsTo ls X Y k i).set Z k := by
  match i, h with
  | 0, h => exact ⟨X, (Option.some.inj h).symm, .inl rfl, rfl⟩
  | 1, h => exact ⟨Y, (Option.some.inj h).symm, .inr rfl, rfl⟩
  | i + 2, h => simp at h
section
variable {P : Program} {w : World} {K : PySem.W.Frag} {mg : Str → Option Value} {base : Heap}
-- _law_all_within: slots _law_web_here=0 _law_bounds_here=1 _law_last=2 _law_k=3 _law_end=4 _law_rows=5 _law_x=6 _law_y=7 _law_longer=8 _law_row_here=9 _law_excess_here=10 _law_amount=11 _law_here=12
abbrev s__law_all_within : Stmt := topS 46
abbrev N__law_all_within : List Str := ["_law_web_here", "_law_bounds_here", "_law_last", "_law_k", "_law_end", "_law_rows", "_law_x", "_law_y", "_law_longer", "_law_row_here", "_law_excess_here", "_law_amount", "_law_here"]
theorem sc__law_all_within : FnScope N__law_all_within ["_law_web_here", "_law_bounds_here"] (defScope s__law_all_within) := ⟨rfl, rfl, rfl, by decide +kernel, rfl, by decide +kernel, by decide +kernel⟩
def sp_all_within (K : PySem.W.Frag) : Sp := fun vs H Q _ => ∃ (v0 v1 : V) (n : Nat) (A Bs : List (Int × Int)), vs = [v0, v1] ∧ It K H v0 (wD n A) ∧ It K H v1 (bD Bs) ∧ WebOk n A ∧ A.length ≤ 5 ∧ Bs.length = A.length ∧ (∀ p ∈ Bs, -12 ≤ p.1 ∧ p.1 ≤ p.2 ∧ p.2 ≤ 12 ∧ p.2 ≤ p.1 + 4) ∧
  ∀ rs : List (List Int), AllW n A Bs rs → rs.length ≤ 3125 → RetLD K (rs.map lD) H Q
theorem cl__law_all_within (B : GB mg) (DF : Df K mg "_law_all_within" s__law_all_within) : Cl P w K mg base 1 "_law_all_within" (sp_all_within K) := by
  obtain ⟨f, fd, F, g⟩ := DF.ex
  refine ⟨f, fd, ["_law_web_here", "_law_bounds_here"], F.ok sc__law_all_within (fun vs H Q E h => ?_) (fun cdv A outer s H vs Q E hr h => ?_), g, F.kp, F.binds fun _ _ _ _ _ _ us hl => match us, hl with | [_, _], _ => rfl⟩
  · obtain ⟨v0, v1, n, A, Bs, rfl, _⟩ := h
    rfl
  · obtain ⟨v0, v1, n, A, Bs, rfl, h0, h1, W, m5, lB, bB, kQ⟩ := h
    have nd := sc__law_all_within.nd
    refine ⟨_, (pss_cons (ps_set (i := 2) nd rfl (.inl rfl) (pe_op op_rep (pe_lst (pa_cons (pe_un un_neg pe_int) pa_nil)) (pe_ix (ix_K (K := K)) (pv 0) pe_int (fun _ _ => rfl))))
      (pss_cons (ps_for PassesOwn.never rfl (pi_range1 (by rfl) B.range (pa_cons (pe_callB (call_len_K (K := K)) (by rfl) B.len boot_len (pa_cons (pe_ix (ix_K (K := K)) (pv 0) pe_int (fun _ _ => rfl)) pa_nil)) pa_nil)) (pg_name (i := 3) nd rfl (.inl rfl))
        (pss_one (ps_for PassesOwn.never rfl (pi_tup_K (K := K) (pe_ix (ix_K (K := K)) (pe_ix (ix_K (K := K)) (pv 0) pe_int (fun _ _ => rfl)) (pv 3) (fun _ _ => rfl))) (pg_name (i := 4) nd rfl (.inl rfl))
          (pss_one (ps_asg (pv 3) (pg_sub (pv 2) (pv 4) set_list))))))
      (pss_cons (ps_set (i := 5) nd rfl (.inl rfl) (pe_lst (pa_cons (pe_tup (pa_cons (pe_tup pa_nil) (pa_cons (pe_op (op_repA_K (K := K)) (pe_tup (pa_cons pe_int pa_nil)) (pe_ix (ix_K (K := K)) (pv 0) pe_int (fun _ _ => rfl))) pa_nil))) pa_nil)))
      (pss_cons (ps_for PassesOwn.never rfl (pi_range1 (by rfl) B.range (pa_cons (pe_callB (call_len_K (K := K)) (by rfl) B.len boot_len (pa_cons (pe_ix (ix_K (K := K)) (pv 0) pe_int (fun _ _ => rfl)) pa_nil)) pa_nil)) (pg_name (i := 3) nd rfl (.inl rfl))
        (pss_cons (ps_asg (pe_ix (ix_K (K := K)) (pe_ix (ix_K (K := K)) (pv 0) pe_int (fun _ _ => rfl)) (pv 3) (fun _ _ => rfl)) (pg_tup_K (K := K) (n := 2) rfl (pgs_cons (pg_name (i := 6) nd rfl (.inl rfl)) (pgs_cons (pg_name (i := 7) nd rfl (.inl rfl)) pgs_nil))))
        (pss_cons (ps_set (i := 8) nd rfl (.inl rfl) (pe_lst pa_nil))
        (pss_cons (ps_for PassesOwn.never rfl (pi_list_K (K := K) (pv 5)) (pg_tup_K (K := K) (n := 2) rfl (pgs_cons (pg_name (i := 9) nd rfl (.inl rfl)) (pgs_cons (pg_name (i := 10) nd rfl (.inl rfl)) pgs_nil)))
          (pss_one (ps_for PassesOwn.never rfl (pi_range2 (by rfl) B.range (pa_cons (pe_ix (ix_K (K := K)) (pe_ix (ix_K (K := K)) (pv 1) (pv 3) (fun _ _ => rfl)) pe_int (fun _ _ => rfl)) (pa_cons (pe_op op_add (pe_ix (ix_K (K := K)) (pe_ix (ix_K (K := K)) (pv 1) (pv 3) (fun _ _ => rfl)) pe_int (fun _ _ => rfl)) pe_int) pa_nil))) (pg_name (i := 11) nd rfl (.inl rfl))
            (pss_cons (ps_set (i := 12) nd rfl (.inl rfl) (pe_callTy (call_list_K (K := K)) (by rfl) B.list boot_list (pa_cons (pv 10) pa_nil)))
            (pss_cons (ps_asg (pe_op op_add (pe_ix (ix_K (K := K)) (pv 12) (pv 6) (fun _ _ => rfl)) (pv 11)) (pg_sub (pv 12) (pv 6) set_list))
            (pss_cons (ps_asg (pe_op op_sub (pe_ix (ix_K (K := K)) (pv 12) (pv 7) (fun _ _ => rfl)) (pv 11)) (pg_sub (pv 12) (pv 7) set_list))
            (pss_one (ps_if (PW.pt (pw_and (PW.pt (pw_or (pt_cmpR op_gt (pe_ix (ix_K (K := K)) (pv 2) (pv 6) (fun _ _ => rfl)) (pv 3) (nomark _)) (pw_or1 (pt_cmpR (op_eq_K (K := K) hr.units) (pe_ix (ix_K (K := K)) (pv 12) (pv 6) (fun _ _ => rfl)) pe_int (nomark _))))) (pw_and1 (PW.pt (pw_or (pt_cmpR op_gt (pe_ix (ix_K (K := K)) (pv 2) (pv 7) (fun _ _ => rfl)) (pv 3) (nomark _)) (pw_or1 (pt_cmpR (op_eq_K (K := K) hr.units) (pe_ix (ix_K (K := K)) (pv 12) (pv 7) (fun _ _ => rfl)) pe_int (nomark _)))))))) (pss_one (ps_expr (pe_bm PySem.F.plainAttrs_list PySem.F.slot_list_append PySem.F.type_list_append mt_append (pv 8) (pa_cons (pe_tup (pa_cons (pe_op (op_cat_K (K := K)) (pv 9) (pe_tup (pa_cons (pv 11) pa_nil))) (pa_cons (pe_callTy (call_tuple_K (K := K)) (by rfl) B.tuple boot_tuple (pa_cons (pv 12) pa_nil)) pa_nil))) pa_nil)))) pss_nil))))))))
        (pss_one (ps_set (i := 5) nd rfl (.inl rfl) (pv 8)))))))
      (pss_one (ps_ret (pe_lc (own := [("_law_row_here", 9), ("_law_excess_here", 10)]) (g := (gTup K 2 (gCons (gName 9) (gCons (gName 10) gNil)))) rfl nd (pi_list_K (K := K) (pv 5)) (blkOk_by (own := [("_law_row_here", 9), ("_law_excess_here", 10)]) (N := N__law_all_within) (sc := defScope s__law_all_within) (by decide +kernel)) (fun _ _ _ _ _ => (pg_tup_K (K := K) (n := 2) rfl (pgs_cons (pg_name (i := 9) nd rfl (.inl rfl)) (pgs_cons (pg_name (i := 10) nd rfl (.inl rfl)) pgs_nil)))) (fun _ _ _ _ _ => pts_nil) (fun _ _ _ _ _ => (pv 9))))))))), ?_⟩
    have hn0 := W.n0
    have hn1 := W.n1
    have eL : ∀ {H' : Hp} {σ' : L2.St}, R Non H H' → σ'[0]? = some (some v0) → EA K Non (tCons (tCB (rLen K) (tCons (tOp (rIx K) (tVar 0) (tC (.int 1))) tNil)) tNil) σ' H' [.int (A.length : Nat)] := fun r e => ea1 (ed_is (ed_lenT (ed_ix (ed_var e (h0.mono r)) ed_i rfl)) (by rw [List.length_map]))
    -- last
    refine q_asgL (K := K) (M := Non) (el_rep (d := .int (-1)) (n := n) (el_lst (ea1 (ed_U (g := fun i => -i) ed_i)) (by decide)) (ed_ix (ed_var (k := 0) rfl h0) ed_i rfl) (by omega)) fun ll xs H1 hll r1 hx hall => ?_
    have exs := ItAll.ints (ns := List.replicate n (-1)) (by rw [List.map_replicate]; exact hall)
    subst exs
    refine q_for (M := Non) (M' := Also Non ll) (src_rng1 (K := K) (n := (A.length : Nat)) (eL r1 rfl) (by omega) (by omega)) (fun b u' hb => ?_) fun H2 r2 => ?_
    · rcases hb with hb | rfl
      · exact hb.elim
      · exact ⟨nn hx, fun z => z⟩
    have r02 := r1.trans r2
    refine ⟨fun k σ' H' => (∃ o3 o4, σ' = [some v0, some v1, some (.ref ll), o3, o4, none, none, none, none, none, none, none, none]) ∧ ∃ ls : List Int, H' ll = some (.lst (ls.map .int)) ∧ LastI n A k ls, ⟨⟨_, _, rfl⟩, _, r2.keep (fun z => z) hx, LastI.zero⟩, fun k σ' H' hk r' hP v H3 e3 hy => ?_, fun σ' H' r' hP => ?_⟩
    · rw [Int.toNat_natCast] at hk
      obtain ⟨⟨o3, o4, rfl⟩, ls, hls, hL⟩ := hP
      subst hy
      have hAk : A[k]? = some A[k] := List.getElem?_eq_getElem hk
      obtain ⟨X, Y, hX, hY, hXY⟩ := W.at hAk
      have xk : xW A k = (X : Nat) := by rw [xW_at hAk, hXY]
      have yk : yW A k = (Y : Nat) := by rw [yW_at hAk, hXY]
      have r23 : R (Also Non ll) H2 H3 := r'.trans (R.of e3)
      have hls3 := e3 _ _ hls
      show tFor _ _ _ _ ([some v0, some v1, some (.ref ll), some (.int (k : Nat)), o4, none, none, none, none, none, none, none, none] : L2.St) H3
      refine s_for (M := Non) (M' := Also Non ll) (src_tup (K := K) (ds := [.int (X : Nat), .int (Y : Nat)]) (ed_is (ed_ix (ed_ix (ed_var (k := 0) rfl ((h0.mono r02).mono r23)) ed_i rfl) (ed_var (k := 3) rfl (.int (k : Nat))) (atI_nat (map_get hAk))) (by rw [hXY]; rfl))) (fun b u' hb => ?_) fun H4 r4 => ?_
      · rcases hb with hb | rfl
        · exact hb.elim
        · exact ⟨nn hls3, fun z => z⟩
      refine ⟨fun i σ' H' => (∃ o4, σ' = [some v0, some v1, some (.ref ll), some (.int (k : Nat)), o4, none, none, none, none, none, none, none, none]) ∧ H' ll = some (.lst ((endsTo ls X Y k i).map .int)), ⟨⟨_, rfl⟩, r4.keep (fun z => z) hls3⟩, fun i σ' G hi rG hP v G2 e hy => ?_, fun σ' G rG hP => ?_⟩
      · obtain ⟨⟨o4, rfl⟩, hG⟩ := hP
        obtain ⟨d, hd, hv⟩ := hy
        obtain ⟨Z, rfl, hZ, hE⟩ := two_ends (ls := ls) (k := k) hd
        obtain rfl := it_int hv
        have hZn : Z < n := by rcases hZ with rfl | rfl <;> omega
        show tAsg _ _ _ ([some v0, some v1, some (.ref ll), some (.int (k : Nat)), some (.int (Z : Nat)), none, none, none, none, none, none, none, none] : L2.St) G2
        refine s_setL (K := K) (M := Non) (k := Z) (P := fun v _ => v = .int (k : Nat)) (e _ _ hG) (fun _ z => z) (ev_var (k := 3) rfl) stb_v (ev_var (k := 2) rfl) (ed_var (K := K) (k := 4) rfl (.int (Z : Nat))) (by rw [List.length_map, endsTo_len, hL.len]; exact hZn) fun v G3 r3 ev h3 => ?_
        subst ev
        exact ⟨((rG.trans (R.of e)).trans r3.non).chgA h3 mt_l mt_l, ⟨_, rfl⟩, by rw [upd_same, hE, List.map_set]⟩
      · obtain ⟨⟨o4, rfl⟩, hG⟩ := hP
        exact ⟨r23.trans (r4.non.trans rG), ⟨_, _, rfl⟩, _, hG, hL.step xk yk hX hY⟩
    rw [Int.toNat_natCast] at hP
    obtain ⟨⟨o3, o4, rfl⟩, ls, hls, hL⟩ := hP
    have r0' : R Non H H' := r02.drop hll r'
    -- rows
    refine q_asgL (K := K) (M := Non) (ds := [rD ([], List.replicate n 0)]) (el_lst (ea1 (ed_tup (ea2 (ed_tup (ds := []) ea_nil (by decide)) (ed_repA (n := n) (ed_tup (ea1 ed_i) (by decide)) (ed_ix (ed_var (k := 0) rfl (h0.mono r0')) ed_i rfl) hn0 (by omega))) (show 2 ≤ 100000 by decide))) (show 1 ≤ 100000 by decide)) fun p0 xs0 H3 hp0 r3 hx0 hall0 => ?_
    have hls3 := r3.keep (fun z => z) hls
    have r03 := r0'.trans r3
    refine q_for (M := Non) (M' := Non) (src_rng1 (K := K) (n := (A.length : Nat)) (eL r03 rfl) (by omega) (by omega)) (fun b u' hb => hb.elim) fun H4 r4 => ?_
    refine ⟨fun k σ' G => ∃ (p : Addr) (xs : List V) (rows : List (List Int × List Int)), (∃ o3 o4 o6 o7 o8 o9 o10 o11 o12, σ' = [some v0, some v1, some (.ref ll), o3, o4, some (.ref p), o6, o7, o8, o9, o10, o11, o12]) ∧ G p = some (.lst xs) ∧ ItAll K G xs (rows.map rD) ∧ RowsI n A Bs ls k rows,
      ⟨p0, xs0, [([], List.replicate n 0)], ⟨_, _, _, _, _, _, _, _, _, rfl⟩, r4.keep (fun z => z) hx0, hall0.mono r4, RowsI.zero⟩, fun k σ' G hk rG hP v G1 e1 hy => ?_, fun σ' G rG hP => ?_⟩
    · rw [Int.toNat_natCast] at hk
      obtain ⟨p, xs, rows, ⟨o3, o4, o6, o7, o8, o9, o10, o11, o12, rfl⟩, hp, hpall, hR⟩ := hP
      subst hy
      have r4G : R Non H4 G1 := rG.trans (R.of e1)
      have r0G : R Non H G1 := (r03.trans r4).trans r4G
      have hlsG := (r4.trans r4G).keep (fun z => z) hls3
      have hpG := e1 _ _ hp
      have hpallG := hpall.mono (R.of (M := Non) e1)
      have hAk : A[k]? = some A[k] := List.getElem?_eq_getElem hk
      have hBk : Bs[k]? = some (Bs[k]'(by omega)) := List.getElem?_eq_getElem (by omega)
      obtain ⟨X, Y, hX, hY, hXY⟩ := W.at hAk
      have xk : xW A k = (X : Nat) := by rw [xW_at hAk, hXY]
      have yk : yW A k = (Y : Nat) := by rw [yW_at hAk, hXY]
      have xb := xW_at hBk
      have yb := yW_at hBk
      obtain ⟨b1, b2, b3, b4⟩ := bB _ (List.mem_of_getElem? hBk)
      rw [← xb, ← yb] at b2 b4
      rw [← xb] at b1
      rw [← yb] at b3
      have p5 : 5 ^ k ≤ 625 := by
        have : 5 ^ k ≤ 5 ^ 4 := Nat.pow_le_pow_right (by decide) (by omega)
        exact this
      have rl := hR.len
      show tSeq _ _ _ ([some v0, some v1, some (.ref ll), some (.int (k : Nat)), o4, some (.ref p), o6, o7, o8, o9, o10, o11, o12] : L2.St) G1
      refine q_asgT (K := K) (M := Non) (d := pD ((X : Nat), (Y : Nat))) (ed_is (ed_ix (ed_ix (ed_var (k := 0) rfl (h0.mono r0G)) ed_i rfl) (ed_var (k := 3) rfl (.int (k : Nat))) (atI_nat (map_get hAk))) (by rw [hXY])) fun v6 G2 r2' hv6 => ?_
      obtain ⟨w1, w2, g1, g2, bd⟩ := un2 (i := 6) (j := 7) (σ := [some v0, some v1, some (.ref ll), some (.int (k : Nat)), o4, some (.ref p), o6, o7, o8, o9, o10, o11, o12]) hv6
      obtain rfl := it_int g1
      obtain rfl := it_int g2
      refine bd _ ?_
      show tSeq _ _ _ ([some v0, some v1, some (.ref ll), some (.int (k : Nat)), o4, some (.ref p), some (.int (X : Nat)), some (.int (Y : Nat)), o8, o9, o10, o11, o12] : L2.St) G2
      -- longer
      refine q_asgL (K := K) (M := Non) (el_lst ea_nil (by decide)) fun lp ys G3 hlp r3' hxl hyall => ?_
      cases hyall
      have r13 := r2'.trans r3'
      have hp3 := r13.keep (fun z => z) hpG
      have hls3' := r13.keep (fun z => z) hlsG
      have lpp : lp ≠ p := fun z => by rw [z, r2'.keep (fun z => z) hpG] at hlp; cases hlp
      have lpl : lp ≠ ll := fun z => by rw [z, r2'.keep (fun z => z) hlsG] at hlp; cases hlp
      have nml : ∀ u, ¬ Also Non lp ll u := fun u z => z.elim (fun z => z) fun z => lpl z.symm
      have r03' := r0G.trans r13
      refine q_for (M := Non) (M' := Also Non lp) (src_lv (K := K) (ds := rows.map rD) (ev_var (k := 5) rfl) (fun _ z => z) (.inl (.inl hp3)) (nn hp3) (hpallG.mono r13)) (fun b u' hb => ?_) fun G4 r4' => ?_
      · rcases hb with hb | rfl
        · exact hb.elim
        · exact ⟨nn hxl, lpp⟩
      let good : Nat → List (List Int × List Int) → Prop := fun i Lg => (∀ q ∈ Lg, Snd n A Bs ls (k + 1) q) ∧ ∀ q ∈ rows.take i, ∀ a, xW Bs k ≤ a → a ≤ yW Bs k → keepB ls k X Y (cand X Y q a).2 = true → cand X Y q a ∈ Lg
      refine ⟨fun i σ' F => (∃ o9 o10 o11 o12, σ' = [some v0, some v1, some (.ref ll), some (.int (k : Nat)), o4, some (.ref p), some (.int (X : Nat)), some (.int (Y : Nat)), some (.ref lp), o9, o10, o11, o12]) ∧ ∃ (ys : List V) (Lg : List (List Int × List Int)), F lp = some (.lst ys) ∧ ItAll K F ys (Lg.map rD) ∧ good i Lg ∧ Lg.length ≤ 5 * i,
        ⟨⟨_, _, _, _, rfl⟩, [], [], r4'.keep (fun z => z) hxl, .nil, ⟨(fun _ z => nomatch z), (fun q hq => by rw [List.take_zero] at hq; cases hq)⟩, Nat.zero_le _⟩, fun i σ' F hi rF hP v F1 f1 hy => ?_, fun σ' F rF hP => ?_⟩
      · rw [List.length_map] at hi
        obtain ⟨⟨o9, o10, o11, o12, rfl⟩, ys, Lg, hys, hyall, ⟨gs, gc⟩, gl⟩ := hP
        obtain ⟨q, hq, hv⟩ := yd_map hy
        have hqm := hR.snd q (List.mem_of_getElem? hq)
        obtain ⟨w1, w2, g1, g2, bd⟩ := un2 (i := 9) (j := 10) (σ := [some v0, some v1, some (.ref ll), some (.int (k : Nat)), o4, some (.ref p), some (.int (X : Nat)), some (.int (Y : Nat)), some (.ref lp), o9, o10, o11, o12]) hv
        refine bd _ ?_
        have rF1 : R (Also Non lp) G4 F1 := rF.trans (R.of f1)
        have h1F := ((h1.mono r03').mono r4').mono rF1
        have hysF := f1 _ _ hys
        have hyallF := hyall.mono (R.of (M := Non) f1)
        have hlsF : F1 ll = some (.lst (ls.map .int)) := rF1.keep (nml _) (r4'.keep (fun z => z) hls3')
        show tFor _ _ _ _ ([some v0, some v1, some (.ref ll), some (.int (k : Nat)), o4, some (.ref p), some (.int (X : Nat)), some (.int (Y : Nat)), some (.ref lp), some w1, some w2, o11, o12] : L2.St) F1
        have eB0 : ED K Non (tOp (rIx K) (tOp (rIx K) (tVar 1) (tVar 3)) (tC (.int 0))) [some v0, some v1, some (.ref ll), some (.int (k : Nat)), o4, some (.ref p), some (.int (X : Nat)), some (.int (Y : Nat)), some (.ref lp), some w1, some w2, o11, o12] F1 (.int (xW Bs k)) := by
          rw [xb]
          exact ed_ix (ed_ix (ed_var (k := 1) rfl h1F) (ed_var (k := 3) rfl (.int (k : Nat))) (atI_nat (map_get hBk))) ed_i rfl
        have eB1 : ED K Non (tOp (rIx K) (tOp (rIx K) (tVar 1) (tVar 3)) (tC (.int 1))) [some v0, some v1, some (.ref ll), some (.int (k : Nat)), o4, some (.ref p), some (.int (X : Nat)), some (.int (Y : Nat)), some (.ref lp), some w1, some w2, o11, o12] F1 (.int (yW Bs k)) := by
          rw [yb]
          exact ed_ix (ed_ix (ed_var (k := 1) rfl h1F) (ed_var (k := 3) rfl (.int (k : Nat))) (atI_nat (map_get hBk))) ed_i rfl
        refine s_for (M := Non) (M' := Also Non lp) (src_rng2 (K := K) (lo := xW Bs k) (n := yW Bs k + 1) (ea2 eB0 (ed_I0 (g := fun i j => i + j) eB1 ed_i)) (by omega) (by omega)) (fun b u' hb => ?_) fun F2 r2'' => ?_
        · rcases hb with hb | rfl
          · exact hb.elim
          · exact ⟨nn hysF, fun z => z⟩
        have wle : (yW Bs k + 1 - xW Bs k).toNat ≤ 5 := by omega
        refine ⟨fun t σ' E => (∃ o11 o12, σ' = [some v0, some v1, some (.ref ll), some (.int (k : Nat)), o4, some (.ref p), some (.int (X : Nat)), some (.int (Y : Nat)), some (.ref lp), some w1, some w2, o11, o12]) ∧ ∃ (ys : List V) (Lg : List (List Int × List Int)), E lp = some (.lst ys) ∧ ItAll K E ys (Lg.map rD) ∧ good i Lg ∧ Lg.length ≤ 5 * i + t ∧ ∀ t' : Nat, t' < t → keepB ls k X Y (cand X Y q (xW Bs k + (t' : Nat))).2 = true → cand X Y q (xW Bs k + (t' : Nat)) ∈ Lg,
          ⟨⟨_, _, rfl⟩, ys, Lg, r2''.keep (fun z => z) hysF, hyallF.mono r2'', ⟨gs, gc⟩, gl, fun t' ht => by omega⟩, fun t σ' E ht rE hP v E1 e1' hy => ?_, fun σ' E rE hP => ?_⟩
        · obtain ⟨⟨o11, o12, rfl⟩, ys, Lg, hys, hyall, ⟨gs, gc⟩, gl, gt⟩ := hP
          subst hy
          have rE1 : R (Also Non lp) F2 E1 := rE.trans (R.of e1')
          have hysE := e1' _ _ hys
          have hyallE := hyall.mono (R.of (M := Non) e1')
          have ylen := hyall.len
          rw [List.length_map] at ylen
          have g1E := (g1.mono r2'').mono rE1
          have g2E := (g2.mono r2'').mono rE1
          have hlsE : E1 ll = some (.lst (ls.map .int)) := rE1.keep (nml _) (r2''.keep (fun z => z) hlsF)
          obtain ⟨a, ha⟩ : ∃ a, a = xW Bs k + ((t : Nat) : Int) := ⟨_, rfl⟩
          rw [← ha]
          have a1 : xW Bs k ≤ a := by omega
          have a2 : a ≤ yW Bs k := by omega
          show tSeq _ _ _ ([some v0, some v1, some (.ref ll), some (.int (k : Nat)), o4, some (.ref p), some (.int (X : Nat)), some (.int (Y : Nat)), some (.ref lp), some w1, some w2, some (.int a), o12] : L2.St) E1
          -- here
          refine q_asgL (K := K) (M := Non) (ds := q.2.map .int) (el_listT (ed_var (k := 10) rfl g2E)) fun lh zs E2 hlh re2 hzx hzall => ?_
          have ezs := hzall.ints
          subst ezs
          have hys2 := re2.keep (fun z => z) hysE
          have lhp : lh ≠ lp := fun z => by rw [z, hysE] at hlh; cases hlh
          have lhl : lh ≠ ll := fun z => by rw [z, hlsE] at hlh; cases hlh
          have hql := hqm.l2
          show tSeq _ _ _ ([some v0, some v1, some (.ref ll), some (.int (k : Nat)), o4, some (.ref p), some (.int (X : Nat)), some (.int (Y : Nat)), some (.ref lp), some w1, some w2, some (.int a), some (.ref lh)] : L2.St) E2
          refine q_setL (K := K) (M := Non) (k := X) (P := fun v _ => v = .int (fL q.2 X + a)) hzx (fun _ z => z) ((ed_I0 (K := K) (g := fun i j => i + j) (ed_li (ev_var (k := 12) rfl) (fun _ z => z) hzx (ed_var (k := 6) rfl (.int (X : Nat))) (fL_get (by omega))) (ed_var (k := 11) rfl (.int a))).imp fun v H2 _ p => it_int p) stb_v (ev_var (k := 12) rfl) (ed_var (K := K) (k := 6) rfl (.int (X : Nat))) (by rw [List.length_map]; omega) fun v E3 re3 ev h3 => ?_
          subst ev
          have rx3 : R (Also Non lh) E2 (upd E3 lh (.lst ((q.2.map V.int).set X (.int (fL q.2 X + a))))) := re3.non.chgA h3 mt_l mt_l
          have hh3 : (upd E3 lh (.lst ((q.2.map V.int).set X (.int (fL q.2 X + a))))) lh = some (.lst ((q.2.set X (fL q.2 X + a)).map .int)) := by rw [upd_same, List.map_set]
          generalize (upd E3 lh (.lst ((q.2.map V.int).set X (.int (fL q.2 X + a))))) = E4 at rx3 hh3 ⊢
          refine q_setL (K := K) (M := Non) (k := Y) (P := fun v _ => v = .int (fL (q.2.set X (fL q.2 X + a)) Y - a)) hh3 (fun _ z => z) ((ed_I0 (K := K) (g := fun i j => i - j) (ed_li (ev_var (k := 12) rfl) (fun _ z => z) hh3 (ed_var (k := 7) rfl (.int (Y : Nat))) (fL_get (by rw [List.length_set]; omega))) (ed_var (k := 11) rfl (.int a))).imp fun v H2 _ p => it_int p) stb_v (ev_var (k := 12) rfl) (ed_var (K := K) (k := 7) rfl (.int (Y : Nat))) (by rw [List.length_map, List.length_set]; omega) fun v E5 re5 ev h5 => ?_
          subst ev
          have rx5 : R (Also Non lh) E2 (upd E5 lh (.lst (((q.2.set X (fL q.2 X + a)).map V.int).set Y (.int (fL (q.2.set X (fL q.2 X + a)) Y - a))))) := (rx3.trans re5.non).chgA h5 mt_l mt_l
          have hh5 : (upd E5 lh (.lst (((q.2.set X (fL q.2 X + a)).map V.int).set Y (.int (fL (q.2.set X (fL q.2 X + a)) Y - a))))) lh = some (.lst ((cand X Y q a).2.map .int)) := by rw [upd_same, ← List.map_set]; rfl
          generalize (upd E5 lh (.lst (((q.2.set X (fL q.2 X + a)).map V.int).set Y (.int (fL (q.2.set X (fL q.2 X + a)) Y - a))))) = E6 at rx5 hh5 ⊢
          have rE6 : R Non E1 E6 := re2.drop hlh rx5
          have cl : (cand X Y q a).2.length = n := by
            show ((q.2.set X _).set Y _).length = n
            rw [List.length_set, List.length_set, hql]
          have hls6 := rE6.keep (fun z => z) hlsE
          have hys6 := rE6.keep (fun z => z) hysE
          refine s_when (M := Non) (b := keepB ls k X Y (cand X Y q a).2) (et_and (et_or (et_test (ed_B0 (K := K) (g := fun i j => decide (j < i)) (ed_li (ev_var (k := 2) rfl) (fun _ z => z) hls6 (ed_var (k := 6) rfl (.int (X : Nat))) (fL_get (by rw [hL.len]; exact hX))) (ed_var (k := 3) rfl (.int (k : Nat))))) fun _ => et_test (ed_eqI (K := K) (ed_li (ev_var (k := 12) rfl) (fun _ z => z) hh5 (ed_var (k := 6) rfl (.int (X : Nat))) (fL_get (by omega))) ed_i)) fun _ =>
            et_or (et_test (ed_B0 (K := K) (g := fun i j => decide (j < i)) (ed_li (ev_var (k := 2) rfl) (fun _ z => z) hls6 (ed_var (k := 7) rfl (.int (Y : Nat))) (fL_get (by rw [hL.len]; exact hY))) (ed_var (k := 3) rfl (.int (k : Nat))))) fun _ => et_test (ed_eqI (K := K) (ed_li (ev_var (k := 12) rfl) (fun _ z => z) hh5 (ed_var (k := 7) rfl (.int (Y : Nat))) (fL_get (by omega))) ed_i)) (fun hb E7 re7 => ?_) fun hb E7 re7 => ?_
          · have r17 := rE6.trans re7
            refine s_app (K := K) (M := Non) (P := fun v H => It K H v (rD (cand X Y q a))) (r17.keep (fun z => z) hysE) (fun _ z => z) (ev_var (k := 8) rfl) (ed_tup (ea2 (ed_is (ed_cat (ds := q.1.map .int) (es := [.int a]) (ed_var (k := 9) rfl (g1E.mono r17)) (ed_tup (ea1 (ed_var (k := 11) rfl (.int a))) (show 1 ≤ 100000 by decide)) (by rw [List.length_map, hqm.l1]; show k + 1 ≤ 100000; omega)) (show _ = lD (q.1 ++ [a]) by unfold lD; rw [List.map_append]; rfl)) (ed_tupV (ev_var (k := 12) rfl) (fun _ z => z) (.inl (.inl (re7.keep (fun z => z) hh5))) (ItAll.ofInts _))) (show 2 ≤ 100000 by decide)) (by omega) fun v E8 re8 hv8 h8 => ?_
            have r18 := r17.trans re8
            refine ⟨(rE1.trans r18.non).chgA h8 mt_l mt_l, ⟨_, _, rfl⟩, _, Lg ++ [cand X Y q a], upd_same, ?_, ⟨fun q' hq' => ?_, fun q' hq' a' h1 h2 h3 => List.mem_append_left _ (gc q' hq' a' h1 h2 h3)⟩, by rw [List.length_append]; show Lg.length + 1 ≤ _; omega, fun t' ht' h => ?_⟩
            · rw [List.map_append]
              exact ItAll.app ((hyallE.mono r18).updL h8) (.cons (hv8.updL h8) .nil)
            · rcases List.mem_append.mp hq' with hq' | hq'
              · exact gs q' hq'
              · rw [List.mem_singleton.mp hq']
                exact hqm.step hL hk xk yk hX hY a1 a2 hb
            · by_cases c : t' = t
              · subst c
                rw [← ha]
                exact List.mem_append_right _ (List.mem_singleton.mpr rfl)
              · exact List.mem_append_left _ (gt t' (by omega) h)
          · have r17 := rE6.trans re7
            refine ⟨rE1.trans r17.non, ⟨_, _, rfl⟩, ys, Lg, r17.keep (fun z => z) hysE, hyallE.mono r17, ⟨gs, gc⟩, by omega, fun t' ht' h => ?_⟩
            by_cases c : t' = t
            · subst c
              rw [← ha, hb] at h
              cases h
            · exact gt t' (by omega) h
        · obtain ⟨⟨o11, o12, rfl⟩, ys, Lg, hys, hyall, ⟨gs, gc⟩, gl, gt⟩ := hP
          refine ⟨rF1.trans (r2''.non.trans rE), ⟨_, _, _, _, rfl⟩, ys, Lg, hys, hyall, ⟨gs, fun q' hq' a h1 h2 h3 => ?_⟩, by omega⟩
          rw [take_snoc hq] at hq'
          rcases List.mem_append.mp hq' with hq' | hq'
          · exact gc q' hq' a h1 h2 h3
          · rw [List.mem_singleton.mp hq'] at h3 ⊢
            obtain ⟨t', ht'⟩ := Int.eq_ofNat_of_zero_le (show 0 ≤ a - xW Bs k by omega)
            have ea : a = xW Bs k + ((t' : Nat) : Int) := by omega
            rw [ea] at h3 ⊢
            exact gt t' (by omega) h3
      · obtain ⟨⟨o9, o10, o11, o12, rfl⟩, ys, Lg, hys, hyall, ⟨gs, gc⟩, gl⟩ := hP
        rw [List.length_map] at gc gl
        rw [List.take_length] at gc
        refine s_asg (M := Non) (ev_var (k := 8) (v := .ref lp) rfl) fun v F2 rf2 ev => ?_
        subst ev
        have rT : R Non G1 F2 := r2'.trans (((r3'.trans r4').drop hlp rF).trans rf2)
        exact ⟨r4G.trans rT, lp, ys, Lg, ⟨_, _, _, _, _, _, _, _, _, rfl⟩, rf2.keep (fun z => z) hys, hyall.mono rf2, hR.next hL hk xk yk hX hY gs gc gl⟩
    · rw [Int.toNat_natCast] at hP
      obtain ⟨p, xs, rows, ⟨o3, o4, o6, o7, o8, o9, o10, o11, o12, rfl⟩, hp, hpall, hR⟩ := hP
      have p5 : 5 ^ A.length ≤ 3125 := by
        have : 5 ^ A.length ≤ 5 ^ 5 := Nat.pow_le_pow_right (by decide) m5
        exact this
      have rl := hR.len
      refine s_retL (K := K) (M := Non) (ds := (rows.map (·.1)).map lD) ((elp_lc (K := K) (src_lv (K := K) (ds := rows.map rD) (ev_var (k := 5) rfl) (fun _ z => z) (.inl (.inl hp)) (nn hp) hpall) non_E (by rw [List.length_map]; omega) (fun _ => true) (fun i d => ∃ q, rows[i]? = some q ∧ d = lD q.1) fun i v G2 hi r hy => ?_).el fun es he => ?_) fun p2 xs2 G2 hp2 r2' hx2 hall2 => ?_
      · obtain ⟨q, hq, hv⟩ := yd_map hy
        obtain ⟨w1, w2, g1, g2, bd⟩ := un2 (i := 9) (j := 10) (σ := wipe [some v0, some v1, some (.ref ll), o3, o4, some (.ref p), o6, o7, o8, o9, o10, o11, o12] [9, 10]) hv
        exact ⟨_, bd, rfl, et_yes, fun _ => ev_dd (ed_var rfl g1) ⟨q, hq, rfl⟩⟩
      · obtain ⟨e1, e2⟩ := he.all
        rw [List.length_map] at e1
        refine List.ext_getElem? fun i => ?_
        by_cases c : i < rows.length
        · obtain ⟨q, hq, hd⟩ := e2 i _ (List.getElem?_eq_getElem (by omega))
          rw [List.getElem?_eq_getElem (by omega), hd, List.getElem?_map, List.getElem?_map, hq]
          rfl
        · rw [List.getElem?_eq_none (by omega), List.getElem?_eq_none (by simp; omega)]
      · have rr : R Non H G2 := ((r03.trans r4).trans rG).trans r2'
        refine kQ _ (hR.all hL) (by rw [List.length_map]; omega) p2 xs2 G2 (((r03.trans r4).trans rG).free hp2) rr.ex hx2 hall2
end
end KP

/-! part KL11 -/
set_option Elab.async false
set_option linter.all false
set_option maxRecDepth 100000
set_option maxHeartbeats 4000000
/-! law. -/
namespace KP
open PySem PySem.Spec PyProof.Rows L2 PySem.NWX
/-! ### the plain law of the last part -/
theorem consec : ∀ (l : List Int) (a b : Int), (a :: l).Pairwise (· < ·) → b ∈ a :: l → (∀ v ∈ a :: l, v ≤ b) → (∀ v, a ≤ v → v ≤ b → v ∈ a :: l) → a :: l = (List.range (b + 1 - a).toNat).map fun i => a + ((i : Nat) : Int)
  | [], a, b, _, hb, _, _ => by
    rw [List.mem_singleton.mp hb, show (a + 1 - a).toNat = 1 by omega]
    show [a] = [a + ((0 : Nat) : Int)]
    rw [show a + ((0 : Nat) : Int) = a by omega]
  | c :: l, a, b, hp, hb, hle, hall => by
    obtain ⟨h1, h2⟩ := List.pairwise_cons.mp hp
    have hac := h1 c List.mem_cons_self
    have hcb := hle c (List.mem_cons_of_mem _ List.mem_cons_self)
    have hc : c = a + 1 := by
      rcases List.mem_cons.mp (hall (a + 1) (by omega) (by omega)) with e | e
      · omega
      · rcases List.mem_cons.mp e with e | e
        · exact e.symm
        · have := (List.pairwise_cons.mp h2).1 _ e
          omega
    subst hc
    have ih := consec l (a + 1) b h2 (by
      rcases List.mem_cons.mp hb with e | e
      · omega
      · exact e) (fun v hv => hle v (List.mem_cons_of_mem _ hv)) fun v hv1 hv2 => by
      rcases List.mem_cons.mp (hall v (by omega) hv2) with e | e
      · omega
      · exact e
    rw [ih, show (b + 1 - a).toNat = (b + 1 - (a + 1)).toNat + 1 by omega, List.range_succ_eq_map, List.map_cons, List.map_map]
    congr 1
    · omega
    · refine List.map_congr_left fun i _ => ?_
      show a + 1 + ((i : Nat) : Int) = a + ((i + 1 : Nat) : Int)
      omega
section
variable {n k : Nat} {A Bs : List (Int × Int)} {rs : List (List Int)} {v : Int}
theorem hi_max (W : WebOk n A) (hk : k < A.length) (g : GoodV n A Bs k 1 v) {f : Nat → Int} (hw : KM.Within A.length (xW Bs) (yW Bs) f) (hf : KM.Flow n A.length (xW A) (yW A) f) : f k ≤ v := by
  obtain ⟨T, hT⟩ := g.hi rfl
  rcases hT with e | ⟨t1, t2, e⟩
  · rw [e]; exact (hw k hk).2
  · rw [e]; exact KM.weakHi W.Ends hw hf hk t1 t2
theorem lo_min (W : WebOk n A) (hk : k < A.length) (g : GoodV n A Bs k (-1) v) {f : Nat → Int} (hw : KM.Within A.length (xW Bs) (yW Bs) f) (hf : KM.Flow n A.length (xW A) (yW A) f) : v ≤ f k := by
  obtain ⟨T, hT⟩ := g.lo rfl
  rcases hT with e | ⟨t1, t2, e⟩
  · rw [e]; exact (hw k hk).1
  · rw [e]; exact KM.weakLo W.Ends hw hf hk t1 t2
/-- a flow as a list -/
theorem flow_list {f : Nat → Int} (W : WebOk n A) (hw : KM.Within A.length (xW Bs) (yW Bs) f) (hf : KM.Flow n A.length (xW A) (yW A) f) : FlowIn n A Bs ((List.range A.length).map f) ∧ ∀ j, j < A.length → fL ((List.range A.length).map f) j = f j := by
  have e : ∀ j, j < A.length → fL ((List.range A.length).map f) j = f j := fun j hj => fL_at (rng_get hj)
  refine ⟨⟨by rw [List.length_map, List.length_range], fun j hj => by rw [e j hj]; exact hw j hj, fun v hv => ?_⟩, e⟩
  have := hf v hv
  unfold KM.exc at this ⊢
  rw [KM.S_congr (g := fun j => (if xW A j = v then f j else 0) - (if yW A j = v then f j else 0)) fun j hj => by rw [e j hj]]
  exact this
/-- what the arrow may be: all from the least to the greatest -/
theorem some_all (W : WebOk n A) (hk : k < A.length) (hA : AllW n A Bs rs) {ms : List Int} (hs : ms.Pairwise (· < ·)) (hm : ∀ z, z ∈ ms ↔ z ∈ rs.map fun r => fL r k) (hne : rs ≠ []) :
    ∃ (a b : Int) (l ini : List Int), ms = a :: l ∧ ms = ini ++ [b] ∧ ms = ((List.range (b + 1 - a).toNat).map fun i => a + ((i : Nat) : Int)) ∧ (xW Bs k ≤ a ∧ b ≤ yW Bs k ∧ a ≤ b) ∧ (∀ v, GoodV n A Bs k (-1) v → v = a) ∧ ∀ v, GoodV n A Bs k 1 v → v = b := by
  obtain ⟨r0, hr0⟩ := List.exists_mem_of_ne_nil _ hne
  have hne2 : ms ≠ [] := fun z => by
    have := (hm (fL r0 k)).mpr (List.mem_map.mpr ⟨r0, hr0, rfl⟩)
    rw [z] at this; cases this
  obtain ⟨ini, b, hb⟩ : ∃ ini b, ms = ini ++ [b] := ⟨ms.dropLast, ms.getLast hne2, (List.dropLast_concat_getLast hne2).symm⟩
  cases hms : ms with
  | nil => exact absurd hms hne2
  | cons a l =>
    rw [← hms]
    have flow : ∀ z, z ∈ ms → ∃ r, FlowIn n A Bs r ∧ fL r k = z := fun z hz => by
      obtain ⟨r, hr, e⟩ := List.mem_map.mp ((hm z).mp hz)
      exact ⟨r, hA.snd r hr, e⟩
    have mem : ∀ {f : Nat → Int}, KM.Within A.length (xW Bs) (yW Bs) f → KM.Flow n A.length (xW A) (yW A) f → f k ∈ ms := fun {f} hw hf => by
      obtain ⟨h1, h2⟩ := flow_list W hw hf
      exact (hm _).mpr (List.mem_map.mpr ⟨_, hA.cmp _ h1, h2 k hk⟩)
    have hbm : b ∈ ms := by rw [hb]; exact List.mem_append_right _ (List.mem_singleton.mpr rfl)
    have ham : a ∈ ms := by rw [hms]; exact List.mem_cons_self
    have ha : ∀ z ∈ ms, a ≤ z := fun z hz => by
      rw [hms] at hz hs
      rcases List.mem_cons.mp hz with e | e
      · omega
      · have := (List.pairwise_cons.mp hs).1 z e; omega
    have hbb : ∀ z ∈ ms, z ≤ b := fun z hz => by
      rw [hb] at hz hs
      rcases List.mem_append.mp hz with e | e
      · have := (List.pairwise_append.mp hs).2.2 z e b (List.mem_singleton.mpr rfl); omega
      · rw [List.mem_singleton.mp e]; exact Int.le_refl _
    obtain ⟨fa, Fa, ea⟩ := flow a ham
    obtain ⟨fb, Fb, eb⟩ := flow b hbm
    refine ⟨a, b, l, ini, hms, hb, ?_, ⟨?_, ?_, ha b hbm⟩, fun v g => ?_, fun v g => ?_⟩
    · have := consec l a b (hms ▸ hs) (hms ▸ hbm) (hms ▸ hbb) (fun v h1 h2 => by
        obtain ⟨f, hw, hf, e⟩ := KM.between W.Ends hk Fa.2.1 Fa.2.2 Fb.2.1 Fb.2.2 (v := v) (by rw [ea]; exact h1) (by rw [eb]; exact h2)
        have := mem hw hf
        rw [e, hms] at this
        exact this)
      rw [hms]
      exact this
    · rw [← ea]; exact (Fa.2.1 k hk).1
    · rw [← eb]; exact (Fb.2.1 k hk).2
    · have h1 := lo_min W hk g Fa.2.1 Fa.2.2
      obtain ⟨f, hw, hf, e⟩ := g.ex
      have h2 := ha _ (mem hw hf)
      omega
    · have h1 := hi_max W hk g Fb.2.1 Fb.2.2
      obtain ⟨f, hw, hf, e⟩ := g.ex
      have h2 := hbb _ (mem hw hf)
      omega
end
section
variable {K : PySem.W.Frag} {M : MM} {σ : L2.St} {H H' : Hp} {ta tb te tx tl : TE} {t u : TT} {v x y z : V} {d e : PyData} {P P1 P2 P3 : V → Hp → Prop} {ds es : List PyData} {i j : Int}
theorem ev_ifN (h : EvN M t σ H) (h1 : Ev M ta σ H P) (h2 : Ev M tb σ H P) : Ev M (tIf t ta tb) σ H P := fun H1 r Q q => h H1 r _ fun b H2 r2 => by
  cases b with
  | true => exact h1 H2 (r.trans r2) Q fun v H3 r3 => q v H3 (r2.trans r3)
  | false => exact h2 H2 (r.trans r2) Q fun v H3 r3 => q v H3 (r2.trans r3)
theorem ev_callS {sp : Sp} {E : L2.St → XK} {ta : TA} {PL : List V → Hp → Prop} (h : EvA M ta σ H PL) (hs : ∀ vs H1, R M H H1 → PL vs H1 → ∀ Q : VK, (∀ v H2, R M H1 H2 → P v H2 → Q v H2) → sp vs H1 Q (E σ)) : Ev M (tCallS sp E ta) σ H P := fun H1 r1 Q q =>
  h H1 r1 _ fun vs H2 r2 p => hs vs H2 (r1.trans r2) p Q fun v H3 r3 pv => q v H3 (r2.trans r3) pv
theorem ev_srtSet {ns : List Int} {lo : Int} (h : EL K Non te σ H (ns.map .int)) (hl : ns.length ≤ 4000) (hw : ∀ x ∈ ns, lo ≤ x ∧ x < lo + 60) : Ev Non (tSrtSet K te) σ H (fun v H2 => ∃ (p : Addr) (ms : List Int), v = .ref p ∧ H2 p = some (.lst (ms.map V.int)) ∧ ms.Pairwise (· < ·) ∧ ∀ k : Int, k ∈ ms ↔ k ∈ ns) := fun H1 r Q q =>
  h H1 r _ fun p xs H2 hp r2 hx hall => by
    have e := hall.ints
    subst e
    exact ⟨p, ns, lo, rfl, .inl (.inl hx), hl, hw, fun ms p2 hs hm hp2 => q _ _ (r2.new hp2) ⟨p2, ms, rfl, upd_same, hs, hm⟩⟩
theorem el_lstRg (ha : ED K Non ta σ H (.int i)) (hb : ED K Non tb σ H (.int j)) (hr : RgOk i j) : EL K Non (tLstRg (tRg2 ta tb)) σ H ((((List.range (j - i).toNat).map fun t => i + ((t : Nat) : Int))).map .int) := fun H1 r Q q =>
  ha H1 r _ fun x H2 r2 p1 => hb H2 (r.trans r2) _ fun y H3 r3 p2 => ⟨i, j, it_int p1, it_int p2, hr, fun a ha => q a _ _ (r2.free (r3.free ha)) ((r2.trans r3).new ha) upd_same (by
    have e : rgV i j = ((List.range (j - i).toNat).map fun t => i + ((t : Nat) : Int)).map V.int := by
      unfold rgV
      rw [List.map_map]
      rfl
    rw [e]
    exact ItAll.ofInts _)⟩
theorem ev_right {a : Addr} {n : Nat} {A Bs : List (Int × Int)} {E : XK} (ha : EV (Mil a) ta σ H (.ref a)) (hb : ED K (Mil a) tb σ H (wD n A)) (hc : ED K (Mil a) tx σ H (bD Bs)) (hm : Mok a H) (W : WebOk n A) (BO : BdsOk A Bs) : ED K (Mil a) (tCall (sp_right K) [] E (tCons ta (tCons tb (tCons tx tNil)))) σ H (.bool true) :=
  ev_call (va_cons ha stb_v (va_cons hb stb_d (va_cons hc stb_d va_nil))) fun vs H1 r hvs Q k => by
    obtain ⟨_, _, rfl, rfl, _, _, rfl, q1, _, _, rfl, q2, rfl⟩ := hvs
    exact ⟨a, _, _, n, A, Bs, rfl, hm.mono r, q1, q2, W, BO, fun H2 r2 => k _ H2 r2 (.bl true)⟩
theorem ev_small {a : Addr} {p q : Nat} {E : XK} (ha : EV (Mil a) ta σ H (.ref a)) (hm : Mok a H) : EQ K (Mil a) (tCall (sp_small K p q) [] E (tCons ta tNil)) σ H (WebQ p q) :=
  ev_call (va_cons ha stb_v va_nil) fun vs H1 r hvs Q k => by
    obtain ⟨_, _, rfl, rfl, rfl⟩ := hvs
    exact ⟨a, rfl, hm.mono r, fun d v H2 r2 hv hq => k v H2 r2 ⟨d, hv, hq⟩⟩
theorem ev_bounds {a : Addr} {n : Nat} {A : List (Int × Int)} {E : XK} (ha : EV (Mil a) ta σ H (.ref a)) (hb : ED K (Mil a) tb σ H (wD n A)) (hm : Mok a H) (W : WebOk n A) : EQ K (Mil a) (tCall (sp_bounds K) [] E (tCons ta (tCons tb (tCons (tC (.int 2)) tNil)))) σ H (BdsQ A.length) :=
  ev_call (va_cons ha stb_v (va_cons hb stb_d (va_cons (ev_c (v := .int 2)) stb_v va_nil))) fun vs H1 r hvs Q k => by
    obtain ⟨_, _, rfl, rfl, _, _, rfl, q1, _, _, rfl, rfl, rfl⟩ := hvs
    exact ⟨a, _, n, A, rfl, hm.mono r, q1, W, fun d v H2 r2 hv hq => k v H2 r2 ⟨d, hv, hq⟩⟩
end
end KP

/-! part KL12 -/
set_option Elab.async false
set_option linter.all false
set_option maxRecDepth 100000
set_option maxHeartbeats 4000000
/-! law: the walk. -/
namespace KP
open PySem PySem.Spec PyProof.Rows L2 PySem.NWX
section
variable {P : Program} {w : World} {K : PySem.W.Frag} {mg : Str → Option Value} {base : Heap} {C : Addr}
theorem pe_kX0 {X : Cx} {k j : Nat} {x : Str} {ps : List Str} {sp : Sp} {p pos : Pos} {e : Expr} {es : List Expr} {t : TA} (c : ClX X.prog X.w X.K X.mg X.base k x ps sp) (hr : Room j X.A) (hk : k ≤ j) (hg : Gl X x) (ha : PA X (e :: es) t)
    (pl : Plainly X x e es pos := by exact ⟨by decide, by rfl, by rfl⟩) : PE X (.Call (.Name x p) (e :: es) [] pos) (tCallS sp (fun _ => E0) t) :=
  let ⟨_, _, F, m, kp, b, _⟩ := c.ex
  pe_callS F (hr.mono hk) hg m kp b (fun _ _ _ _ _ _ _ ⟨_, _, _, _, _, _, _, _, _, _, _, _, no⟩ => no.elim) ha pl.name pl.each pl.rest
-- law: slots _law_script=0 _law_mill_here=1c _law_web_here=2 _law_times=3c _law_bounds_here=4 _law_rows=5 _law_arrow=6c _law_some=7 _law_low=8 _law_high=9 _law_pair=10 _law_row_here=11
abbrev s_law : Stmt := topS 53
abbrev N_law : List Str := ["_law_script", "_law_mill_here", "_law_web_here", "_law_times", "_law_bounds_here", "_law_rows", "_law_arrow", "_law_some", "_law_low", "_law_high", "_law_pair", "_law_row_here"]
theorem sc_law : FnScope N_law ["_law_script"] (defScope s_law) := ⟨rfl, rfl, rfl, by decide +kernel, rfl, by decide +kernel, by decide +kernel⟩
def sp_law (K : PySem.W.Frag) : Sp := fun vs H Q _ => ∃ (a : Addr) (ns : List Int) (n : Nat), vs = [.ref a] ∧ SqL K H a (ns.map .int) ∧ ns.length ≤ 63 ∧ n ≤ 1048576 ∧ (∀ c ∈ ns, c.natAbs < 2 ^ n) ∧ ∀ H2, Q (.bl true) H2
theorem fg_law {f : Addr} {fd : FuncData} (F : Fun K "law" "law" s_law f fd) (c__law_mill : Cl P w K mg base 1 "_law_mill" (sp_mill K)) (c__law_grind : Cl P w K mg base 1 "_law_grind" sp_grind) (c__law_web : Cl P w K mg base 3 "_law_web" (sp_web K)) (c__law_small : Cl P w K mg base 4 "_law_small" (sp_small K 4 5)) (c__law_great : Cl P w K mg base 4 "_law_great" (sp_small K 10 15))
    (c__law_bounds : Cl P w K mg base 3 "_law_bounds" (sp_bounds K)) (c__law_right : ClG P w K mg base 7 "_law_right" (sp_right K)) (c__law_all_within : Cl P w K mg base 1 "_law_all_within" (sp_all_within K)) (c_value_bounds : ClX P w K mg base 5 "value_bounds" ["web", "bounds", "arrow"] (sp_value_bounds K C)) (B : GB mg) :
    FnG P w K mg base CX0 8 f fd ["_law_script"] (sp_law K) := by
  refine okG0 F sc_law (fun vs H Q E h => ?_) (fun cdv A outer s H vs Q E hr hgd h => ?_)
  · obtain ⟨a, ns, n, rfl, _⟩ := h
    rfl
  · obtain ⟨sa, ns, nb, rfl, hs, hl, hn, hc, kQ⟩ := h
    have nd := sc_law.nd
    refine ⟨_, (pss_cons (ps_set (i := 1) nd rfl (.inr rfl) (pe_k c__law_mill hr (by decide) (by rfl) (pa_cons (pv 0) pa_nil)))
      (pss_cons (ps_set (i := 2) nd rfl (.inl rfl) (pe_k c__law_web hr (by decide) (by rfl) (pa_cons (pv 1) (pa_cons pe_int (pa_cons pe_int pa_nil)))))
      (Evl.pss_cut (ps_if (pt_cmpR (op_eq_K (K := K) hr.units) (pe_k c__law_grind hr (by decide) (by rfl) (pa_cons (pv 1) (pa_cons pe_int pa_nil))) pe_int (nomark _)) (pss_one (ps_set (i := 2) nd rfl (.inl rfl) (pe_k c__law_great hr (by decide) (by rfl) (pa_cons (pv 1) pa_nil)))) pss_nil)
      (pss_cons (ps_set (i := 3) nd rfl (.inr rfl) (pe_ix (ix_K (K := K)) (pe_lst (pa_cons pe_int (pa_cons pe_int (pa_cons pe_int (pa_cons pe_int pa_nil))))) (pe_k c__law_grind hr (by decide) (by rfl) (pa_cons (pv 1) (pa_cons pe_int pa_nil))) (fun _ _ => rfl)))
      (pss_cons (ps_set (i := 4) nd rfl (.inl rfl) (pe_callTy (call_tuple_K (K := K)) (by rfl) B.tuple boot_tuple (pa_cons (pe_lc (own := [("_law_low", 8), ("_law_high", 9)]) (g := (gTup K 2 (gCons (gName 8) (gCons (gName 9) gNil)))) rfl nd (pi_tup_K (K := K) (pe_k c__law_bounds hr (by decide) (by rfl) (pa_cons (pv 1) (pa_cons (pv 2) (pa_cons pe_int pa_nil))))) (blkOk_by (own := [("_law_low", 8), ("_law_high", 9)]) (N := N_law) (sc := defScope s_law) (by decide +kernel)) (fun _ _ _ _ _ => (pg_tup_K (K := K) (n := 2) rfl (pgs_cons (pg_name (i := 8) nd rfl (.inl rfl)) (pgs_cons (pg_name (i := 9) nd rfl (.inl rfl)) pgs_nil)))) (fun _ _ _ _ _ => pts_nil) (fun _ _ _ _ _ => (pe_tup (pa_cons (pe_op op_mul (pv 8) (pv 3)) (pa_cons (pe_op op_add (pe_op op_mul (pv 9) (pv 3)) (pe_k c__law_grind hr (by decide) (by rfl) (pa_cons (pv 1) (pa_cons pe_int pa_nil)))) pa_nil))))) pa_nil)))
      (Evl.pss_cut (ps_if (pt_cmpR (op_eq_K (K := K) hr.units) (pe_k c__law_grind hr (by decide) (by rfl) (pa_cons (pv 1) (pa_cons pe_int pa_nil))) pe_int (nomark _)) (pss_one (ps_set (i := 4) nd rfl (.inl rfl) (pe_callTy (call_tuple_K (K := K)) (by rfl) B.tuple boot_tuple (pa_cons (pe_lc (own := [("_law_pair", 10)]) (g := (gName 10)) rfl nd (pi_tup_K (K := K) (pv 4)) (blkOk_by (own := [("_law_pair", 10)]) (N := N_law) (sc := defScope s_law) (by decide +kernel)) (fun _ _ _ _ _ => (pg_name (i := 10) nd rfl (.inl rfl))) (fun _ _ _ _ _ => pts_nil) (fun _ _ _ _ _ => (pe_ifExp (pt_cmpR (op_eq_K (K := K) hr.units) (pe_k c__law_grind hr (by decide) (by rfl) (pa_cons (pv 1) (pa_cons pe_int pa_nil))) pe_int (nomark _)) (pe_tup (pa_cons (pe_un un_neg pe_int) (pa_cons pe_int pa_nil))) (pv 10)))) pa_nil)))) pss_nil)
      (pss_cons (ps_if (pt_not (pt_val (pe_kG c__law_right hgd hr (by decide) (by rfl) (pa_cons (pv 1) (pa_cons (pv 2) (pa_cons (pv 4) pa_nil)))))) (pss_one (ps_ret pe_bl)) pss_nil)
      (pss_cons (ps_set (i := 2) nd rfl (.inl rfl) (pe_k c__law_small hr (by decide) (by rfl) (pa_cons (pv 1) pa_nil)))
      (pss_cons (ps_set (i := 4) nd rfl (.inl rfl) (pe_k c__law_bounds hr (by decide) (by rfl) (pa_cons (pv 1) (pa_cons (pv 2) (pa_cons pe_int pa_nil)))))
      (pss_cons (ps_set (i := 5) nd rfl (.inl rfl) (pe_k c__law_all_within hr (by decide) (by rfl) (pa_cons (pv 2) (pa_cons (pv 4) pa_nil))))
      (pss_cons (ps_if (pt_not (pt_val (pe_kG c__law_right hgd hr (by decide) (by rfl) (pa_cons (pv 1) (pa_cons (pv 2) (pa_cons (pv 4) pa_nil)))))) (pss_one (ps_ret pe_bl)) pss_nil)
      (pss_cons (ps_if (pt_cmpR (op_eq_K (K := K) hr.units) (pv 5) (pe_lst pa_nil) (nomark _)) (pss_one (ps_ret pe_bl)) pss_nil)
      (pss_cons (ps_for PassesOwn.never rfl (pi_range1 (by rfl) B.range (pa_cons (pe_callB (call_len_K (K := K)) (by rfl) B.len boot_len (pa_cons (pe_ix (ix_K (K := K)) (pv 2) pe_int (fun _ _ => rfl)) pa_nil)) pa_nil)) (pg_name (i := 6) nd rfl (.inr rfl))
        (pss_cons (ps_set (i := 7) nd rfl (.inl rfl) (pe_srtSet_K (K := K) (by rfl) B.sorted (by rfl) B.set (pe_lc (own := [("_law_row_here", 11)]) (g := (gName 11)) rfl nd (pi_list_K (K := K) (pv 5)) (blkOk_by (own := [("_law_row_here", 11)]) (N := N_law) (sc := defScope s_law) (by decide +kernel)) (fun _ _ _ _ _ => (pg_name (i := 11) nd rfl (.inl rfl))) (fun _ _ _ _ _ => pts_nil) (fun _ _ _ _ _ => (pe_ix (ix_K (K := K)) (pv 11) (pv 6) (fun _ _ => rfl))))))
        (pss_one (ps_if (PW.pt (pw_or (pt_cmpR (op_ne_K (K := K) hr.units) (pv 7) (pe_listRg rfl (by rfl) B.list (prg_2 (by rfl) B.range (pe_ix (ix_K (K := K)) (pv 7) pe_int (fun _ _ => rfl)) (pe_op op_add (pe_ix (ix_K (K := K)) (pv 7) (pe_un un_neg pe_int) (fun _ _ => rfl)) pe_int))) (nomark _)) (pw_or1 (pt_cmpR (op_ne_K (K := K) hr.units) (pe_kX0 c_value_bounds hr (by decide) (by rfl) (pa_cons (pv 2) (pa_cons (pv 4) (pa_cons (pv 6) pa_nil)))) (pe_tup (pa_cons (pe_ix (ix_K (K := K)) (pv 7) pe_int (fun _ _ => rfl)) (pa_cons (pe_ix (ix_K (K := K)) (pv 7) (pe_un un_neg pe_int) (fun _ _ => rfl)) pa_nil))) (nomark _))))) (pss_one (ps_ret pe_bl)) pss_nil))))
      (pss_one (ps_ret pe_bl))))))))))))))), ?_⟩
    -- the mill
    refine q_asgC (M := Non) (va_cons (ev_var (k := 0) (v := .ref sa) rfl) stb_v va_nil) fun vs H1 r1 hvs => ?_
    obtain ⟨_, _, rfl, rfl, rfl⟩ := hvs
    refine ⟨sa, ns, nb, rfl, sql_mono r1 (fun _ z => z) hs, hl, hn, hc, fun a H2 ha e2 hm => ?_⟩
    show tSeq _ _ _ ([some (.ref sa), some (.ref a), none, none, none, none, none, none, none, none, none, none] : L2.St) H2
    -- the web
    refine q_asg (M := Mil a) (ev_web (K := K) (p := 6) (q := 15) (ev_var (k := 1) rfl) ed_i ed_i hm (by decide) (by decide) (by decide)) fun v2 H3 r3 hv2 => ?_
    obtain ⟨_, hv2, n, A, rfl, W, _⟩ := hv2
    have hm3 := hm.mono r3
    refine q_cut (Mid := fun σ' H' => ∃ (v2 : V) (n : Nat) (A : List (Int × Int)), σ' = [some (.ref sa), some (.ref a), some v2, none, none, none, none, none, none, none, none, none] ∧ It K H' v2 (wD n A) ∧ WebOk n A ∧ R (Mil a) H3 H') ?_ fun σ1 H4 hM => ?_
    · refine s_whenN (M := Mil a) (en_eq (K := K) (ei_grind (K := K) (n := 8) (ev_var (k := 1) rfl) ed_i hm3 (by decide) (by decide))) (fun G r => ?_) fun G r => ⟨v2, n, A, rfl, hv2.mono r, W, r⟩
      refine s_asg (M := Mil a) (ev_small (K := K) (p := 10) (q := 15) (ev_var (k := 1) rfl) (hm3.mono r)) fun v G2 r2 hv => ?_
      obtain ⟨_, hv, n, A, rfl, W, _⟩ := hv
      exact ⟨v, n, A, rfl, hv, W, r.trans r2⟩
    obtain ⟨v2, n, A, rfl, hv2, W, r34⟩ := hM
    have hm4 := hm3.mono r34
    have hm1 := W.m1
    -- times
    refine q_asg (M := Mil a) (P := fun v _ => ∃ t : Int, v = .int t ∧ (t = 1 ∨ t = 10 ∨ t = 30000)) (ev_op (P1 := fun v H => ∃ p, v = .ref p ∧ p ≠ a ∧ H p = some (.lst (([1, 1, 10, 30000] : List Int).map .int))) (fun H1 r Q k => el_lst (K := K) (ds := ([1, 1, 10, 30000] : List Int).map .int) (ea_cons ed_i (ea_cons ed_i (ea_cons ed_i (ea_cons ed_i ea_nil)))) (show 4 ≤ 100000 by decide) H1 r Q fun p xs H2 hp r2 hx hall => k _ H2 r2 ⟨p, rfl, (fun z => (hm4.mono r).ne (z ▸ hp)), by rw [hx, hall.ints]⟩) (fun _ _ _ r ⟨p, e, hp, hx⟩ => ⟨p, e, hp, r.keep (fun z => hp z.1) hx⟩) (ei_grind (K := K) (n := 4) (ev_var (k := 1) rfl) ed_i hm4 (by decide) (by decide)) fun x y H1 r p1 p2 Q q => ?_) fun v3 H5 r5 hv3 => ?_
    · obtain ⟨p, rfl, hp, hx⟩ := p1
      obtain ⟨i, rfl, i0, i1⟩ := p2
      have pick : ∀ t : Int, L2.atI (([1, 1, 10, 30000] : List Int).map V.int) i = some (.int t) → (t = 1 ∨ t = 10 ∨ t = 30000) → rIx K (.ref p) (.int i) H1 Q := fun t e ht => Or.inl ⟨p, _, i, .int t, rfl, rfl, .inl (.inl hx), e, q _ H1 (R.refl _) ⟨t, rfl, ht⟩⟩
      have h4 : i = 0 ∨ i = 1 ∨ i = 2 ∨ i = 3 := by omega
      rcases h4 with rfl | rfl | rfl | rfl
      · exact pick 1 rfl (.inl rfl)
      · exact pick 1 rfl (.inl rfl)
      · exact pick 10 rfl (.inr (.inl rfl))
      · exact pick 30000 rfl (.inr (.inr rfl))
    obtain ⟨t, rfl, ht⟩ := hv3
    have hm5 := hm4.mono r5
    have hv5 := hv2.mono r5
    show tSeq _ _ _ ([some (.ref sa), some (.ref a), some v2, some (.int t), none, none, none, none, none, none, none, none] : L2.St) H5
    let PO : PyData → Prop := fun e => ∃ p, e = pD p ∧ -1000000 ≤ p.1 ∧ p.1 ≤ p.2 ∧ p.2 ≤ 1000000
    -- bounds
    refine q_asg (M := Mil a) (eq_tupP (elp_lc (K := K) (src_tupQ (AD := fun d => ∃ p, d = pD p ∧ -12 ≤ p.1 ∧ p.1 ≤ p.2 ∧ p.2 ≤ 12) (n := A.length) (eq_imp (ev_bounds (K := K) (ev_var (k := 1) rfl) (ed_var (k := 2) rfl hv5) hm5 W) fun d hd => ?_)) (mil_M hm5) (by omega) (fun _ => true) (fun _ e => PO e) fun i v H6 hi r6 hy => ?_)) fun v4 H6 r6 hv4 => ?_
    · obtain ⟨Bs, rfl, lB, hB⟩ := hd
      refine ⟨_, rfl, by rw [List.length_map]; exact lB, fun d hd => ?_⟩
      obtain ⟨p, hp, rfl⟩ := List.mem_map.mp hd
      obtain ⟨h1, h2, h3, _⟩ := hB p hp
      exact ⟨p, rfl, h1, h2, h3⟩
    · obtain ⟨d, hd, p, rfl, h1, h2, h3⟩ := hy
      obtain ⟨w1, w2, g1, g2, bd⟩ := un2 (i := 8) (j := 9) (σ := wipe [some (.ref sa), some (.ref a), some v2, some (.int t), none, none, none, none, none, none, none, none] [8, 9]) hd
      obtain rfl := it_int g1
      obtain rfl := it_int g2
      refine ⟨_, bd, rfl, et_yes, fun _ => eq_imp (eq_tup2 (d := .int (p.1 * t)) (ed_I (g := fun i j => i * j) (ed_var (k := 8) rfl (.int p.1)) (ed_var (k := 3) rfl (.int t)) (.inl ⟨by omega, by omega⟩)) (eq_i (ei_I0 (g := fun i j => i + j) (A := fun i => i = p.2 * t) (C := fun i => p.2 * t ≤ i ∧ i ≤ p.2 * t + 1) (ei_d (ed_I (K := K) (g := fun i j => i * j) (ed_var (k := 9) rfl (.int p.2)) (ed_var (k := 3) rfl (.int t)) (.inl ⟨by omega, by omega⟩)) rfl) (ei_grind (K := K) (n := 2) (ev_var (k := 1) rfl) ed_i (hm5.mono r6) (by decide) (by decide)) fun i j h1 h2 => by subst h1; show p.2 * t ≤ p.2 * t + j ∧ p.2 * t + j ≤ p.2 * t + 1; omega))) fun d hd => ?_⟩
      obtain ⟨_, rfl, z, rfl, z1, z2⟩ := hd
      refine ⟨(p.1 * t, z), rfl, ?_⟩
      dsimp only
      rcases ht with rfl | rfl | rfl <;> omega
    obtain ⟨_, hv4, ds, rfl, hgot⟩ := hv4
    obtain ⟨gl, gm⟩ := got_mem (Q := PO) hgot fun _ _ z => z
    obtain ⟨Bs, rfl, hBs⟩ := pairs_of gm
    rw [List.length_map] at gl
    have hm6 := hm5.mono r6
    have hv6 := hv5.mono r6
    refine q_cut (Mid := fun σ' H' => ∃ (v4 : V) (Bs : List (Int × Int)), σ' = [some (.ref sa), some (.ref a), some v2, some (.int t), some v4, none, none, none, none, none, none, none] ∧ It K H' v4 (bD Bs) ∧ BdsOk A Bs ∧ R (Mil a) H6 H') ?_ fun σ1 H7 hM => ?_
    · refine s_whenN (M := Mil a) (en_eq (K := K) (ei_grind (K := K) (n := 4) (ev_var (k := 1) rfl) ed_i hm6 (by decide) (by decide))) (fun G r => ?_) fun G r => ⟨v4, Bs, rfl, hv4.mono r, ⟨gl, hBs⟩, r⟩
      have hmG := hm6.mono r
      refine s_asg (M := Mil a) (eq_tupP (elp_lc (K := K) (src_tup (ed_var (k := 4) rfl (hv4.mono r))) (mil_M hmG) (by rw [List.length_map]; omega) (fun _ => true) (fun _ e => PO e) fun i v H6 hi r6 hy => ?_)) fun v G2 r2 hv => ?_
      · obtain ⟨p, hp, hvp⟩ := yd_map hy
        refine ⟨_, bd_name, rfl, et_yes, fun _ => ev_ifN (en_eq (K := K) (ei_grind (K := K) (n := 2) (ev_var (k := 1) rfl) ed_i (hmG.mono r6) (by decide) (by decide))) (eq_d (ed_tup (ea2 (ed_U (g := fun i => -i) ed_i) ed_i) (show 2 ≤ 100000 by decide)) ⟨(-1000000, 1000000), rfl, by decide, by decide, by decide⟩) (eq_d (ed_var (k := 10) rfl hvp) ⟨p, rfl, hBs p (List.mem_of_getElem? hp)⟩)⟩
      · obtain ⟨_, hv, ds, rfl, hgot⟩ := hv
        obtain ⟨gl2, gm⟩ := got_mem (Q := PO) hgot fun _ _ z => z
        obtain ⟨Bs2, rfl, hBs2⟩ := pairs_of gm
        rw [List.length_map, List.length_map] at gl2
        exact ⟨v, Bs2, rfl, hv, ⟨by omega, hBs2⟩, r.trans r2⟩
    obtain ⟨v4, Bs, rfl, hv4, BO, r67⟩ := hM
    have hm7 := hm6.mono r67
    -- right
    refine q_when (M := Mil a) (b := false) (et_not (a := true) (et_B (ev_right (K := K) (ev_var (k := 1) rfl) (ed_var (k := 2) rfl (hv6.mono r67)) (ed_var (k := 4) rfl hv4) hm7 W BO))) (fun z => nomatch z) fun _ H8 r8 => ?_
    have hm8 := hm7.mono r8
    -- the small web
    refine q_asg (M := Mil a) (ev_small (K := K) (p := 4) (q := 5) (ev_var (k := 1) rfl) hm8) fun v2 H9 r9 hv2 => ?_
    obtain ⟨_, hv2, n, A, rfl, W, n4, m5⟩ := hv2
    have hm9 := hm8.mono r9
    refine q_asg (M := Mil a) (ev_bounds (K := K) (ev_var (k := 1) rfl) (ed_var (k := 2) rfl hv2) hm9 W) fun v4 H10 r10 hv4 => ?_
    obtain ⟨_, hv4, Bs, rfl, lB, bB⟩ := hv4
    have hm10 := hm9.mono r10
    have hv2 := hv2.mono r10
    have BO : BdsOk A Bs := ⟨lB, fun p hp => by obtain ⟨h1, h2, h3, _⟩ := bB p hp; exact ⟨by omega, h2, by omega⟩⟩
    show tSeq _ _ _ ([some (.ref sa), some (.ref a), some v2, some (.int t), some v4, none, none, none, none, none, none, none] : L2.St) H10
    -- rows
    refine q_asgC (M := Non) (va_cons (ed_var (k := 2) rfl hv2) stb_d (va_cons (ed_var (k := 4) rfl hv4) stb_d va_nil)) fun vs H11 r11 hvs => ?_
    obtain ⟨_, _, rfl, q1, _, _, rfl, q2, rfl⟩ := hvs
    refine ⟨_, _, n, A, Bs, rfl, q1, q2, W, m5, lB, bB, fun rs hA hrl p xs H12 hp e12 hx hall => ?_⟩
    have r12 : R Non H10 H12 := r11.trans (R.of e12)
    have hm12 := hm10.ex r12.ex
    have pa : p ≠ a := fun z => (hm10.ex r11.ex).ne (z ▸ hp)
    show tSeq _ _ _ ([some (.ref sa), some (.ref a), some v2, some (.int t), some v4, some (.ref p), none, none, none, none, none, none] : L2.St) H12
    refine q_when (M := Mil a) (b := false) (et_not (a := true) (et_B (ev_right (K := K) (ev_var (k := 1) rfl) (ed_var (k := 2) rfl (hv2.mono r12)) (ed_var (k := 4) rfl (hv4.mono r12)) hm12 W BO))) (fun z => nomatch z) fun _ H13 r13 => ?_
    have hx := r13.keep (fun z => pa z.1) hx
    have hall := hall.mono r13
    have hv2 := (hv2.mono r12).mono r13
    have hv4 := (hv4.mono r12).mono r13
    -- rows == []
    refine q_when (M := Non) (b := decide (rs.map lD = [])) (et_is (et_test (ed_eqP (K := K) (d := .list (rs.map lD)) (edp_v (k := 5) rfl (.inl (.inl hx)) hall) edp_nil sh_lots rfl)) (by rw [eqv_lnil])) (fun _ H14 r14 => s_ret (M := Non) (P := fun v _ => v = .bl true) ev_c fun v G r e => by subst e; exact kQ G) fun hb H14 r14 => ?_
    have hne : rs ≠ [] := fun z => by rw [z] at hb; cases hb
    have hx := r14.keep (fun z => z) hx
    have hall := hall.mono r14
    have hv2 := hv2.mono r14
    have hv4 := hv4.mono r14
    refine q_for (M := Non) (M' := Non) (src_rng1 (K := K) (n := (A.length : Nat)) (ea1 (ed_is (ed_lenT (ed_ix (ed_var (k := 2) rfl hv2) ed_i rfl)) (by rw [List.length_map]))) (by omega) (by omega)) (fun b u' hb => hb.elim) fun H15 r15 => ?_
    refine ⟨fun k σ' _ => ∃ o6 o7 o8 o9 o10 o11, σ' = [some (.ref sa), some (.ref a), some v2, some (.int t), some v4, some (.ref p), o6, o7, o8, o9, o10, o11], ⟨_, _, _, _, _, _, rfl⟩, fun k σ' G hk rG hP v G1 e1 hy => ?_, fun σ' G rG hP => ?_⟩
    · rw [Int.toNat_natCast] at hk
      obtain ⟨o6, o7, o8, o9, o10, o11, rfl⟩ := hP
      subst hy
      have rG1 : R Non H15 G1 := rG.trans (R.of e1)
      have r16 := r15.trans rG1
      have hx1 := r16.keep (fun z => z) hx
      have hall1 := hall.mono r16
      have hv2' := hv2.mono r16
      have hv4' := hv4.mono r16
      have hBk : Bs[k]? = some (Bs[k]'(by omega)) := List.getElem?_eq_getElem (by omega)
      have xb := xW_at hBk
      have yb := yW_at hBk
      obtain ⟨b1, b2, b3, b4⟩ := bB _ (List.mem_of_getElem? hBk)
      rw [← xb, ← yb] at b2 b4
      rw [← xb] at b1
      rw [← yb] at b3
      show tSeq _ _ _ ([some (.ref sa), some (.ref a), some v2, some (.int t), some v4, some (.ref p), some (.int (k : Nat)), o7, o8, o9, o10, o11] : L2.St) G1
      -- some
      refine q_asg (M := Non) (ev_srtSet (K := K) (ns := rs.map fun r => fL r k) (lo := xW Bs k) ((elp_lc (K := K) (src_lv (K := K) (ds := rs.map lD) (ev_var (k := 5) rfl) (fun _ z => z) (.inl (.inl hx1)) (nn hx1) hall1) non_E (by rw [List.length_map]; omega) (fun _ => true) (fun i d => ∃ r, rs[i]? = some r ∧ d = .int (fL r k)) fun i v G2 hi r hy => ?_).el fun es he => ?_) (by rw [List.length_map]; omega) fun x hx => ?_) fun v7 G2 r2 hv7 => ?_
      · obtain ⟨l, hl, hv⟩ := yd_map hy
        have hF := hA.snd l (List.mem_of_getElem? hl)
        exact ⟨_, bd_name, rfl, et_yes, fun _ => ev_dd (ed_ix (ed_var (k := 11) rfl hv) (ed_var (k := 6) rfl (.int (k : Nat))) (atI_nat (map_get (fL_get (by rw [hF.1]; exact hk))))) ⟨l, hl, rfl⟩⟩
      · obtain ⟨e1, e2⟩ := he.all
        rw [List.length_map] at e1
        refine List.ext_getElem? fun i => ?_
        by_cases c : i < rs.length
        · obtain ⟨q, hq, hd⟩ := e2 i _ (List.getElem?_eq_getElem (by omega))
          rw [List.getElem?_eq_getElem (by omega), hd, List.getElem?_map, List.getElem?_map, hq]
          rfl
        · rw [List.getElem?_eq_none (by omega), List.getElem?_eq_none (by simp; omega)]
      · obtain ⟨r, hr, rfl⟩ := List.mem_map.mp hx
        have := (hA.snd r hr).2.1 k hk
        omega
      obtain ⟨p7, ms, rfl, hms, hsort, hmem⟩ := hv7
      obtain ⟨lo, hi, l, ini, em1, em2, em3, ⟨c1, c2, c3⟩, cLo, cHi⟩ := some_all W hk hA hsort hmem hne
      have r26 := r16.trans r2
      have m0 : ∀ {H' : Hp} {σ' : L2.St}, R Non G2 H' → σ'[7]? = some (some (V.ref p7)) → ED K Non (tOp (rIx K) (tVar 7) (tC (.int 0))) σ' H' (.int lo) := fun r e => ed_li (K := K) (ns := ms) (k := 0) (ev_var e) (fun _ z => z) (r.keep (fun z => z) hms) ed_i (by rw [em1]; rfl)
      have mZ : ∀ {H' : Hp} {σ' : L2.St}, R Non G2 H' → σ'[7]? = some (some (V.ref p7)) → ED K Non (tOp (rIx K) (tVar 7) (tUn (rU fun i => .int (-i)) (tC (.int 1)))) σ' H' (.int hi) := fun r e => ed_ixL (K := K) (ds := ms.map .int) (xs := ms.map .int) (ev_var e) (ed_U (g := fun i => -i) ed_i) (.inl (.inl (r.keep (fun z => z) hms))) (fun _ z => z) (ItAll.ofInts _) (by rw [em2, List.map_append]; exact atI_last)
      show tIfS _ _ _ _ ([some (.ref sa), some (.ref a), some v2, some (.int t), some v4, some (.ref p), some (.int (k : Nat)), some (.ref p7), o8, o9, o10, o11] : L2.St) G2
      refine s_when (M := Non) (b := false) (et_or (a := false) (b := false) (et_is (et_test (ed_neP (K := K) (d := .list (ms.map .int)) (e := .list (((List.range (hi + 1 - lo).toNat).map fun i => lo + ((i : Nat) : Int)).map .int)) (edp_v (k := 7) rfl (.inl (.inl hms)) (ItAll.ofInts _)) (edp_l (el_lstRg (m0 (R.refl _) rfl) (ed_I0 (g := fun i j => i + j) (mZ (R.refl _) rfl) ed_i) ⟨by omega, by omega, by omega, by omega, by omega⟩)) ((sh_list sh_ints).shaped (by decide)) ((sh_list sh_ints).shaped (by decide)))) (by rw [eqv_lints, decide_eq_true em3]; rfl)) fun _ => et_is (et_test (ed_neD (K := K) (d := lD [lo, hi]) (e := lD [lo, hi]) (ev_callS (va_cons (ed_var (k := 2) rfl (hv2'.mono r2)) stb_d (va_cons (ed_var (k := 4) rfl (hv4'.mono r2)) stb_d (va_cons (ev_var (k := 6) (v := .int (k : Nat)) rfl) stb_v va_nil))) fun vs G3 r3 hvs Q kk => ?_) (ed_tup (ea2 (m0 (R.refl _) rfl) (mZ (R.refl _) rfl)) (show 2 ≤ 100000 by decide)) (sh_lD.shaped (by decide)) (sh_lD.shaped (by decide)))) (by rw [eqv_lD]; rfl)) (fun z => nomatch z) fun _ G3 r3 => ⟨(rG1.trans r2).trans r3, _, _, _, _, _, _, rfl⟩
      obtain ⟨_, _, rfl, q1, _, _, rfl, q2, _, _, rfl, rfl, rfl⟩ := hvs
      refine ⟨_, _, n, A, Bs, k, rfl, q1, q2, W, BO, hk, fun lo' hi' g1 g2 v G4 e4 hv => kk v G4 (R.of e4) ?_, fun ff hn => ?_⟩
      · rw [cLo lo' g1, cHi hi' g2] at hv
        exact hv
      · obtain ⟨r0, hr0⟩ := List.exists_mem_of_ne_nil _ hne
        have F0 := hA.snd r0 hr0
        have := KM.weak W.Ends F0.2.1 F0.2.2 (fun v => decide (v ∈ lotL n ff))
        omega
    · exact s_ret (M := Non) (P := fun v _ => v = .bl true) ev_c fun v G r e => by subst e; exact kQ G
end
end KP

/-! part KFin -/
set_option Elab.async false
set_option linter.all false
set_option maxRecDepth 100000
set_option maxHeartbeats 8000000
/-! what the top's facts give. -/
namespace KP
open PySem PySem.Spec PyProof.Rows L2 PySem.NWX PySem.HandSPX
open PySem.Calls in
section
variable {P : Program} {w : World} {K : PySem.W.Frag} {mg : Str → Option Value} {h : Heap} {C CI fI : Addr}
theorem df_of {x : Str} {st : Stmt} {f : Addr} {oc : Value} {od an : Option Addr} {osl : Array (Option Value)} {kV doc pm cdv ct : Value} (X : K.In h) (G : h.Ns mainGlobals mg) (a : PySem.W.nsIn K mainGlobals x = some (some (.ref f)))
    (l : K.lookup f = some ⟨oc, od, .func (PySem.W.fnOf x x (defArgs st) (defBody st) (defScope st) .none kV doc pm an cdv ct), osl⟩) (c : PySem.W.codeIn K cdv x = true) (k : PySem.W.keepIn K (.ref f) = true) : Df K mg x st := ⟨f, _, fun_mk l c k, PySem.W.mg_of X G a⟩
theorem df_then {g : Prop} {x : Str} {st : Stmt} {f : Addr} {oc : Value} {od an : Option Addr} {osl : Array (Option Value)} {kV doc pm cdv ct : Value} (X : K.In h) (G : h.Ns mainGlobals mg) (a : PySem.W.nsIn K mainGlobals x = some (some (.ref f)))
    (l : K.lookup f = some ⟨oc, od, .func (PySem.W.fnOf x x (defArgs st) (defBody st) (defScope st) .none kV doc pm an cdv ct), osl⟩) (c : PySem.W.codeIn K cdv x = true) (k : PySem.W.keepIn K (.ref f) = true) (go : Df K mg x st → g) : g := go (df_of X G a l c k)
theorem law_mk {fa f : Addr} {oc : Value} {od an : Option Addr} {osl : Array (Option Value)} {kV doc pm cdv ct : Value} (X : K.In h) (G : h.Ns mainGlobals mg) (hfa : mg "law" = some (.ref fa)) (a : PySem.W.nsIn K mainGlobals "law" = some (some (.ref f)))
    (l : K.lookup f = some ⟨oc, od, .func (PySem.W.fnOf "law" "law" (defArgs s_law) (defBody s_law) (defScope s_law) .none kV doc pm an cdv ct), osl⟩) (c : PySem.W.codeIn K cdv "law" = true) (k : PySem.W.keepIn K (.ref f) = true) :
    ∃ fd : FuncData, Fun K "law" "law" s_law fa fd ∧ ∀ (s : Shared) (u : Value), BindsTo s fd ⟨[u], []⟩ [("_law_script", u)] := by
  have e := hfa.symm.trans (PySem.W.mg_of X G a)
  cases e
  exact ⟨_, fun_mk (st := s_law) l c k, fun s u => .of_eq rfl⟩
theorem exm_one {S : Addr} (h1 : PySem.W.subIn K (.ref S) (.type "BaseException") = some true) (h2 : PySem.W.isClsIn K S = true) (h3 : PySem.W.typeIn K (.ref S) = some (.type "type")) (h4 : PySem.W.subIn K (.ref S) (.ref S) = some true) : PySem.W.exmOne K (.ref S) (.ref S) = some true := by
  have h2' : (PySem.W.clsIn K S).isSome = true := h2
  unfold PySem.W.exmOne PySem.W.kitCls
  simp only [h1, h2', h3, h4, beq_self_eq_true, Bool.and_self, if_true]
theorem kit_no {S D : Addr} (hne : S ≠ D) (h2 : PySem.W.isClsIn K D = true) (h3 : PySem.W.typeIn K (.ref D) = some (.type "type")) (h4 : PySem.W.subIn K (.ref S) (.ref D) = some false) : PySem.W.kitOne K (.ref S) (.ref D) = some false := by
  have h2' : (PySem.W.clsIn K D).isSome = true := h2
  have e : ((Value.ref S) == (Value.ref D)) = false := beq_eq_false_iff_ne.mpr fun z => hne (Value.ref.inj z)
  unfold PySem.W.kitOne PySem.W.kitCls
  simp only [e, h2', h3, h4, beq_self_eq_true, Bool.and_self, if_true, Bool.false_eq_true, if_false]
theorem bits_lt {z : Int} {m : Nat} (h : Builtin.Int.intBits z ≤ m) : z.natAbs < 2 ^ m := by
  unfold Builtin.Int.intBits at h
  by_cases c : z.natAbs = 0
  · rw [c]; exact Nat.pow_pos (by decide)
  · refine (Nat.log2_lt c).mp ?_
    have c' : ¬ z = 0 := fun e => c (by rw [e]; rfl)
    first
      | omega
      | (simp only [c', if_false] at h; omega)
      | (simp [c', c] at h; omega)
theorem nw_mk {nm q file : Str} {FE N cc cda : Addr} {bs : List Value} {sn : List Str} {sub : List Value} {ab : Bool} {col : Option Bool} {dd : Option Addr} {m0 m1 m2 m3 m5 : Option Value} {oc kV doc pm ct cl ccl : Value} {od an cld cdd : Option Addr} {osl csl ccs : Array (Option Value)} {vs : Array Value} {tf : Tok}
    (X : K.In h) (G : h.Ns mainGlobals mg) (aC : PySem.W.nsIn K mainGlobals "NotWithin" = some (some (.ref C)))
    (xL : K.lookup C = some (excClassObj nm q C N bs [.ref FE, .type "ValueError", .type "Exception", .type "BaseException", .type "object"] true sn sub ab col dd m0 m1 m2 m3 m5 "ValueError.__new__"))
    (sa : PySem.W.findIn K (.ref C) "__setattr__" = some (some (.builtin "object.__setattr__"))) (nb : PySem.W.findIn K (.ref C) "lot" = some none) (a1 : PySem.W.findIn K (.ref C) "__init__" = some (some (.ref fI))) (t1 : PySem.W.typeIn K (.ref fI) = some (.type "function"))
    (kC : PySem.W.keepIn K (.ref C) = true) (eC : PySem.W.subIn K (.ref C) (.type "BaseException") = some true) (tC : PySem.W.typeIn K (.ref C) = some (.type "type")) (sup : PySem.W.ks_superIn K C C "__init__" = some (some (.builtin "ValueError.__init__")))
    (sV : PySem.W.subIn K (.ref C) (.type "ValueError") = some true) (sC : PySem.W.mroIn K C (.ref C) = some true) (op : PySem.W.nsIn K cStatics "thirdparty.any" = some none) (ms : PySem.W.nsIn K mainGlobals "super" = some none) (top : (P.main.scope.names.lookup ("super" : Str)).isSome = false)
    (l1 : K.lookup fI = some ⟨oc, od, .func (PySem.W.fnX "__init__" "NotWithin.__init__" (L2.defArgs nwI) (L2.defBody nwI) (L2.defScope nwI) [("__class__", cc)] .none kV doc pm an (.ref cda) ct), osl⟩) (c1 : PySem.W.codeIn K (.ref cda) "NotWithin.__init__" = true)
    (l2 : K.lookup cc = some ⟨cl, cld, .cell (some (.ref C)), csl⟩) (l3 : K.lookup cda = some ⟨ccl, cdd, .fields vs, ccs⟩) (vf : vs[2]? = some (.str file tf)) (pf : ((P.main.file : Str) == file) = true) (rf : refsVE [.ref FE, .type "ValueError", .type "Exception", .type "BaseException", .type "object"] = true) : NwTxt P K mg C fI :=
  { gC := PySem.W.mg_of X G aC, cls := ⟨nm, q, N, bs, _, sn, sub, ab, col, dd, m0, m1, m2, m3, m5, xL, rf⟩, sa := sa, noN := nb, iC := a1, tC := t1, kC := kC, exC := eC, tyC := tC, sup := sup, sV := sV, sC := sC, op := op, ms := PySem.W.mg_none_of X G ms, top := top,
    fn := ⟨oc, od, kV, doc, pm, an, cc, cda, ct, osl, cl, cld, csl, ccl, cdd, vs, ccs, file, tf, l1, c1, l2, l3, vf, pf⟩ }
theorem exc_mk {nm q file : Str} {FE N cc cda : Addr} {bs : List Value} {sn : List Str} {sub : List Value} {ab : Bool} {col : Option Bool} {dd : Option Addr} {m0 m1 m2 m3 m5 : Option Value} {oc kV doc pm ct cl ccl : Value} {od an cld cdd : Option Addr} {osl csl ccs : Array (Option Value)} {vs : Array Value} {tf : Tok}
    (X : K.In h) (G : h.Ns mainGlobals mg) (aC : PySem.W.nsIn K mainGlobals "NotWithin" = some (some (.ref C)))
    (xL : K.lookup C = some (excClassObj nm q C N bs [.ref FE, .type "ValueError", .type "Exception", .type "BaseException", .type "object"] true sn sub ab col dd m0 m1 m2 m3 m5 "ValueError.__new__"))
    (sa : PySem.W.findIn K (.ref C) "__setattr__" = some (some (.builtin "object.__setattr__"))) (nb : PySem.W.findIn K (.ref C) "lot" = some none) (a1 : PySem.W.findIn K (.ref C) "__init__" = some (some (.ref fI))) (t1 : PySem.W.typeIn K (.ref fI) = some (.type "function"))
    (kC : PySem.W.keepIn K (.ref C) = true) (eC : PySem.W.subIn K (.ref C) (.type "BaseException") = some true) (tC : PySem.W.typeIn K (.ref C) = some (.type "type")) (sup : PySem.W.ks_superIn K C C "__init__" = some (some (.builtin "ValueError.__init__")))
    (sV : PySem.W.subIn K (.ref C) (.type "ValueError") = some true) (sC : PySem.W.mroIn K C (.ref C) = some true) (op : PySem.W.nsIn K cStatics "thirdparty.any" = some none) (ms : PySem.W.nsIn K mainGlobals "super" = some none)
    (l1 : K.lookup fI = some ⟨oc, od, .func (PySem.W.fnX "__init__" "NotWithin.__init__" (L2.defArgs nwI) (L2.defBody nwI) (L2.defScope nwI) [("__class__", cc)] .none kV doc pm an (.ref cda) ct), osl⟩) (c1 : PySem.W.codeIn K (.ref cda) "NotWithin.__init__" = true)
    (l2 : K.lookup cc = some ⟨cl, cld, .cell (some (.ref C)), csl⟩) (l3 : K.lookup cda = some ⟨ccl, cdd, .fields vs, ccs⟩) (vf : vs[2]? = some (.str file tf))
    (ga : PySem.W.findIn K (.ref C) "__getattribute__" = some (some (.builtin "BaseException.__getattribute__"))) (gg : PySem.W.findIn K (.ref C) "__getattr__" = some none) (hd : PySem.W.hasDictIn K C = true) (hc : PySem.W.findIn K (.ref C) "__class__" = some (some (.builtin "object.__class__")))
    (hn : PySem.W.specialIn K (.builtin "object.__class__") "__get__" = some (some (.builtin "getset_descriptor.__get__"))) (ht : PySem.W.takesIn K (.builtin "object.__class__") = some true) (ho : PySem.W.mroIn K C (.type "object") = some true)
    (iC : PySem.W.isClsIn K C = true) (uC : PySem.W.subIn K (.ref C) (.ref C) = some true) (aI : PySem.W.nsIn K mainGlobals "InvalidArrow" = some (some (.ref CI))) (iI : PySem.W.isClsIn K CI = true) (tI : PySem.W.typeIn K (.ref CI) = some (.type "type")) (uI : PySem.W.subIn K (.ref C) (.ref CI) = some false)
    (hne : C ≠ CI) (pf : ((P.main.file : Str) == file) = true) (top : (P.main.scope.names.lookup ("super" : Str)).isSome = false) (rf : refsVE [.ref FE, .type "ValueError", .type "Exception", .type "BaseException", .type "object"] = true) :
    ∃ C CI fI, NwTxt P K mg C fI ∧ ExcC K C ∧ XfC K C ∧ mg "InvalidArrow" = some (.ref CI) ∧ PySem.W.exmOne K (.ref C) (.ref C) = some true ∧ PySem.W.kitOne K (.ref C) (.ref CI) = some false :=
  ⟨C, CI, fI, nw_mk X G aC xL sa nb a1 t1 kC eC tC sup sV sC op ms top l1 c1 l2 l3 vf pf rf, ⟨ga, gg, eC, hd, hc, hn, ht, ho⟩, ⟨ga, gg, eC, hd⟩, PySem.W.mg_of X G aI, exm_one eC iC tC uC, kit_no hne iI tI uI⟩
theorem gb_mk {t1 t2 t3 : Tok} (X : K.In h) (G : h.Ns mainGlobals mg) (z0 : PySem.W.nsIn K mainGlobals "isinstance" = some none) (z1 : PySem.W.nsIn K mainGlobals "int" = some none) (z2 : PySem.W.nsIn K mainGlobals "bool" = some none) (z3 : PySem.W.nsIn K mainGlobals "tuple" = some none) (z4 : PySem.W.nsIn K mainGlobals "len" = some none) (z5 : PySem.W.nsIn K mainGlobals "all" = some none) (z6 : PySem.W.nsIn K mainGlobals "zip" = some none) (z7 : PySem.W.nsIn K mainGlobals "enumerate" = some none) (z8 : PySem.W.nsIn K mainGlobals "list" = some none) (z9 : PySem.W.nsIn K mainGlobals "min" = some none) (z10 : PySem.W.nsIn K mainGlobals "any" = some none) (z11 : PySem.W.nsIn K mainGlobals "range" = some none) (z12 : PySem.W.nsIn K mainGlobals "abs" = some none) (z13 : PySem.W.nsIn K mainGlobals "repr" = some none) (z14 : PySem.W.nsIn K mainGlobals "sorted" = some none) (z15 : PySem.W.nsIn K mainGlobals "set" = some none) (z16 : PySem.W.nsIn K mainGlobals "max" = some none) (q1 : PySem.W.nsIn K mainGlobals "MOST_PLACES" = some (some (.int 10 t1))) (q2 : PySem.W.nsIn K mainGlobals "MOST_ARROWS" = some (some (.int 15 t2))) (q3 : PySem.W.nsIn K mainGlobals "MOST_BOUND" = some (some (.int 1000000 t3))) : GB mg :=
  ⟨PySem.W.mg_none_of X G z0, PySem.W.mg_none_of X G z1, PySem.W.mg_none_of X G z2, PySem.W.mg_none_of X G z3, PySem.W.mg_none_of X G z4, PySem.W.mg_none_of X G z5, PySem.W.mg_none_of X G z6, PySem.W.mg_none_of X G z7, PySem.W.mg_none_of X G z8, PySem.W.mg_none_of X G z9, PySem.W.mg_none_of X G z10, PySem.W.mg_none_of X G z11, PySem.W.mg_none_of X G z12, PySem.W.mg_none_of X G z13, PySem.W.mg_none_of X G z14, PySem.W.mg_none_of X G z15, PySem.W.mg_none_of X G z16, ⟨t1, PySem.W.mg_of X G q1⟩, ⟨t2, PySem.W.mg_of X G q2⟩, ⟨t3, PySem.W.mg_of X G q3⟩⟩
theorem all_law {fa : Addr} {fd : FuncData} (F : Fun K "law" "law" s_law fa fd) (T : NwTxt P K mg C fI) (EC : ExcC K C) (XF : XfC K C) (gI : mg "InvalidArrow" = some (.ref CI)) (e1 : PySem.W.exmOne K (.ref C) (.ref C) = some true) (e2 : PySem.W.kitOne K (.ref C) (.ref CI) = some false) (B : GB mg)
    (D_is_integer : Df K mg "is_integer" s_is_integer) (D_is_between : Df K mg "is_between" s_is_between) (D_is_tuple_of : Df K mg "is_tuple_of" s_is_tuple_of) (D_is_web : Df K mg "is_web" s_is_web) (D_check_web : Df K mg "check_web" s_check_web) (D_check_arrow : Df K mg "check_arrow" s_check_arrow) (D_are_bounds : Df K mg "are_bounds" s_are_bounds) (D_check_bounds : Df K mg "check_bounds" s_check_bounds) (D_excess_of : Df K mg "excess_of" s_excess_of) (D_steps_from : Df K mg "steps_from" s_steps_from) (D_ways_with_room : Df K mg "ways_with_room" s_ways_with_room) (D_way_to : Df K mg "way_to" s_way_to) (D_room_of : Df K mg "room_of" s_room_of) (D_led_along : Df K mg "led_along" s_led_along) (D_flow_or_lot : Df K mg "flow_or_lot" s_flow_or_lot) (D_most_led : Df K mg "most_led" s_most_led) (D_least_and_greatest : Df K mg "least_and_greatest" s_least_and_greatest) (D_some_within : Df K mg "some_within" s_some_within) (D_value_bounds : Df K mg "value_bounds" s_value_bounds) (D_fixed_arrows : Df K mg "fixed_arrows" s_fixed_arrows) (D__law_mill : Df K mg "_law_mill" s__law_mill) (D__law_grind : Df K mg "_law_grind" s__law_grind) (D__law_row : Df K mg "_law_row" s__law_row) (D__law_web : Df K mg "_law_web" s__law_web) (D__law_small : Df K mg "_law_small" s__law_small) (D__law_great : Df K mg "_law_great" s__law_great) (D__law_number : Df K mg "_law_number" s__law_number) (D__law_numbers : Df K mg "_law_numbers" s__law_numbers) (D__law_need : Df K mg "_law_need" s__law_need) (D__law_lots : Df K mg "_law_lots" s__law_lots) (D__law_due : Df K mg "_law_due" s__law_due) (D__law_told : Df K mg "_law_told" s__law_told) (D__law_right : Df K mg "_law_right" s__law_right) (D__law_ring : Df K mg "_law_ring" s__law_ring) (D__law_some_flow : Df K mg "_law_some_flow" s__law_some_flow) (D__law_bounds : Df K mg "_law_bounds" s__law_bounds) (D__law_all_within : Df K mg "_law_all_within" s__law_all_within) (base : Heap) : FnG P w K mg base CX0 8 fa fd ["_law_script"] (sp_law K) := by
  have c_is_integer := cl_is_integer (P := P) (w := w) (K := K) (mg := mg) (base := base) B D_is_integer
  have c_is_between := cl_is_between (P := P) (w := w) (K := K) (mg := mg) (base := base) c_is_integer B D_is_between
  have c_is_tuple_of := cl_is_tuple_of (P := P) (w := w) (K := K) (mg := mg) (base := base) B D_is_tuple_of
  have c_is_web := cl_is_web (P := P) (w := w) (K := K) (mg := mg) (base := base) c_is_between c_is_tuple_of B D_is_web
  have c_check_web := cl_check_web (P := P) (w := w) (K := K) (mg := mg) (base := base) c_is_web B D_check_web
  have c_check_arrow := cl_check_arrow (P := P) (w := w) (K := K) (mg := mg) (base := base) c_is_between B D_check_arrow
  have c_are_bounds := cl_are_bounds (P := P) (w := w) (K := K) (mg := mg) (base := base) c_is_between c_is_tuple_of B D_are_bounds
  have c_check_bounds := cl_check_bounds (P := P) (w := w) (K := K) (mg := mg) (base := base) c_are_bounds B D_check_bounds
  have c_excess_of := cl_excess_of (P := P) (w := w) (K := K) (mg := mg) (base := base) B D_excess_of
  have c_steps_from := cl_steps_from (P := P) (w := w) (K := K) (mg := mg) (base := base) B D_steps_from
  have c_ways_with_room := cl_ways_with_room (P := P) (w := w) (K := K) (mg := mg) (base := base) c_steps_from B D_ways_with_room
  have c_way_to := cl_way_to (P := P) (w := w) (K := K) (mg := mg) (base := base) B D_way_to
  have c_room_of := cl_room_of (P := P) (w := w) (K := K) (mg := mg) (base := base) B D_room_of
  have c_led_along := cl_led_along (P := P) (w := w) (K := K) (mg := mg) (base := base) B D_led_along
  have c_flow_or_lot := cl_flow_or_lot (P := P) (w := w) (K := K) (mg := mg) (base := base) c_excess_of c_ways_with_room c_way_to c_room_of c_led_along B D_flow_or_lot
  have c_most_led := cl_most_led (P := P) (w := w) (K := K) (mg := mg) (base := base) c_ways_with_room c_way_to c_room_of c_led_along B D_most_led
  have c_least_and_greatest := cl_least_and_greatest (P := P) (w := w) (K := K) (mg := mg) (base := base) c_most_led B D_least_and_greatest
  have c_some_within := cl_some_within (P := P) (w := w) (K := K) (mg := mg) (base := base) (C := C) T c_flow_or_lot B D_some_within
  have c_value_bounds := cl_value_bounds (P := P) (w := w) (K := K) (mg := mg) (base := base) (C := C) c_check_web c_check_bounds c_check_arrow c_least_and_greatest c_some_within B D_value_bounds
  have c_fixed_arrows := cl_fixed_arrows (P := P) (w := w) (K := K) (mg := mg) (base := base) (C := C) c_check_web c_check_bounds c_least_and_greatest c_some_within B D_fixed_arrows
  have c__law_mill := cl__law_mill (P := P) (w := w) (K := K) (mg := mg) (base := base) B D__law_mill
  have c__law_grind := cl__law_grind (P := P) (w := w) (K := K) (mg := mg) (base := base) B D__law_grind
  have c__law_row := cl__law_row (P := P) (w := w) (K := K) (mg := mg) (base := base) c__law_grind B D__law_row
  have c__law_web := cl__law_web (P := P) (w := w) (K := K) (mg := mg) (base := base) c__law_grind c__law_row B D__law_web
  have c__law_small := cl__law_small (P := P) (w := w) (K := K) (mg := mg) (base := base) c__law_web B D__law_small
  have c__law_great := cl__law_great (P := P) (w := w) (K := K) (mg := mg) (base := base) c__law_web B D__law_great
  have c__law_number := cl__law_number (P := P) (w := w) (K := K) (mg := mg) (base := base) B D__law_number
  have c__law_numbers := cl__law_numbers (P := P) (w := w) (K := K) (mg := mg) (base := base) c__law_number B D__law_numbers
  have c__law_need := cl__law_need (P := P) (w := w) (K := K) (mg := mg) (base := base) B D__law_need
  have c__law_lots := cl__law_lots (P := P) (w := w) (K := K) (mg := mg) (base := base) B D__law_lots
  have c__law_due := cl__law_due (P := P) (w := w) (K := K) (mg := mg) (base := base) c__law_need B D__law_due
  have c__law_told := cl__law_told (P := P) (w := w) (K := K) (mg := mg) (base := base) T EC XF gI e1 e2 c_value_bounds c_fixed_arrows B D__law_told
  have c__law_right := cl__law_right (P := P) (w := w) (K := K) (mg := mg) (base := base) c__law_grind c__law_lots c__law_need c__law_numbers c__law_due c__law_told B D__law_right
  have c__law_ring := cl__law_ring (P := P) (w := w) (K := K) (mg := mg) (base := base) B D__law_ring
  have c__law_some_flow := cl__law_some_flow (P := P) (w := w) (K := K) (mg := mg) (base := base) c__law_grind c__law_ring B D__law_some_flow
  have c__law_bounds := cl__law_bounds (P := P) (w := w) (K := K) (mg := mg) (base := base) c__law_grind c__law_some_flow B D__law_bounds
  have c__law_all_within := cl__law_all_within (P := P) (w := w) (K := K) (mg := mg) (base := base) B D__law_all_within
  exact fg_law F c__law_mill c__law_grind c__law_web c__law_small c__law_great c__law_bounds c__law_right c__law_all_within c_value_bounds B
theorem walk_law {l : PySem.W.OpenLaw} {q : Program} {loose : List Str} {XP : (Str → Option Value) → Heap → Prop} {YP : World → Heap → Prop} {d : DefRec} {K : Params → PySem.W.Frag} (hn : l.most = some 63) (hdf : d.params.defaults = []) (inK : ∀ (w : World) (h : Heap), YP w h → (K w.params).In h)
    (F : LawDef l.prog K (fun _ => CX0) 8 d.name "_law_script" fun w => sp_law (K w.params)) : PySem.W.WalkO q loose XP YP l.row.toRowW d [] (fun f vs => PySem.call f vs) :=
  walk_ofG (n := 63) (k := 8) (x := "_law_script") (CX := fun _ => CX0) (sp := fun w => sp_law (K w.params)) hn (by decide) hdf ⟨rfl, by decide, by decide⟩ inK F (fun w H a ns hl hb _ hS => ⟨a, ns, 1048576, rfl, hS, hl, Nat.le_refl _, fun c hc => bits_lt (hb c hc), fun _ => rfl⟩) fun _ _ _ _ _ z => z
end
end KP

/-! part KEnd -/
set_option Elab.async false
set_option linter.all false
set_option maxRecDepth 100000
set_option maxHeartbeats 8000000
open PySem PySem.W PyProof.Rows
theorem PySem.Challenge.cw_everyflow_k65_whole_value_bounds_holds : PySem.Challenge.rw_everyflow_k65_whole_value_bounds.Holds := by
  w_on; o_law; k_head; (case hw => w_witness2)
  k_fill
  refine KP.walk_law (l := PySem.Challenge.rw_everyflow_k65_whole_value_bounds) rfl rfl (fun w h Y => PySem.W.kIn_of Y) ?F
  case F =>
    intro w mg fa h KX G hmg
    refine' KP.df_then (x := "is_integer") (st := KP.s_is_integer) KX G ?a ?l ?c ?k fun D_is_integer => ?_
    (case a => k_is); (case l => k_is); (case c => k_is); (case k => k_is)
    refine' KP.df_then (x := "is_between") (st := KP.s_is_between) KX G ?a ?l ?c ?k fun D_is_between => ?_
    (case a => k_is); (case l => k_is); (case c => k_is); (case k => k_is)
    refine' KP.df_then (x := "is_tuple_of") (st := KP.s_is_tuple_of) KX G ?a ?l ?c ?k fun D_is_tuple_of => ?_
    (case a => k_is); (case l => k_is); (case c => k_is); (case k => k_is)
    refine' KP.df_then (x := "is_web") (st := KP.s_is_web) KX G ?a ?l ?c ?k fun D_is_web => ?_
    (case a => k_is); (case l => k_is); (case c => k_is); (case k => k_is)
    refine' KP.df_then (x := "check_web") (st := KP.s_check_web) KX G ?a ?l ?c ?k fun D_check_web => ?_
    (case a => k_is); (case l => k_is); (case c => k_is); (case k => k_is)
    refine' KP.df_then (x := "check_arrow") (st := KP.s_check_arrow) KX G ?a ?l ?c ?k fun D_check_arrow => ?_
    (case a => k_is); (case l => k_is); (case c => k_is); (case k => k_is)
    refine' KP.df_then (x := "are_bounds") (st := KP.s_are_bounds) KX G ?a ?l ?c ?k fun D_are_bounds => ?_
    (case a => k_is); (case l => k_is); (case c => k_is); (case k => k_is)
    refine' KP.df_then (x := "check_bounds") (st := KP.s_check_bounds) KX G ?a ?l ?c ?k fun D_check_bounds => ?_
    (case a => k_is); (case l => k_is); (case c => k_is); (case k => k_is)
    refine' KP.df_then (x := "excess_of") (st := KP.s_excess_of) KX G ?a ?l ?c ?k fun D_excess_of => ?_
    (case a => k_is); (case l => k_is); (case c => k_is); (case k => k_is)
    refine' KP.df_then (x := "steps_from") (st := KP.s_steps_from) KX G ?a ?l ?c ?k fun D_steps_from => ?_
    (case a => k_is); (case l => k_is); (case c => k_is); (case k => k_is)
    refine' KP.df_then (x := "ways_with_room") (st := KP.s_ways_with_room) KX G ?a ?l ?c ?k fun D_ways_with_room => ?_
    (case a => k_is); (case l => k_is); (case c => k_is); (case k => k_is)
    refine' KP.df_then (x := "way_to") (st := KP.s_way_to) KX G ?a ?l ?c ?k fun D_way_to => ?_
    (case a => k_is); (case l => k_is); (case c => k_is); (case k => k_is)
    refine' KP.df_then (x := "room_of") (st := KP.s_room_of) KX G ?a ?l ?c ?k fun D_room_of => ?_
    (case a => k_is); (case l => k_is); (case c => k_is); (case k => k_is)
    refine' KP.df_then (x := "led_along") (st := KP.s_led_along) KX G ?a ?l ?c ?k fun D_led_along => ?_
    (case a => k_is); (case l => k_is); (case c => k_is); (case k => k_is)
    refine' KP.df_then (x := "flow_or_lot") (st := KP.s_flow_or_lot) KX G ?a ?l ?c ?k fun D_flow_or_lot => ?_
    (case a => k_is); (case l => k_is); (case c => k_is); (case k => k_is)
    refine' KP.df_then (x := "most_led") (st := KP.s_most_led) KX G ?a ?l ?c ?k fun D_most_led => ?_
    (case a => k_is); (case l => k_is); (case c => k_is); (case k => k_is)
    refine' KP.df_then (x := "least_and_greatest") (st := KP.s_least_and_greatest) KX G ?a ?l ?c ?k fun D_least_and_greatest => ?_
    (case a => k_is); (case l => k_is); (case c => k_is); (case k => k_is)
    refine' KP.df_then (x := "some_within") (st := KP.s_some_within) KX G ?a ?l ?c ?k fun D_some_within => ?_
    (case a => k_is); (case l => k_is); (case c => k_is); (case k => k_is)
    refine' KP.df_then (x := "value_bounds") (st := KP.s_value_bounds) KX G ?a ?l ?c ?k fun D_value_bounds => ?_
    (case a => k_is); (case l => k_is); (case c => k_is); (case k => k_is)
    refine' KP.df_then (x := "fixed_arrows") (st := KP.s_fixed_arrows) KX G ?a ?l ?c ?k fun D_fixed_arrows => ?_
    (case a => k_is); (case l => k_is); (case c => k_is); (case k => k_is)
    refine' KP.df_then (x := "_law_mill") (st := KP.s__law_mill) KX G ?a ?l ?c ?k fun D__law_mill => ?_
    (case a => k_is); (case l => k_is); (case c => k_is); (case k => k_is)
    refine' KP.df_then (x := "_law_grind") (st := KP.s__law_grind) KX G ?a ?l ?c ?k fun D__law_grind => ?_
    (case a => k_is); (case l => k_is); (case c => k_is); (case k => k_is)
    refine' KP.df_then (x := "_law_row") (st := KP.s__law_row) KX G ?a ?l ?c ?k fun D__law_row => ?_
    (case a => k_is); (case l => k_is); (case c => k_is); (case k => k_is)
    refine' KP.df_then (x := "_law_web") (st := KP.s__law_web) KX G ?a ?l ?c ?k fun D__law_web => ?_
    (case a => k_is); (case l => k_is); (case c => k_is); (case k => k_is)
    refine' KP.df_then (x := "_law_small") (st := KP.s__law_small) KX G ?a ?l ?c ?k fun D__law_small => ?_
    (case a => k_is); (case l => k_is); (case c => k_is); (case k => k_is)
    refine' KP.df_then (x := "_law_great") (st := KP.s__law_great) KX G ?a ?l ?c ?k fun D__law_great => ?_
    (case a => k_is); (case l => k_is); (case c => k_is); (case k => k_is)
    refine' KP.df_then (x := "_law_number") (st := KP.s__law_number) KX G ?a ?l ?c ?k fun D__law_number => ?_
    (case a => k_is); (case l => k_is); (case c => k_is); (case k => k_is)
    refine' KP.df_then (x := "_law_numbers") (st := KP.s__law_numbers) KX G ?a ?l ?c ?k fun D__law_numbers => ?_
    (case a => k_is); (case l => k_is); (case c => k_is); (case k => k_is)
    refine' KP.df_then (x := "_law_need") (st := KP.s__law_need) KX G ?a ?l ?c ?k fun D__law_need => ?_
    (case a => k_is); (case l => k_is); (case c => k_is); (case k => k_is)
    refine' KP.df_then (x := "_law_lots") (st := KP.s__law_lots) KX G ?a ?l ?c ?k fun D__law_lots => ?_
    (case a => k_is); (case l => k_is); (case c => k_is); (case k => k_is)
    refine' KP.df_then (x := "_law_due") (st := KP.s__law_due) KX G ?a ?l ?c ?k fun D__law_due => ?_
    (case a => k_is); (case l => k_is); (case c => k_is); (case k => k_is)
    refine' KP.df_then (x := "_law_told") (st := KP.s__law_told) KX G ?a ?l ?c ?k fun D__law_told => ?_
    (case a => k_is); (case l => k_is); (case c => k_is); (case k => k_is)
    refine' KP.df_then (x := "_law_right") (st := KP.s__law_right) KX G ?a ?l ?c ?k fun D__law_right => ?_
    (case a => k_is); (case l => k_is); (case c => k_is); (case k => k_is)
    refine' KP.df_then (x := "_law_ring") (st := KP.s__law_ring) KX G ?a ?l ?c ?k fun D__law_ring => ?_
    (case a => k_is); (case l => k_is); (case c => k_is); (case k => k_is)
    refine' KP.df_then (x := "_law_some_flow") (st := KP.s__law_some_flow) KX G ?a ?l ?c ?k fun D__law_some_flow => ?_
    (case a => k_is); (case l => k_is); (case c => k_is); (case k => k_is)
    refine' KP.df_then (x := "_law_bounds") (st := KP.s__law_bounds) KX G ?a ?l ?c ?k fun D__law_bounds => ?_
    (case a => k_is); (case l => k_is); (case c => k_is); (case k => k_is)
    refine' KP.df_then (x := "_law_all_within") (st := KP.s__law_all_within) KX G ?a ?l ?c ?k fun D__law_all_within => ?_
    (case a => k_is); (case l => k_is); (case c => k_is); (case k => k_is)
    have B : KP.GB mg := by
      refine' KP.gb_mk KX G ?z0 ?z1 ?z2 ?z3 ?z4 ?z5 ?z6 ?z7 ?z8 ?z9 ?z10 ?z11 ?z12 ?z13 ?z14 ?z15 ?z16 ?q1 ?q2 ?q3
      (case z0 => k_is); (case z1 => k_is); (case z2 => k_is); (case z3 => k_is); (case z4 => k_is); (case z5 => k_is); (case z6 => k_is); (case z7 => k_is); (case z8 => k_is); (case z9 => k_is); (case z10 => k_is); (case z11 => k_is); (case z12 => k_is); (case z13 => k_is); (case z14 => k_is); (case z15 => k_is); (case z16 => k_is); (case q1 => k_is); (case q2 => k_is); (case q3 => k_is)
    have L := by
      refine' KP.law_mk KX G hmg ?a ?l ?c ?k
      (case a => k_is); (case l => k_is); (case c => k_is); (case k => k_is)
    obtain ⟨fd, F, hb⟩ := L
    have Z := by
      refine' KP.exc_mk (P := PySem.Challenge.rw_everyflow_k65_whole_value_bounds.prog) KX G ?aC ?xL ?sa ?nb ?a1 ?t1 ?kC ?eC ?tC ?sup ?sV ?sC ?op ?ms ?l1 ?c1 ?l2 ?l3 ?vf ?ga ?gg ?hd ?hcl ?hn ?ht ?ho ?iC ?uC ?aI ?iI ?tI ?uI ?hne ?pf ?top ?rf
      (case aC => k_is)
      (case xL => k_is)
      (case sa => k_is)
      (case nb => k_is)
      (case a1 => k_is)
      (case t1 => k_is)
      (case kC => k_is)
      (case eC => k_is)
      (case tC => k_is)
      (case sup => ks_is)
      (case sV => k_is)
      (case sC => k_is)
      (case op => k_is)
      (case ms => k_is)
      (case l1 => k_is)
      (case c1 => k_is)
      (case l2 => k_is)
      (case l3 => k_is)
      (case vf => rfl)
      (case ga => k_is)
      (case gg => k_is)
      (case hd => k_is)
      (case hcl => k_is)
      (case hn => k_is)
      (case ht => k_is)
      (case ho => k_is)
      (case iC => k_is)
      (case uC => k_is)
      (case aI => k_is)
      (case iI => k_is)
      (case tI => k_is)
      (case uI => k_is)
      (case hne => decide)
      (case pf => first | rfl | kernel_rfl | decide +kernel)
      (case top => first | rfl | kernel_rfl | decide +kernel)
      (case rf => first | rfl | decide +kernel)
    obtain ⟨C, CI, fI, T, EC, XF, gI, e1, e2⟩ := Z
    exact ⟨fd, hb, fun base _ _ => KP.all_law F T EC XF gI e1 e2 B D_is_integer D_is_between D_is_tuple_of D_is_web D_check_web D_check_arrow D_are_bounds D_check_bounds D_excess_of D_steps_from D_ways_with_room D_way_to D_room_of D_led_along D_flow_or_lot D_most_led D_least_and_greatest D_some_within D_value_bounds D_fixed_arrows D__law_mill D__law_grind D__law_row D__law_web D__law_small D__law_great D__law_number D__law_numbers D__law_need D__law_lots D__law_due D__law_told D__law_right D__law_ring D__law_some_flow D__law_bounds D__law_all_within base⟩

