import PyProof.Rows.All
import Wide.All
import OpenK.AllK
import Wide.FinOn
import PyProof.EqAt
import PyProof.EqKinds
import PyProof.TupleCall
import Open.SpecLaws
import KE.OsGo
import HandS.ForSpec
import HandS.Comp
import HandS.ExcInit
import HandS.ExcField
import HandS.CallLocal
import HandS.CallSlots
import HandS.NoneIn
import HandS.Style
import PySem.Challenge.RW_pipecrew_s01_answers
set_option Elab.async false
set_option linter.all false
set_option maxRecDepth 100000
set_option maxHeartbeats 4000000
namespace Crewm
open Kqk6
/-! states and their places -/
def cntS : List (List Nat) → Nat
  | [] => 1
  | l :: r => l.length * cntS r
def plc : List (List Nat) → List Nat → Nat
  | _ :: r, a :: s => a * cntS r + plc r s
  | _, _ => 0
def VA : List (List Nat) → List Nat → Prop
  | [], [] => True
  | l :: r, a :: s => a < l.length ∧ VA r s
  | _, _ => False
theorem va_len : ∀ {ps : List (List Nat)} {as : List Nat}, VA ps as → as.length = ps.length
  | [], [], _ => rfl
  | _ :: r, _ :: s, h => congrArg (· + 1) (va_len (ps := r) (as := s) h.2)
  | [], _ :: _, h => h.elim
  | _ :: _, [], h => h.elim
theorem va_iff : ∀ {ps : List (List Nat)} {as : List Nat}, VA ps as ↔ as.length = ps.length ∧ ∀ i, i < ps.length → as.getD i 0 < (ps.getD i []).length
  | [], [] => ⟨fun _ => ⟨rfl, fun i h => by simp at h⟩, fun _ => trivial⟩
  | l :: r, a :: s => by
    constructor
    · intro h
      refine ⟨va_len h, fun i hi => ?_⟩
      cases i with
      | zero => exact h.1
      | succ i =>
        have := (va_iff (ps := r) (as := s)).1 h.2
        have h2 := this.2 i (by simpa using hi)
        simpa using h2
    · intro ⟨h1, h2⟩
      refine ⟨by simpa using h2 0 (by simp), (va_iff (ps := r) (as := s)).2 ⟨by simpa using h1, fun i hi => ?_⟩⟩
      have := h2 (i + 1) (by simpa using hi)
      simpa using this
  | [], _ :: _ => by simp [VA]
  | _ :: _, [] => by simp [VA]
theorem plc_lt : ∀ {ps : List (List Nat)} {as : List Nat}, VA ps as → plc ps as < cntS ps
  | [], [], _ => Nat.one_pos
  | l :: r, a :: s, h => by
    have ih := plc_lt (ps := r) (as := s) h.2
    show a * cntS r + plc r s < l.length * cntS r
    have h1 : (a + 1) * cntS r ≤ l.length * cntS r := Nat.mul_le_mul_right _ h.1
    rw [Nat.add_mul, Nat.one_mul] at h1
    omega
  | [], _ :: _, h => h.elim
  | _ :: _, [], h => h.elim
theorem flat_len {α β : Type} {f : α → List β} {c : Nat} : ∀ (xs : List α), (∀ x, (f x).length = c) → (xs.flatMap f).length = xs.length * c
  | [], _ => by simp
  | x :: r, h => by
    rw [List.flatMap_cons, List.length_append, h x, flat_len r h, List.length_cons, Nat.add_mul, Nat.one_mul]
    exact Nat.add_comm _ _
theorem flat_get {α β : Type} {f : α → List β} {c : Nat} : ∀ (xs : List α) (i j : Nat), (∀ x, (f x).length = c) → j < c → (xs.flatMap f)[i * c + j]? = (xs[i]?).bind (fun x => (f x)[j]?)
  | [], i, j, _, _ => by simp
  | x :: r, 0, j, h, hj => by
    rw [List.flatMap_cons, Nat.zero_mul, Nat.zero_add, List.getElem?_append_left (by rw [h x]; exact hj)]
    rfl
  | x :: r, i + 1, j, h, hj => by
    have e : (i + 1) * c + j = (f x).length + (i * c + j) := by rw [h x, Nat.add_mul, Nat.one_mul]; omega
    rw [List.flatMap_cons, e, List.getElem?_append_right (by omega), Nat.add_sub_cancel_left, flat_get r i j h hj]
    rfl
theorem states_len : ∀ (ps : List (List Nat)), (allStates ps).length = cntS ps
  | [] => rfl
  | l :: r => by
    show ((List.range l.length).flatMap fun age => (allStates r).map fun ages => age :: ages).length = l.length * cntS r
    rw [flat_len (c := cntS r) _ (fun x => by rw [List.length_map, states_len r]), List.length_range]
theorem states_at : ∀ {ps : List (List Nat)} {as : List Nat}, VA ps as → (allStates ps)[plc ps as]? = some as
  | [], [], _ => rfl
  | l :: r, a :: s, h => by
    show ((List.range l.length).flatMap fun age => (allStates r).map fun ages => age :: ages)[a * cntS r + plc r s]? = some (a :: s)
    rw [flat_get (c := cntS r) _ _ _ (fun x => by rw [List.length_map, states_len r]) (plc_lt h.2), List.getElem?_range h.1]
    show ((allStates r).map fun ages => a :: ages)[plc r s]? = some (a :: s)
    rw [List.getElem?_map, states_at h.2]
    rfl
  | [], _ :: _, h => h.elim
  | _ :: _, [], h => h.elim
theorem states_of : ∀ {ps : List (List Nat)} {v : List Nat} {j : Nat}, (allStates ps)[j]? = some v → VA ps v ∧ plc ps v = j
  | [], v, j, h => by
    have h' : ([[]] : List (List Nat))[j]? = some v := h
    cases j with
    | zero =>
      have := Option.some.inj h'
      subst this
      exact ⟨trivial, rfl⟩
    | succ j => simp at h'
  | l :: r, v, j, h => by
    have h' : ((List.range l.length).flatMap fun age => (allStates r).map fun ages => age :: ages)[j]? = some v := h
    have hl : ∀ x : Nat, ((allStates r).map fun ages => x :: ages).length = cntS r := fun x => by rw [List.length_map, states_len r]
    have hlt : j < l.length * cntS r := by
      have := (List.getElem?_eq_some_iff.mp h').1
      rwa [flat_len (c := cntS r) _ hl, List.length_range] at this
    have hc : 0 < cntS r := by
      rcases Nat.eq_zero_or_pos (cntS r) with z | z
      · rw [z, Nat.mul_zero] at hlt
        omega
      · exact z
    have hm := Nat.mod_lt j hc
    have hd : j / cntS r < l.length := (Nat.div_lt_iff_lt_mul hc).2 hlt
    have e : j = (j / cntS r) * cntS r + j % cntS r := (Nat.div_add_mod' j (cntS r)).symm
    rw [e, flat_get (c := cntS r) _ _ _ hl hm, List.getElem?_range hd] at h'
    have h2 : ((allStates r).map fun ages => (j / cntS r) :: ages)[j % cntS r]? = some v := h'
    rw [List.getElem?_map] at h2
    cases q : (allStates r)[j % cntS r]? with
    | none => rw [q] at h2; cases h2
    | some w =>
      rw [q] at h2
      have e2 : (j / cntS r) :: w = v := Option.some.inj h2
      subst e2
      obtain ⟨i1, i2⟩ := states_of q
      refine ⟨⟨hd, i1⟩, ?_⟩
      show (j / cntS r) * cntS r + plc r w = j
      rw [i2]
      exact e.symm
theorem states_mem {ps : List (List Nat)} {v : List Nat} : v ∈ allStates ps ↔ VA ps v := by
  constructor
  · intro h
    obtain ⟨j, hj⟩ := List.getElem?_of_mem h
    exact (states_of hj).1
  · intro h
    exact List.mem_of_getElem? (states_at h)
theorem plc_inj {ps : List (List Nat)} {v w : List Nat} (hv : VA ps v) (hw : VA ps w) (e : plc ps v = plc ps w) : v = w := by
  have h1 := states_at hv
  rw [e, states_at hw] at h1
  exact (Option.some.inj h1).symm
/-- the spec's search is the place -/
theorem find_place {ps : List (List Nat)} {w : List Nat} (h : VA ps w) : ((allStates ps).findIdx fun v => v == w) = plc ps w := by
  have hlt : plc ps w < (allStates ps).length := by rw [states_len]; exact plc_lt h
  have e := states_at h
  rw [List.getElem?_eq_getElem hlt] at e
  have e' := Option.some.inj e
  refine (List.findIdx_eq hlt).2 ⟨by rw [e']; simp, fun j hj => ?_⟩
  cases q : ((allStates ps)[j]'(Nat.lt_trans hj hlt) == w) with
  | false => rfl
  | true =>
    have q' := eq_of_beq q
    have := (states_of (ps := ps) (v := w) (j := j) (by rw [List.getElem?_eq_getElem (Nat.lt_trans hj hlt), q'])).2
    omega
/-! days -/
theorem next_len (ps : List (List Nat)) (as : List Nat) (c : Nat) : (nextAges ps as c).length = as.length := by
  unfold nextAges
  simp
theorem next_get {ps : List (List Nat)} {as : List Nat} {c i : Nat} (h : i < as.length) : (nextAges ps as c).getD i 0 = if i + 1 = c then 0 else min (as.getD i 0 + 1) ((ps.getD i []).length - 1) := by
  unfold nextAges
  rw [List.getD_eq_getElem?_getD, List.getElem?_map, List.getElem?_range h]
  rfl
theorem va_next {ps : List (List Nat)} {as : List Nat} {c : Nat} (h : VA ps as) : VA ps (nextAges ps as c) := by
  obtain ⟨h1, h2⟩ := va_iff.1 h
  refine va_iff.2 ⟨by rw [next_len, h1], fun i hi => ?_⟩
  rw [next_get (by omega)]
  have := h2 i hi
  split <;> omega
/-- all pipes have an output -/
def OkP (ps : List (List Nat)) : Prop := ∀ l, l ∈ ps → 0 < l.length
theorem okP_of_va : ∀ {ps : List (List Nat)} {as : List Nat}, VA ps as → OkP ps
  | [], [], _ => fun _ h => by cases h
  | l :: r, a :: s, h => fun x hx => by
    cases hx with
    | head => exact Nat.lt_of_le_of_lt (Nat.zero_le _) h.1
    | tail _ hx => exact okP_of_va h.2 x hx
  | [], _ :: _, h => h.elim
  | _ :: _, [], h => h.elim
theorem va_zero : ∀ {ps : List (List Nat)}, OkP ps → VA ps (ps.map fun _ => 0)
  | [], _ => trivial
  | l :: r, h => ⟨h l (List.Mem.head _), va_zero fun x hx => h x (List.Mem.tail _ hx)⟩
theorem plc_zero : ∀ (ps : List (List Nat)), plc ps (ps.map fun _ => 0) = 0
  | [] => rfl
  | l :: r => by
    show 0 * cntS r + plc r (r.map fun _ => 0) = 0
    rw [plc_zero r]
    omega
theorem cnt_pos : ∀ {ps : List (List Nat)}, OkP ps → 0 < cntS ps
  | [], _ => Nat.one_pos
  | l :: r, h => Nat.mul_pos (h l (List.Mem.head _)) (cnt_pos fun x hx => h x (List.Mem.tail _ hx))
end Crewm
namespace Crewm
open Kqk6
/-! runs -/
theorem run_app (ps : List (List Nat)) : ∀ (cs ds as : List Nat), runDays ps as (cs ++ ds) = ((runDays ps (runDays ps as cs).1 ds).1, (runDays ps as cs).2 + (runDays ps (runDays ps as cs).1 ds).2)
  | [], ds, as => by
    show runDays ps as ds = _
    simp [runDays]
  | c :: cs, ds, as => by
    have ih := run_app ps cs ds (nextAges ps as c)
    show ((runDays ps (nextAges ps as c) (cs ++ ds)).1, dayOutput ps as c + (runDays ps (nextAges ps as c) (cs ++ ds)).2) = _
    rw [ih]
    show (_, _) = (_, (dayOutput ps as c + (runDays ps (nextAges ps as c) cs).2) + _)
    rw [Nat.add_assoc]
    rfl
theorem run_va {ps : List (List Nat)} : ∀ (cs : List Nat) {as : List Nat}, VA ps as → VA ps (runDays ps as cs).1
  | [], _, h => h
  | _ :: cs, _, h => run_va cs (va_next h)
theorem run_one (ps : List (List Nat)) (as : List Nat) (c : Nat) : runDays ps as [c] = (nextAges ps as c, dayOutput ps as c) := rfl
/-! two states that are led alike -/
theorem sync {ps : List (List Nat)} : ∀ (cs : List Nat) {as bs : List Nat} (j i : Nat), VA ps as → VA ps bs → i < ps.length → (as.getD i 0 = bs.getD i 0 ∨ (min j ((ps.getD i []).length - 1) ≤ as.getD i 0 ∧ min j ((ps.getD i []).length - 1) ≤ bs.getD i 0)) →
    ((runDays ps as cs).1.getD i 0 = (runDays ps bs cs).1.getD i 0 ∨ (min (j + cs.length) ((ps.getD i []).length - 1) ≤ (runDays ps as cs).1.getD i 0 ∧ min (j + cs.length) ((ps.getD i []).length - 1) ≤ (runDays ps bs cs).1.getD i 0))
  | [], _, _, _, _, _, _, _, h => h
  | c :: cs, as, bs, j, i, ha, hb, hi, h => by
    have ih := sync cs (as := nextAges ps as c) (bs := nextAges ps bs c) (j + 1) i (va_next ha) (va_next hb) hi
    have e : j + 1 + cs.length = j + (c :: cs).length := by rw [List.length_cons]; omega
    rw [e] at ih
    refine ih ?_
    rw [next_get (by rw [va_len ha]; exact hi), next_get (by rw [va_len hb]; exact hi)]
    by_cases q : i + 1 = c
    · left
      rw [if_pos q, if_pos q]
    · rw [if_neg q, if_neg q]
      rcases h with h | ⟨h1, h2⟩
      · left
        rw [h]
      · right
        omega
theorem len_le_cnt : ∀ {ps : List (List Nat)}, OkP ps → ∀ i, i < ps.length → (ps.getD i []).length ≤ cntS ps
  | [], _, i, hi => by simp at hi
  | l :: r, h, 0, _ => by
    show l.length ≤ l.length * cntS r
    exact Nat.le_mul_of_pos_right _ (cnt_pos fun x hx => h x (List.Mem.tail _ hx))
  | l :: r, h, i + 1, hi => by
    have ih := len_le_cnt (ps := r) (fun x hx => h x (List.Mem.tail _ hx)) i (by simpa using hi)
    have e : ((l :: r).getD (i + 1) []) = r.getD i [] := by simp
    rw [e]
    show (r.getD i []).length ≤ l.length * cntS r
    exact Nat.le_trans ih (Nat.le_mul_of_pos_left _ (h l (List.Mem.head _)))
theorem va_ext {ps : List (List Nat)} {as bs : List Nat} (ha : VA ps as) (hb : VA ps bs) (h : ∀ i, i < ps.length → as.getD i 0 = bs.getD i 0) : as = bs := by
  have la := va_len ha
  have lb := va_len hb
  apply List.ext_getElem (by omega)
  intro i h1 h2
  have := h i (by omega)
  rw [List.getD_eq_getElem?_getD, List.getD_eq_getElem?_getD, List.getElem?_eq_getElem h1, List.getElem?_eq_getElem h2] at this
  simpa using this
theorem synced {ps : List (List Nat)} {as bs cs : List Nat} (ha : VA ps as) (hb : VA ps bs) (h : cntS ps ≤ cs.length + 1) : (runDays ps as cs).1 = (runDays ps bs cs).1 := by
  refine va_ext (run_va cs ha) (run_va cs hb) fun i hi => ?_
  have hp := okP_of_va ha
  have hl := len_le_cnt hp i hi
  have s := sync cs 0 i ha hb hi (by right; omega)
  have v1 := (va_iff.1 (run_va cs ha)).2 i hi
  have v2 := (va_iff.1 (run_va cs hb)).2 i hi
  rcases s with s | ⟨s1, s2⟩
  · exact s
  · omega
/-! pigeons -/
theorem pigeon : ∀ (n : Nat) (f : Nat → Nat), (∀ i, i ≤ n → f i < n) → ∃ i j, i < j ∧ j ≤ n ∧ f i = f j
  | 0, f, h => absurd (h 0 (Nat.le_refl _)) (Nat.not_lt_zero _)
  | n + 1, f, h => by
    by_cases q : ∃ i, i ≤ n ∧ f i = f (n + 1)
    · obtain ⟨i, hi, e⟩ := q
      exact ⟨i, n + 1, by omega, Nat.le_refl _, e⟩
    · have q' : ∀ i, i ≤ n → f i ≠ f (n + 1) := fun i hi e => q ⟨i, hi, e⟩
      obtain ⟨i, j, hij, hj, e⟩ := pigeon n (fun i => if f i < f (n + 1) then f i else f i - 1) (fun i hi => by
        have h1 := h i (by omega)
        have h2 := h (n + 1) (Nat.le_refl _)
        have h3 := q' i hi
        show (if f i < f (n + 1) then f i else f i - 1) < n
        split <;> omega)
      refine ⟨i, j, hij, by omega, ?_⟩
      have h3 := q' i (by omega)
      have h4 := q' j hj
      split at e <;> split at e <;> omega
/-! the best total of k days that end in a state -/
structure Karp (ps : List (List Nat)) (S : List Nat → Prop) (D : Nat → List Nat → Option Nat) : Prop where
  back : ∀ k v x, k ≤ cntS ps → VA ps v → D k v = some x → ∃ s cs, VA ps s ∧ S s ∧ cs.length = k ∧ (∀ c, c ∈ cs → c ≤ ps.length) ∧ runDays ps s cs = (v, x)
  zero : ∀ s, VA ps s → S s → ∃ y, D 0 s = some y
  step : ∀ k v x c, k < cntS ps → VA ps v → D k v = some x → c ≤ ps.length → ∃ y, D (k + 1) (nextAges ps v c) = some y ∧ x + dayOutput ps v c ≤ y
section
variable {ps : List (List Nat)} {S : List Nat → Prop} {D : Nat → List Nat → Option Nat}
theorem Karp.walk (K : Karp ps S D) : ∀ (cs : List Nat) (k : Nat) (s : List Nat) (x : Nat), VA ps s → D k s = some x → k + cs.length ≤ cntS ps → (∀ c, c ∈ cs → c ≤ ps.length) →
    ∃ y, D (k + cs.length) (runDays ps s cs).1 = some y ∧ x + (runDays ps s cs).2 ≤ y
  | [], k, s, x, _, h, _, _ => ⟨x, h, Nat.le_refl _⟩
  | c :: cs, k, s, x, hs, h, hk, hc => by
    rw [List.length_cons] at hk
    obtain ⟨y, hy, hxy⟩ := K.step k s x c (by omega) hs h (hc c (List.Mem.head _))
    obtain ⟨z, hz, hyz⟩ := K.walk cs (k + 1) (nextAges ps s c) y (va_next hs) hy (by omega) fun d hd => hc d (List.Mem.tail _ hd)
    refine ⟨z, ?_, ?_⟩
    · have e : k + 1 + cs.length = k + (c :: cs).length := by rw [List.length_cons]; omega
      rw [e] at hz
      exact hz
    · show x + (dayOutput ps s c + (runDays ps (nextAges ps s c) cs).2) ≤ z
      omega
theorem Karp.from (K : Karp ps S D) {s cs : List Nat} (hs : VA ps s) (h : S s) (hk : cs.length ≤ cntS ps) (hc : ∀ c, c ∈ cs → c ≤ ps.length) : ∃ y, D cs.length (runDays ps s cs).1 = some y ∧ (runDays ps s cs).2 ≤ y := by
  obtain ⟨x, hx⟩ := K.zero s hs h
  obtain ⟨y, hy, h2⟩ := K.walk cs 0 s x hs hx (by omega) hc
  rw [Nat.zero_add] at hy
  exact ⟨y, hy, by omega⟩
/-- the walk of as many days as there are states goes round somewhere -/
theorem Karp.round (K : Karp ps S D) {v : List Nat} {x : Nat} (hv : VA ps v) (h : D (cntS ps) v = some x) : ∃ (u cs : List Nat) (k y : Nat), VA ps u ∧ cs ≠ [] ∧ (∀ c, c ∈ cs → c ≤ ps.length) ∧ (runDays ps u cs).1 = u ∧
    k + cs.length = cntS ps ∧ D k v = some y ∧ x ≤ y + (runDays ps u cs).2 := by
  obtain ⟨s, cs, hs, hS, hl, hc, hr⟩ := K.back (cntS ps) v x (Nat.le_refl _) hv h
  obtain ⟨i, j, hij, hj, e⟩ := pigeon (cntS ps) (fun i => plc ps (runDays ps s (cs.take i)).1) fun i _ => plc_lt (run_va _ hs)
  have e' := plc_inj (run_va _ hs) (run_va _ hs) e
  have cut : cs = cs.take i ++ ((cs.drop i).take (j - i) ++ cs.drop j) := by
    have e1 : (cs.drop i).take (j - i) ++ (cs.drop i).drop (j - i) = cs.drop i := List.take_append_drop _ _
    rw [List.drop_drop] at e1
    have e2 : i + (j - i) = j := by omega
    rw [e2] at e1
    rw [e1, List.take_append_drop]
  have cut2 : cs.take j = cs.take i ++ (cs.drop i).take (j - i) := by
    have e2 : j = i + (j - i) := by omega
    conv => lhs; rw [e2]
    exact List.take_add
  have m1 : ∀ c, c ∈ cs.take i → c ≤ ps.length := fun c q => hc c (List.mem_of_mem_take q)
  have m2 : ∀ c, c ∈ (cs.drop i).take (j - i) → c ≤ ps.length := fun c q => hc c (List.mem_of_mem_drop (List.mem_of_mem_take q))
  have m3 : ∀ c, c ∈ cs.drop j → c ≤ ps.length := fun c q => hc c (List.mem_of_mem_drop q)
  have l2 : ((cs.drop i).take (j - i)).length = j - i := by
    rw [List.length_take, List.length_drop]
    omega
  have back : (runDays ps (runDays ps s (cs.take i)).1 ((cs.drop i).take (j - i))).1 = (runDays ps s (cs.take i)).1 := by
    have q := congrArg Prod.fst (run_app ps (cs.take i) ((cs.drop i).take (j - i)) s)
    rw [← cut2] at q
    exact q.symm.trans e'.symm
  rw [cut, run_app, run_app, back] at hr
  have h1 := congrArg Prod.fst hr
  have h2 := congrArg Prod.snd hr
  dsimp only at h1 h2
  have lk : (cs.take i ++ cs.drop j).length = cntS ps - (j - i) := by
    rw [List.length_append, List.length_take, List.length_drop]
    omega
  obtain ⟨y, hy, h3⟩ := K.from (s := s) (cs := cs.take i ++ cs.drop j) hs hS (by omega) (fun c q => by
    rcases List.mem_append.mp q with q | q
    · exact m1 c q
    · exact m3 c q)
  rw [run_app] at hy h3
  rw [h1] at hy
  dsimp only at h3
  refine ⟨(runDays ps s (cs.take i)).1, (cs.drop i).take (j - i), _, y, run_va _ hs, ?_, m2, back, ?_, hy, ?_⟩
  · intro z
    rw [z] at l2
    simp at l2
    omega
  · omega
  · omega
/-- bounds: of a mean from above, from below -/
def Upp (ps : List (List Nat)) (D : Nat → List Nat → Option Nat) (a : Int) (b : Nat) : Prop := ∀ v x, VA ps v → D (cntS ps) v = some x → ∃ k y, k < cntS ps ∧ D k v = some y ∧ ((x : Int) - y) * b ≤ a * ((cntS ps - k : Nat) : Int)
def Low (ps : List (List Nat)) (D : Nat → List Nat → Option Nat) (a : Int) (b : Nat) : Prop := a = 0 ∨ ∃ v x, VA ps v ∧ D (cntS ps) v = some x ∧ ∀ k y, k < cntS ps → D k v = some y → a * ((cntS ps - k : Nat) : Int) ≤ ((x : Int) - y) * b
theorem max_of {f : Nat → Option Int} : ∀ (n : Nat), (∃ k p, k < n ∧ f k = some p) → ∃ k p, k < n ∧ f k = some p ∧ ∀ k' p', k' < n → f k' = some p' → p' ≤ p
  | 0, ⟨_, _, h, _⟩ => absurd h (Nat.not_lt_zero _)
  | n + 1, ⟨k, p, hk, hp⟩ => by
    by_cases q : ∃ k p, k < n ∧ f k = some p
    · obtain ⟨k1, p1, h1, e1, m1⟩ := max_of n q
      cases z : f n with
      | none => exact ⟨k1, p1, by omega, e1, fun k' p' hk' e' => by
          by_cases y : k' = n
          · rw [y, z] at e'; cases e'
          · exact m1 k' p' (by omega) e'⟩
      | some p2 =>
        by_cases c : p1 ≤ p2
        · exact ⟨n, p2, by omega, z, fun k' p' hk' e' => by
            by_cases y : k' = n
            · rw [y, z] at e'; cases e'; exact Int.le_refl _
            · exact Int.le_trans (m1 k' p' (by omega) e') c⟩
        · exact ⟨k1, p1, by omega, e1, fun k' p' hk' e' => by
            by_cases y : k' = n
            · rw [y, z] at e'; cases e'; omega
            · exact m1 k' p' (by omega) e'⟩
    · have hkn : k = n := by
        by_cases y : k = n
        · exact y
        · exact absurd ⟨k, p, by omega, hp⟩ q
      subst hkn
      exact ⟨k, p, hk, hp, fun k' p' hk' e' => by
        by_cases y : k' = k
        · rw [y, hp] at e'; cases e'; exact Int.le_refl _
        · exact absurd ⟨k', p', by omega, e'⟩ q⟩
/-- the potential of a state: the greatest total of fewer days, the mean taken off each day -/
def Pot (ps : List (List Nat)) (D : Nat → List Nat → Option Nat) (a : Int) (b : Nat) (v : List Nat) (p : Int) : Prop :=
  (∃ k y, k < cntS ps ∧ D k v = some y ∧ p = (b : Int) * y - a * k) ∧ ∀ k y, k < cntS ps → D k v = some y → (b : Int) * y - a * k ≤ p
theorem pot_ex {a : Int} {b : Nat} {v : List Nat} (h : ∃ k y, k < cntS ps ∧ D k v = some y) : ∃ p, Pot ps D a b v p := by
  obtain ⟨k, y, hk, hy⟩ := h
  obtain ⟨k1, p, h1, e1, m⟩ := max_of (f := fun k => (D k v).map fun y => (b : Int) * y - a * k) (cntS ps) ⟨k, (b : Int) * y - a * k, hk, by rw [hy]; rfl⟩
  cases z : D k1 v with
  | none => rw [z] at e1; cases e1
  | some y1 =>
    rw [z] at e1
    refine ⟨p, ⟨k1, y1, h1, z, (Option.some.inj e1).symm⟩, fun k' y' hk' hy' => m k' _ hk' ?_⟩
    rw [hy']
    rfl
theorem pot_eq {a : Int} {b : Nat} {v : List Nat} {p q : Int} (h1 : Pot ps D a b v p) (h2 : Pot ps D a b v q) : p = q := by
  obtain ⟨⟨k, y, hk, hy, e⟩, m⟩ := h1
  obtain ⟨⟨k', y', hk', hy', e'⟩, m'⟩ := h2
  have := m k' y' hk' hy'
  have := m' k y hk hy
  omega
theorem pot_step (K : Karp ps S D) {a : Int} {b : Nat} (U : Upp ps D a b) {v : List Nat} {p : Int} {c : Nat} (hv : VA ps v) (hc : c ≤ ps.length) (h : Pot ps D a b v p) : ∃ q, Pot ps D a b (nextAges ps v c) q ∧ p + ((b : Int) * dayOutput ps v c - a) ≤ q := by
  obtain ⟨⟨k, y, hk, hy, e⟩, _⟩ := h
  obtain ⟨z, hz, hyz⟩ := K.step k v y c hk hv hy hc
  have hbz : (b : Int) * y + (b : Int) * dayOutput ps v c ≤ (b : Int) * z := by
    rw [← Int.mul_add]
    exact Int.mul_le_mul_of_nonneg_left (by omega) (Int.natCast_nonneg b)
  have ek : a * ((k + 1 : Nat) : Int) = a * k + a := by
    rw [Int.natCast_add, Int.mul_add]
    simp
  by_cases q : k + 1 < cntS ps
  · obtain ⟨r, hr⟩ := pot_ex (a := a) (b := b) (D := D) ⟨k + 1, z, q, hz⟩
    refine ⟨r, hr, ?_⟩
    have := hr.2 (k + 1) z q hz
    rw [ek] at this
    omega
  · have ec : k + 1 = cntS ps := by omega
    rw [ec] at hz
    obtain ⟨k2, y2, h2, e2, l2⟩ := U _ z (va_next hv) hz
    obtain ⟨r, hr⟩ := pot_ex (a := a) (b := b) (D := D) ⟨k2, y2, h2, e2⟩
    refine ⟨r, hr, ?_⟩
    have h3 := hr.2 k2 y2 h2 e2
    have e3 : a * ((cntS ps - k2 : Nat) : Int) = a * k + a - a * k2 := by
      rw [← ek, ec, Int.ofNat_sub (by omega), Int.mul_sub]
    rw [e3, Int.sub_mul, Int.mul_comm (z : Int), Int.mul_comm (y2 : Int)] at l2
    omega
theorem pot_run (K : Karp ps S D) {a : Int} {b : Nat} (U : Upp ps D a b) : ∀ (cs : List Nat) {v : List Nat} {p : Int}, VA ps v → (∀ c, c ∈ cs → c ≤ ps.length) → Pot ps D a b v p → ∃ q, Pot ps D a b (runDays ps v cs).1 q ∧ p + ((b : Int) * (runDays ps v cs).2 - a * cs.length) ≤ q
  | [], v, p, _, _, h => ⟨p, h, by show p + ((b : Int) * (0 : Nat) - a * (0 : Nat)) ≤ p; simp⟩
  | c :: cs, v, p, hv, hc, h => by
    obtain ⟨q, hq, l1⟩ := pot_step K U hv (hc c (List.Mem.head _)) h
    obtain ⟨r, hr, l2⟩ := pot_run K U cs (va_next hv) (fun d hd => hc d (List.Mem.tail _ hd)) hq
    refine ⟨r, hr, ?_⟩
    show p + ((b : Int) * ((dayOutput ps v c + (runDays ps (nextAges ps v c) cs).2 : Nat) : Int) - a * ((cs.length + 1 : Nat) : Int)) ≤ r
    rw [Int.natCast_add, Int.natCast_add, Int.mul_add, Int.mul_add]
    have : a * ((1 : Nat) : Int) = a := by simp
    omega
/-- no round is above the bound -/
theorem bound_of (K : Karp ps S D) {a : Int} {b : Nat} (U : Upp ps D a b) {u cs : List Nat} (hu : VA ps u) (hr : ∃ k y, k < cntS ps ∧ D k u = some y) (hc : ∀ c, c ∈ cs → c ≤ ps.length) (e : (runDays ps u cs).1 = u) :
    (b : Int) * (runDays ps u cs).2 ≤ a * cs.length := by
  obtain ⟨p, hp⟩ := pot_ex (a := a) (b := b) hr
  obtain ⟨q, hq, l⟩ := pot_run K U cs hu hc hp
  rw [e] at hq
  have := pot_eq hp hq
  omega
theorem karp_le {S' : List Nat → Prop} {D' : Nat → List Nat → Option Nat} (K : Karp ps S D) (K' : Karp ps S' D') {a a' : Int} {b b' : Nat} (ha' : 0 ≤ a') (L : Low ps D a b) (U : Upp ps D' a' b')
    (hr : ∀ u cs, VA ps u → cs ≠ [] → (∀ c, c ∈ cs → c ≤ ps.length) → (runDays ps u cs).1 = u → ∃ k y, k < cntS ps ∧ D' k u = some y) : a * b' ≤ a' * b := by
  rcases L with L | ⟨v, x, hv, hx, m⟩
  · rw [L, Int.zero_mul]
    exact Int.mul_nonneg ha' (Int.natCast_nonneg b)
  · obtain ⟨u, cs, k, y, hu, hne, hc, e, hk, hy, hxy⟩ := K.round hv hx
    have hl : 0 < cs.length := List.length_pos_iff.mpr hne
    have h1 := m k y (by omega) hy
    have h2 := bound_of K' U hu (hr u cs hu hne hc e) hc e
    have e1 : cntS ps - k = cs.length := by omega
    rw [e1] at h1
    have h3 : ((x : Int) - y) * b ≤ ((runDays ps u cs).2 : Int) * b := Int.mul_le_mul_of_nonneg_right (by omega) (Int.natCast_nonneg b)
    have h4 : a * cs.length ≤ ((runDays ps u cs).2 : Int) * b := Int.le_trans h1 h3
    have h5 : a * cs.length * b' ≤ ((runDays ps u cs).2 : Int) * b * b' := Int.mul_le_mul_of_nonneg_right h4 (Int.natCast_nonneg b')
    have h6 : (b' : Int) * (runDays ps u cs).2 * b ≤ a' * cs.length * b := Int.mul_le_mul_of_nonneg_right h2 (Int.natCast_nonneg b)
    have e2 : ((runDays ps u cs).2 : Int) * b * b' = (b' : Int) * (runDays ps u cs).2 * b := by
      rw [Int.mul_comm _ (b' : Int), ← Int.mul_assoc]
    rw [e2] at h5
    have h7 := Int.le_trans h5 h6
    have e3 : a * (cs.length : Int) * b' = (a * b') * cs.length := by rw [Int.mul_assoc, Int.mul_comm (cs.length : Int), ← Int.mul_assoc]
    have e4 : a' * (cs.length : Int) * b = (a' * b) * cs.length := by rw [Int.mul_assoc, Int.mul_comm (cs.length : Int), ← Int.mul_assoc]
    rw [e3, e4] at h7
    exact Int.le_of_mul_le_mul_right h7 (by omega)
end
/-- what lies on a round is met in fewer days than there are states, wherever one begins -/
theorem reach {ps : List (List Nat)} {u cs s : List Nat} (hu : VA ps u) (hs : VA ps s) (hne : cs ≠ []) (hc : ∀ c, c ∈ cs → c ≤ ps.length) (e : (runDays ps u cs).1 = u) : ∃ ds : List Nat, ds.length + 1 = cntS ps ∧ (∀ c, c ∈ ds → c ≤ ps.length) ∧ (runDays ps s ds).1 = u := by
  have hl : 0 < cs.length := List.length_pos_iff.mpr hne
  have rep : ∀ n : Nat, ∃ ds : List Nat, n ≤ ds.length ∧ (∀ c, c ∈ ds → c ≤ ps.length) ∧ (runDays ps u ds).1 = u := by
    intro n
    induction n with
    | zero => exact ⟨[], Nat.le_refl _, (fun c h => by cases h), rfl⟩
    | succ n ih =>
      obtain ⟨ds, h1, h2, h3⟩ := ih
      refine ⟨cs ++ ds, by rw [List.length_append]; omega, fun c h => ?_, ?_⟩
      · rcases List.mem_append.mp h with h | h
        · exact hc c h
        · exact h2 c h
      · rw [run_app]
        show (runDays ps (runDays ps u cs).1 ds).1 = u
        rw [e, h3]
  have hp := cnt_pos (okP_of_va hu)
  obtain ⟨ds, h1, h2, h3⟩ := rep (cntS ps - 1)
  refine ⟨ds.drop (ds.length - (cntS ps - 1)), by rw [List.length_drop]; omega, fun c h => h2 c (List.mem_of_mem_drop h), ?_⟩
  rw [← List.take_append_drop (ds.length - (cntS ps - 1)) ds, run_app] at h3
  have h4 : (runDays ps (runDays ps u (ds.take (ds.length - (cntS ps - 1)))).1 (ds.drop (ds.length - (cntS ps - 1)))).1 = u := h3
  rw [← h4]
  exact synced hs (run_va _ hu) (by rw [List.length_drop]; omega)
end Crewm
namespace Crewm
open Kqk6
/-! the greatest of a list -/
def omax (b : Option Nat) (x : Nat) : Option Nat := match b with
  | none => some x
  | some y => some (max x y)
theorem omax_some : ∀ (l : List Nat) (y : Nat), ∃ m, l.foldl omax (some y) = some m ∧ y ≤ m ∧ (m = y ∨ m ∈ l) ∧ ∀ x, x ∈ l → x ≤ m
  | [], y => ⟨y, rfl, Nat.le_refl _, .inl rfl, fun _ h => by cases h⟩
  | a :: l, y => by
    obtain ⟨m, h1, h2, h3, h4⟩ := omax_some l (max a y)
    refine ⟨m, h1, by omega, ?_, fun x hx => ?_⟩
    · rcases h3 with h3 | h3
      · by_cases q : a ≤ y
        · left; omega
        · right
          have : m = a := by omega
          rw [this]
          exact List.Mem.head _
      · exact .inr (List.Mem.tail _ h3)
    · cases hx with
      | head => omega
      | tail _ hx => exact h4 x hx
theorem omax_none {l : List Nat} {m : Nat} (h : l.foldl omax none = some m) : m ∈ l := by
  cases l with
  | nil => cases h
  | cons a l =>
    obtain ⟨m', h1, _, h3, _⟩ := omax_some l a
    have e : (a :: l).foldl omax none = l.foldl omax (some a) := rfl
    rw [e, h1] at h
    cases h
    rcases h3 with h3 | h3
    · rw [h3]; exact List.Mem.head _
    · exact List.Mem.tail _ h3
theorem omax_mem {l : List Nat} {x : Nat} (h : x ∈ l) : ∃ m, l.foldl omax none = some m ∧ x ≤ m := by
  cases l with
  | nil => cases h
  | cons a l =>
    obtain ⟨m', h1, h2, _, h4⟩ := omax_some l a
    refine ⟨m', h1, ?_⟩
    cases h with
    | head => exact h2
    | tail _ h => exact h4 x h
/-! the rows of the specification -/
def rowS (ps : List (List Nat)) : Nat → List (Option Nat)
  | 0 => (List.range (allStates ps).length).map fun i => if i = 0 then some 0 else none
  | k + 1 => (List.range (allStates ps).length).map fun j => ((List.range (allStates ps).length).flatMap fun i => match (rowS ps k).getD i none with
      | none => []
      | some total =>
        let ages := (allStates ps).getD i []
        ((List.range (ages.length + 1)).filter fun c => nextAges ps ages c == (allStates ps).getD j []).map fun c => total + dayOutput ps ages c).foldl omax none
theorem foldl_rows {α : Type} (f : α → α) (g : Nat → α) (h0 : ∀ k, f (g k) = g (k + 1)) : ∀ (n : Nat), (List.range n).foldl (fun (acc : List α × α) (_ : Nat) => (acc.1 ++ [f acc.2], f acc.2)) ([g 0], g 0) = ((List.range (n + 1)).map g, g n)
  | 0 => rfl
  | n + 1 => by
    rw [List.range_succ, List.foldl_append, foldl_rows f g h0 n]
    show ((List.range (n + 1)).map g ++ [f (g n)], f (g n)) = _
    rw [h0, List.range_succ (n := n + 1), List.map_append]
    rfl
theorem walk_rows (ps : List (List Nat)) (n : Nat) : walkTotals ps (allStates ps) 0 n = (List.range (n + 1)).map (rowS ps) := by
  have e := foldl_rows (fun (prev : List (Option Nat)) => (List.range (allStates ps).length).map fun j => ((List.range (allStates ps).length).flatMap fun i => match prev.getD i none with
      | none => []
      | some total =>
        let ages := (allStates ps).getD i []
        ((List.range (ages.length + 1)).filter fun c => nextAges ps ages c == (allStates ps).getD j []).map fun c => total + dayOutput ps ages c).foldl omax none) (rowS ps) (fun _ => rfl) n
  exact congrArg Prod.fst e
theorem getD_map_range {α : Type} {f : Nat → α} {n k : Nat} {d : α} (h : k < n) : ((List.range n).map f).getD k d = f k := by
  rw [List.getD_eq_getElem?_getD, List.getElem?_map, List.getElem?_range h]
  rfl
theorem getD_states {ps : List (List Nat)} {v : List Nat} (h : VA ps v) : (allStates ps).getD (plc ps v) [] = v := by
  rw [List.getD_eq_getElem?_getD, states_at h]
  rfl
theorem rowS_len (ps : List (List Nat)) (k : Nat) : (rowS ps k).length = cntS ps := by
  cases k <;> simp [rowS, states_len]
def DS (ps : List (List Nat)) (k : Nat) (v : List Nat) : Option Nat := (rowS ps k).getD (plc ps v) none
theorem mem_next {ps : List (List Nat)} {k : Nat} {v : List Nat} {x : Nat} (hv : VA ps v) : (x ∈ ((List.range (allStates ps).length).flatMap fun i => match (rowS ps k).getD i none with
      | none => []
      | some total =>
        let ages := (allStates ps).getD i []
        ((List.range (ages.length + 1)).filter fun c => nextAges ps ages c == (allStates ps).getD (plc ps v) []).map fun c => total + dayOutput ps ages c)) ↔
    ∃ u t c, VA ps u ∧ DS ps k u = some t ∧ c ≤ ps.length ∧ nextAges ps u c = v ∧ x = t + dayOutput ps u c := by
  rw [getD_states hv, List.mem_flatMap]
  constructor
  · rintro ⟨i, hi, hx⟩
    rw [List.mem_range] at hi
    have hu := states_of (ps := ps) (j := i) (List.getElem?_eq_getElem hi)
    have hg : (allStates ps).getD i [] = (allStates ps)[i] := by rw [List.getD_eq_getElem?_getD, List.getElem?_eq_getElem hi]; rfl
    cases q : (rowS ps k).getD i none with
    | none => rw [q] at hx; cases hx
    | some t =>
      rw [q] at hx
      dsimp only at hx
      rw [hg] at hx
      obtain ⟨c, hc, e⟩ := List.mem_map.mp hx
      obtain ⟨hc1, hc2⟩ := List.mem_filter.mp hc
      rw [List.mem_range, va_len hu.1] at hc1
      refine ⟨(allStates ps)[i], t, c, hu.1, ?_, by omega, eq_of_beq hc2, e.symm⟩
      unfold DS
      rw [hu.2]
      exact q
  · rintro ⟨u, t, c, hu, ht, hc, hn, e⟩
    refine ⟨plc ps u, by rw [List.mem_range, states_len]; exact plc_lt hu, ?_⟩
    unfold DS at ht
    rw [ht]
    dsimp only
    rw [getD_states hu]
    exact List.mem_map.mpr ⟨c, List.mem_filter.mpr ⟨by rw [List.mem_range, va_len hu]; omega, by rw [hn]; simp⟩, e.symm⟩
theorem karpS (ps : List (List Nat)) : Karp ps (fun s => plc ps s = 0) (DS ps) where
  back := fun k => by
    induction k with
    | zero =>
      intro v x _ hv h
      refine ⟨v, [], hv, ?_, rfl, (fun c h => by cases h), ?_⟩
      · unfold DS rowS at h
        rw [getD_map_range (by rw [states_len]; exact plc_lt hv)] at h
        by_cases q : plc ps v = 0
        · exact q
        · rw [if_neg q] at h; cases h
      · unfold DS rowS at h
        rw [getD_map_range (by rw [states_len]; exact plc_lt hv)] at h
        split at h
        · cases h; rfl
        · cases h
    | succ k ih =>
      intro v x hk hv h
      unfold DS rowS at h
      rw [getD_map_range (by rw [states_len]; exact plc_lt hv)] at h
      obtain ⟨u, t, c, hu, ht, hc, hn, e⟩ := (mem_next hv).1 (omax_none h)
      obtain ⟨s, cs, hs, hS, hl, hcs, hr⟩ := ih u t (by omega) hu ht
      refine ⟨s, cs ++ [c], hs, hS, by rw [List.length_append, hl]; rfl, fun d hd => ?_, ?_⟩
      · rcases List.mem_append.mp hd with hd | hd
        · exact hcs d hd
        · rw [List.mem_singleton.mp hd]; exact hc
      · rw [run_app, hr, run_one]
        show (nextAges ps u c, t + dayOutput ps u c) = (v, x)
        rw [hn, e]
  zero := fun s hs h => by
    refine ⟨0, ?_⟩
    unfold DS rowS
    rw [getD_map_range (by rw [states_len]; exact plc_lt hs), if_pos h]
  step := fun k v x c hk hv h hc => by
    have hn := va_next (c := c) hv
    obtain ⟨m, h1, h2⟩ := omax_mem ((mem_next (k := k) (x := x + dayOutput ps v c) hn).2 ⟨v, x, c, hv, h, hc, rfl, rfl⟩)
    refine ⟨m, ?_, h2⟩
    unfold DS rowS
    rw [getD_map_range (by rw [states_len]; exact plc_lt hn)]
    exact h1
/-! the program's moves and rows -/
def movesM (ps : List (List Nat)) : List (List (Nat × Nat)) := (allStates ps).map fun as => (List.range (ps.length + 1)).map fun c => (plc ps (nextAges ps as c), dayOutput ps as c)
def relax (t : Nat) (f : List (Option Nat)) (e : Nat × Nat) : List (Option Nat) := match f.getD e.1 none with
  | none => f.set e.1 (some (t + e.2))
  | some y => if y < t + e.2 then f.set e.1 (some (t + e.2)) else f
def turnM (moves : List (List (Nat × Nat))) (row : List (Option Nat)) (f : List (Option Nat)) (p : Nat) : List (Option Nat) := match row.getD p none with
  | none => f
  | some t => (moves.getD p []).foldl (relax t) f
def oneDay (moves : List (List (Nat × Nat))) (row : List (Option Nat)) : List (Option Nat) := (List.range moves.length).foldl (turnM moves row) (List.replicate moves.length none)
def rowN (moves : List (List (Nat × Nat))) : Nat → List (Option Nat)
  | 0 => List.replicate moves.length (some 0)
  | k + 1 => oneDay moves (rowN moves k)
def relax2 (f : List (Option Nat)) (e : Nat × Nat) : List (Option Nat) := match f.getD e.1 none with
  | none => f.set e.1 (some e.2)
  | some y => if y < e.2 then f.set e.1 (some e.2) else f
theorem relax_len (t : Nat) (f : List (Option Nat)) (e : Nat × Nat) : (relax t f e).length = f.length := by
  unfold relax
  split
  · rw [List.length_set]
  · split
    · rw [List.length_set]
    · rfl
theorem relax_eq (t : Nat) (f : List (Option Nat)) (e : Nat × Nat) : relax t f e = relax2 f (e.1, t + e.2) := rfl
theorem relaxs_eq (t : Nat) : ∀ (l : List (Nat × Nat)) (f : List (Option Nat)), l.foldl (relax t) f = (l.map fun e => (e.1, t + e.2)).foldl relax2 f
  | [], _ => rfl
  | e :: l, f => relaxs_eq t l (relax t f e)
theorem relaxs_len (t : Nat) : ∀ (l : List (Nat × Nat)) (f : List (Option Nat)), (l.foldl (relax t) f).length = f.length
  | [], _ => rfl
  | e :: l, f => (relaxs_len t l (relax t f e)).trans (relax_len t f e)
theorem turnM_len (moves : List (List (Nat × Nat))) (row f : List (Option Nat)) (p : Nat) : (turnM moves row f p).length = f.length := by
  unfold turnM
  split
  · rfl
  · exact relaxs_len _ _ _
theorem turns_len (moves : List (List (Nat × Nat))) (row : List (Option Nat)) : ∀ (l : List Nat) (f : List (Option Nat)), (l.foldl (turnM moves row) f).length = f.length
  | [], _ => rfl
  | p :: l, f => (turns_len moves row l (turnM moves row f p)).trans (turnM_len moves row f p)
theorem oneDay_len (moves : List (List (Nat × Nat))) (row : List (Option Nat)) : (oneDay moves row).length = moves.length := by
  unfold oneDay
  rw [turns_len, List.length_replicate]
theorem rowN_len (moves : List (List (Nat × Nat))) (k : Nat) : (rowN moves k).length = moves.length := by
  cases k with
  | zero => exact List.length_replicate
  | succ k => exact oneDay_len _ _
/-- what the moves bring to the places -/
def brings (moves : List (List (Nat × Nat))) (row : List (Option Nat)) (p : Nat) : List (Nat × Nat) := match row.getD p none with
  | none => []
  | some t => (moves.getD p []).map fun e => (e.1, t + e.2)
theorem turns_eq (moves : List (List (Nat × Nat))) (row : List (Option Nat)) : ∀ (l : List Nat) (f : List (Option Nat)), l.foldl (turnM moves row) f = (l.flatMap (brings moves row)).foldl relax2 f
  | [], _ => rfl
  | p :: l, f => by
    rw [List.foldl_cons, List.flatMap_cons, List.foldl_append, turns_eq moves row l]
    have e : turnM moves row f p = (brings moves row p).foldl relax2 f := by
      unfold turnM brings
      cases row.getD p none with
      | none => rfl
      | some t => exact relaxs_eq t _ _
    rw [e]
theorem getD_set {α : Type} {f : List α} {i j : Nat} {x d : α} (h : i < f.length) : (f.set i x).getD j d = if i = j then x else f.getD j d := by
  rw [List.getD_eq_getElem?_getD, List.getD_eq_getElem?_getD, List.getElem?_set]
  by_cases q : i = j
  · rw [if_pos q, if_pos q, if_pos h]
    rfl
  · rw [if_neg q, if_neg q]
theorem relax2_get {f : List (Option Nat)} {e : Nat × Nat} {j : Nat} (h : e.1 < f.length) : (relax2 f e).getD j none = if e.1 = j then omax (f.getD j none) e.2 else f.getD j none := by
  unfold relax2
  by_cases q : e.1 = j
  · rw [if_pos q, ← q]
    cases z : f.getD e.1 none with
    | none =>
      dsimp only
      rw [getD_set h, if_pos rfl]
      rfl
    | some y =>
      dsimp only
      show _ = some (max e.2 y)
      split
      · rw [getD_set h, if_pos rfl]
        have : max e.2 y = e.2 := by omega
        rw [this]
      · rw [z]
        have : max e.2 y = y := by omega
        rw [this]
  · rw [if_neg q]
    split
    · rw [getD_set h, if_neg q]
    · split
      · rw [getD_set h, if_neg q]
      · rfl
theorem relax2_len (f : List (Option Nat)) (e : Nat × Nat) : (relax2 f e).length = f.length := by
  have := relax_len 0 f e
  rw [relax_eq] at this
  simpa using this
theorem relax2s_get {j : Nat} : ∀ (l : List (Nat × Nat)) (f : List (Option Nat)), (∀ e, e ∈ l → e.1 < f.length) → (l.foldl relax2 f).getD j none = ((l.filter fun e => e.1 == j).map (·.2)).foldl omax (f.getD j none)
  | [], _, _ => rfl
  | e :: l, f, h => by
    rw [List.foldl_cons, relax2s_get l (relax2 f e) (fun d hd => by rw [relax2_len]; exact h d (List.Mem.tail _ hd)), relax2_get (h e (List.Mem.head _))]
    by_cases q : e.1 = j
    · rw [if_pos q, List.filter_cons_of_pos (by simpa using q)]
      rfl
    · rw [if_neg q, List.filter_cons_of_neg (by simpa using q)]
theorem moves_len (ps : List (List Nat)) : (movesM ps).length = cntS ps := by
  unfold movesM
  rw [List.length_map, states_len]
theorem moves_at {ps : List (List Nat)} {u : List Nat} (h : VA ps u) : (movesM ps).getD (plc ps u) [] = (List.range (ps.length + 1)).map fun c => (plc ps (nextAges ps u c), dayOutput ps u c) := by
  unfold movesM
  rw [List.getD_eq_getElem?_getD, List.getElem?_map, states_at h]
  rfl
def DN (ps : List (List Nat)) (k : Nat) (v : List Nat) : Option Nat := (rowN (movesM ps) k).getD (plc ps v) none
theorem mem_brings {ps : List (List Nat)} {k p : Nat} {e : Nat × Nat} (hp : p < cntS ps) : e ∈ brings (movesM ps) (rowN (movesM ps) k) p ↔ ∃ u t c, VA ps u ∧ plc ps u = p ∧ DN ps k u = some t ∧ c ≤ ps.length ∧ e = (plc ps (nextAges ps u c), t + dayOutput ps u c) := by
  have hlt : p < (allStates ps).length := by rw [states_len]; exact hp
  have hu := states_of (ps := ps) (j := p) (List.getElem?_eq_getElem hlt)
  unfold brings
  constructor
  · intro h
    cases q : (rowN (movesM ps) k).getD p none with
    | none => rw [q] at h; cases h
    | some t =>
      rw [q] at h
      dsimp only at h
      rw [← hu.2, moves_at hu.1] at h
      obtain ⟨d, hd, e1⟩ := List.mem_map.mp h
      obtain ⟨c, hc, e2⟩ := List.mem_map.mp hd
      rw [List.mem_range] at hc
      refine ⟨(allStates ps)[p], t, c, hu.1, hu.2, ?_, by omega, ?_⟩
      · unfold DN
        rw [hu.2]
        exact q
      · rw [← e1, ← e2]
  · rintro ⟨u, t, c, h1, h2, h3, h4, h5⟩
    unfold DN at h3
    rw [h2] at h3
    rw [h3]
    dsimp only
    rw [← h2, moves_at h1]
    exact List.mem_map.mpr ⟨_, List.mem_map.mpr ⟨c, by rw [List.mem_range]; omega, rfl⟩, h5.symm⟩
theorem DN_succ {ps : List (List Nat)} {k : Nat} {v : List Nat} : DN ps (k + 1) v = ((((List.range (cntS ps)).flatMap (brings (movesM ps) (rowN (movesM ps) k))).filter fun e => e.1 == plc ps v).map (·.2)).foldl omax none := by
  show (oneDay (movesM ps) (rowN (movesM ps) k)).getD (plc ps v) none = _
  unfold oneDay
  rw [turns_eq, relax2s_get, moves_len]
  · rw [List.getD_eq_getElem?_getD, List.getElem?_replicate]
    split <;> rfl
  · intro e he
    rw [List.length_replicate, moves_len]
    obtain ⟨p, hp, h⟩ := List.mem_flatMap.mp he
    rw [List.mem_range, moves_len] at hp
    obtain ⟨u, t, c, h1, h2, h3, h4, h5⟩ := (mem_brings hp).1 h
    rw [h5]
    exact plc_lt (va_next h1)
theorem mem_nextN {ps : List (List Nat)} {k : Nat} {v : List Nat} {x : Nat} (hv : VA ps v) : x ∈ ((((List.range (cntS ps)).flatMap (brings (movesM ps) (rowN (movesM ps) k))).filter fun e => e.1 == plc ps v).map (·.2)) ↔
    ∃ u t c, VA ps u ∧ DN ps k u = some t ∧ c ≤ ps.length ∧ nextAges ps u c = v ∧ x = t + dayOutput ps u c := by
  constructor
  · intro h
    obtain ⟨e, he, ex⟩ := List.mem_map.mp h
    obtain ⟨h1, h2⟩ := List.mem_filter.mp he
    obtain ⟨p, hp, h3⟩ := List.mem_flatMap.mp h1
    rw [List.mem_range] at hp
    obtain ⟨u, t, c, hu, _, ht, hc, e5⟩ := (mem_brings hp).1 h3
    have e6 : e.1 = plc ps v := eq_of_beq h2
    rw [e5] at e6 ex
    exact ⟨u, t, c, hu, ht, hc, plc_inj (va_next hu) hv e6, ex.symm⟩
  · rintro ⟨u, t, c, hu, ht, hc, hn, e⟩
    refine List.mem_map.mpr ⟨(plc ps (nextAges ps u c), t + dayOutput ps u c), List.mem_filter.mpr ⟨List.mem_flatMap.mpr ⟨plc ps u, by rw [List.mem_range]; exact plc_lt hu, (mem_brings (plc_lt hu)).2 ⟨u, t, c, hu, rfl, ht, hc, rfl⟩⟩, ?_⟩, e.symm⟩
    rw [hn]
    simp
theorem DN_zero {ps : List (List Nat)} {v : List Nat} (hv : VA ps v) : DN ps 0 v = some 0 := by
  unfold DN rowN
  rw [List.getD_eq_getElem?_getD, List.getElem?_replicate, if_pos (by rw [moves_len]; exact plc_lt hv)]
  rfl
theorem karpN (ps : List (List Nat)) : Karp ps (fun _ => True) (DN ps) where
  back := fun k => by
    induction k with
    | zero =>
      intro v x _ hv h
      rw [DN_zero hv] at h
      cases h
      exact ⟨v, [], hv, trivial, rfl, (fun c h => by cases h), rfl⟩
    | succ k ih =>
      intro v x hk hv h
      rw [DN_succ] at h
      obtain ⟨u, t, c, hu, ht, hc, hn, e⟩ := (mem_nextN hv).1 (omax_none h)
      obtain ⟨s, cs, hs, hS, hl, hcs, hr⟩ := ih u t (by omega) hu ht
      refine ⟨s, cs ++ [c], hs, hS, by rw [List.length_append, hl]; rfl, fun d hd => ?_, ?_⟩
      · rcases List.mem_append.mp hd with hd | hd
        · exact hcs d hd
        · rw [List.mem_singleton.mp hd]; exact hc
      · rw [run_app, hr, run_one]
        show (nextAges ps u c, t + dayOutput ps u c) = (v, x)
        rw [hn, e]
  zero := fun s hs _ => ⟨0, DN_zero hs⟩
  step := fun k v x c hk hv h hc => by
    have hn := va_next (c := c) hv
    obtain ⟨m, h1, h2⟩ := omax_mem ((mem_nextN (k := k) (x := x + dayOutput ps v c) hn).2 ⟨v, x, c, hv, h, hc, rfl, rfl⟩)
    exact ⟨m, by rw [DN_succ]; exact h1, h2⟩
end Crewm
namespace Crewm
open Kqk6
/-! fractions -/
theorem rq_lt {x y : Int} {d e : Nat} (hd : 0 < d) (he : 0 < e) : mkRat x d < mkRat y e ↔ x * e < y * d := by
  have hd' : (0 : Rat) < (d : Rat) := Rat.natCast_pos.2 hd
  have he' : (0 : Rat) < (e : Rat) := Rat.natCast_pos.2 he
  have e1 : (y : Rat) / (e : Rat) * (d : Rat) = ((y : Rat) * (d : Rat)) / (e : Rat) := by
    rw [Rat.div_def, Rat.div_def, Rat.mul_assoc, Rat.mul_comm (e : Rat)⁻¹, ← Rat.mul_assoc]
  rw [Rat.mkRat_eq_div, Rat.mkRat_eq_div, Rat.div_lt_iff hd', e1, Rat.lt_div_iff he', ← Rat.intCast_natCast, ← Rat.intCast_natCast, ← Rat.intCast_mul, ← Rat.intCast_mul]
  exact Rat.intCast_lt_intCast
theorem rq_le {x y : Int} {d e : Nat} (hd : 0 < d) (he : 0 < e) : mkRat x d ≤ mkRat y e ↔ x * e ≤ y * d := by
  rw [← Rat.not_lt, rq_lt he hd]
  exact Int.not_lt
theorem mean_eq (x y n k : Nat) : (((x : Int) : Rat) - ((y : Int) : Rat)) / ((n - k : Nat) : Rat) = mkRat ((x : Int) - y) (n - k) := by
  rw [Rat.mkRat_eq_div, Rat.intCast_sub]
structure LeastQ (D : Nat → Option Nat) (n x : Nat) (i : Nat) (m : Rat) : Prop where
  at_ : ∃ k y, k < i ∧ D k = some y ∧ m = mkRat ((x : Int) - y) (n - k)
  le : ∀ k y, k < i → D k = some y → m ≤ mkRat ((x : Int) - y) (n - k)
theorem LeastQ.uniq {D : Nat → Option Nat} {n x i : Nat} {m m' : Rat} (h : LeastQ D n x i m) (h' : LeastQ D n x i m') : m = m' := by
  obtain ⟨k, y, hk, hy, e⟩ := h.at_
  obtain ⟨k', y', hk', hy', e'⟩ := h'.at_
  exact Rat.le_antisymm (e' ▸ h.le k' y' hk' hy') (e ▸ h'.le k y hk hy)
def stepS (D : Nat → Option Nat) (n x : Nat) (acc : Option Rat) (k : Nat) : Option Rat := match D k with
  | none => acc
  | some y =>
    let mean := ((x : Int) - (y : Int) : Rat) / ((n - k : Nat) : Rat)
    match acc with
    | none => some mean
    | some z => some (if mean < z then mean else z)
theorem leastS (D : Nat → Option Nat) (n x : Nat) : ∀ (i : Nat), (((List.range i).foldl (stepS D n x) none = none) ∧ ∀ k, k < i → D k = none) ∨ ∃ m, (List.range i).foldl (stepS D n x) none = some m ∧ LeastQ D n x i m
  | 0 => .inl ⟨rfl, fun k h => absurd h (Nat.not_lt_zero _)⟩
  | i + 1 => by
    rw [List.range_succ, List.foldl_append]
    have ih := leastS D n x i
    cases z : D i with
    | none =>
      have e : ∀ acc, stepS D n x acc i = acc := fun acc => by unfold stepS; rw [z]
      rw [List.foldl_cons, List.foldl_nil, e]
      rcases ih with ⟨h1, h2⟩ | ⟨m, h1, h2⟩
      · refine .inl ⟨h1, fun k hk => ?_⟩
        by_cases q : k = i
        · rw [q, z]
        · exact h2 k (by omega)
      · refine .inr ⟨m, h1, ⟨?_, fun k y hk hy => ?_⟩⟩
        · obtain ⟨k, y, hk, hy, e⟩ := h2.at_
          exact ⟨k, y, by omega, hy, e⟩
        · by_cases q : k = i
          · rw [q, z] at hy; cases hy
          · exact h2.le k y (by omega) hy
    | some y0 =>
      rcases ih with ⟨h1, h2⟩ | ⟨m, h1, h2⟩
      · refine .inr ⟨mkRat ((x : Int) - y0) (n - i), ?_, ⟨⟨i, y0, by omega, z, rfl⟩, fun k y hk hy => ?_⟩⟩
        · rw [h1, ← mean_eq, List.foldl_cons, List.foldl_nil]
          unfold stepS
          rw [z]
        · by_cases q : k = i
          · rw [q, z] at hy
            cases hy
            rw [q]
            exact Rat.le_refl
          · rw [h2 k (by omega)] at hy; cases hy
      · have e : stepS D n x (some m) i = some (if mkRat ((x : Int) - y0) (n - i) < m then mkRat ((x : Int) - y0) (n - i) else m) := by
          unfold stepS
          rw [z]
          dsimp only
          rw [mean_eq]
        rw [h1, List.foldl_cons, List.foldl_nil, e]
        by_cases c : mkRat ((x : Int) - y0) (n - i) < m
        · rw [if_pos c]
          refine .inr ⟨_, rfl, ⟨⟨i, y0, by omega, z, rfl⟩, fun k y hk hy => ?_⟩⟩
          by_cases q : k = i
          · rw [q, z] at hy
            cases hy
            rw [q]
            exact Rat.le_refl
          · exact Rat.le_trans (Rat.le_of_lt c) (h2.le k y (by omega) hy)
        · rw [if_neg c]
          refine .inr ⟨_, rfl, ⟨?_, fun k y hk hy => ?_⟩⟩
          · obtain ⟨k, y, hk, hy, e⟩ := h2.at_
            exact ⟨k, y, by omega, hy, e⟩
          · by_cases q : k = i
            · rw [q, z] at hy
              cases hy
              rw [q]
              exact Rat.not_lt.1 c
            · exact h2.le k y (by omega) hy
/-- the greatest of the least rises, or 0 -/
structure MaxQ (D : Nat → Nat → Option Nat) (n i : Nat) (b : Rat) : Prop where
  nn : 0 ≤ b
  at_ : b = 0 ∨ ∃ j x, j < i ∧ D n j = some x ∧ LeastQ (fun k => D k j) n x n b
  le : ∀ j x m, j < i → D n j = some x → LeastQ (fun k => D k j) n x n m → m ≤ b
theorem MaxQ.keep {D : Nat → Nat → Option Nat} {n i : Nat} {b : Rat} (h : MaxQ D n i b) (z : ∀ x m, D n i = some x → LeastQ (fun k => D k i) n x n m → m ≤ b) : MaxQ D n (i + 1) b where
  nn := h.nn
  at_ := by
    rcases h.at_ with q | ⟨j, x, hj, q⟩
    · exact .inl q
    · exact .inr ⟨j, x, by omega, q⟩
  le := fun j x m hj hx hm => by
    by_cases q : j = i
    · rw [q] at hx hm
      exact z x m hx hm
    · exact h.le j x m (by omega) hx hm
theorem MaxQ.more {D : Nat → Nat → Option Nat} {n i x : Nat} {b m : Rat} (h : MaxQ D n i b) (hx : D n i = some x) (hm : LeastQ (fun k => D k i) n x n m) (c : b < m) : MaxQ D n (i + 1) m where
  nn := Rat.le_trans h.nn (Rat.le_of_lt c)
  at_ := .inr ⟨i, x, Nat.lt_succ_self _, hx, hm⟩
  le := fun j x' m' hj hx' hm' => by
    by_cases q : j = i
    · rw [q] at hx' hm'
      rw [hx] at hx'
      cases hx'
      rw [hm.uniq hm']
      exact Rat.le_refl
    · exact Rat.le_trans (h.le j x' m' (by omega) hx' hm') (Rat.le_of_lt c)
theorem MaxQ.zero (D : Nat → Nat → Option Nat) (n : Nat) : MaxQ D n 0 0 := ⟨Rat.le_refl, .inl rfl, fun _ _ _ h => absurd h (Nat.not_lt_zero _)⟩
def stepB (D : Nat → Nat → Option Nat) (n : Nat) (best : Rat) (j : Nat) : Rat := match D n j with
    | none => best
    | some x => match (List.range n).foldl (stepS (fun k => D k j) n x) none with
      | none => best
      | some mean => if best < mean then mean else best
theorem bestS (D : Nat → Nat → Option Nat) (n : Nat) : ∀ (i : Nat), MaxQ D n i ((List.range i).foldl (stepB D n) 0)
  | 0 => MaxQ.zero D n
  | i + 1 => by
    rw [List.range_succ, List.foldl_append, List.foldl_cons, List.foldl_nil]
    have ih := bestS D n i
    have hl := fun x => leastS (fun k => D k i) n x n
    generalize (List.range i).foldl (stepB D n) 0 = b at ih
    unfold stepB
    cases z : D n i with
    | none => exact ih.keep fun x m hx _ => by rw [z] at hx; cases hx
    | some x =>
      dsimp only
      rcases hl x with ⟨h1, h2⟩ | ⟨m, h1, h2⟩
      · rw [h1]
        refine ih.keep fun x' m hx hm => ?_
        obtain ⟨k, y, hk, hy, _⟩ := hm.at_
        rw [h2 k hk] at hy
        cases hy
      · rw [h1]
        dsimp only
        by_cases c : b < m
        · rw [if_pos c]
          exact ih.more z h2 c
        · rw [if_neg c]
          refine ih.keep fun x' m' hx hm => ?_
          rw [z] at hx
          cases hx
          rw [hm.uniq h2]
          exact Rat.not_lt.1 c
theorem foldl_congr {α β : Type} {f g : β → α → β} : ∀ (l : List α) (b : β), (∀ b a, a ∈ l → f b a = g b a) → l.foldl f b = l.foldl g b
  | [], _, _ => rfl
  | a :: l, b, h => by
    rw [List.foldl_cons, List.foldl_cons, h b a (List.Mem.head _)]
    exact foldl_congr l _ fun b a ha => h b a (List.Mem.tail _ ha)
theorem mean_spec (ps : List (List Nat)) : MaxQ (fun k j => (rowS ps k).getD j none) (cntS ps) (cntS ps) (Kqk6.bestMean ps) := by
  have e : Kqk6.bestMean ps = (List.range (cntS ps)).foldl (stepB (fun k j => ((walkTotals ps (allStates ps) 0 (cntS ps)).getD k []).getD j none) (cntS ps)) 0 := by
    rw [← states_len ps]
    rfl
  have e2 : (List.range (cntS ps)).foldl (stepB (fun k j => ((walkTotals ps (allStates ps) 0 (cntS ps)).getD k []).getD j none) (cntS ps)) 0 = (List.range (cntS ps)).foldl (stepB (fun k j => (rowS ps k).getD j none) (cntS ps)) 0 := by
    rw [walk_rows]
    refine foldl_congr _ _ fun b j hj => ?_
    have g : ∀ k, k ≤ cntS ps → (((List.range (cntS ps + 1)).map (rowS ps)).getD k []).getD j none = (rowS ps k).getD j none := fun k hk => by rw [getD_map_range (by omega)]
    unfold stepB
    dsimp only
    rw [g _ (Nat.le_refl _)]
    cases (rowS ps (cntS ps)).getD j none with
    | none => rfl
    | some x =>
      dsimp only
      have e3 : (List.range (cntS ps)).foldl (stepS (fun k => (((List.range (cntS ps + 1)).map (rowS ps)).getD k []).getD j none) (cntS ps) x) none = (List.range (cntS ps)).foldl (stepS (fun k => (rowS ps k).getD j none) (cntS ps) x) none := by
        refine foldl_congr _ _ fun b k hk => ?_
        rw [List.mem_range] at hk
        unfold stepS
        dsimp only
        rw [g k (by omega)]
      rw [e3]
  rw [e, e2]
  exact bestS _ _ _
/-! the program's fractions -/
abbrev Fr := Int × Nat
def isLess (p q : Fr) : Bool := decide (p.1 * q.2 < q.1 * p.2)
def stepR (D : Nat → Option Nat) (n x : Nat) (f : Fr) (d : Nat) : Fr := match D d with
  | none => f
  | some y => if isLess ((x : Int) - y, n - d) f = true then ((x : Int) - y, n - d) else f
/-- behind i days of range(1, n) -/
def riseN (D : Nat → Option Nat) (n x i : Nat) : Fr := (List.range i).foldl (fun f t => stepR D n x f (1 + t)) ((x : Int), n)
def leastRise (D : Nat → Option Nat) (n x : Nat) : Fr := riseN D n x (n - 1)
theorem riseN_ok (D : Nat → Option Nat) {n x : Nat} (h0 : D 0 = some 0) (hn : 0 < n) : ∀ (i : Nat), i < n → (0 < (riseN D n x i).2 ∧ (riseN D n x i).2 ≤ n) ∧ LeastQ D n x (i + 1) (mkRat (riseN D n x i).1 (riseN D n x i).2)
  | 0, _ => by
    refine ⟨⟨hn, Nat.le_refl _⟩, ⟨⟨0, 0, Nat.one_pos, h0, ?_⟩, fun k y hk hy => ?_⟩⟩
    · show mkRat (x : Int) n = mkRat ((x : Int) - (0 : Nat)) (n - 0)
      simp
    · have e : k = 0 := by omega
      rw [e, h0] at hy
      cases hy
      rw [e]
      show mkRat (x : Int) n ≤ mkRat ((x : Int) - (0 : Nat)) (n - 0)
      simp
  | i + 1, hi => by
    obtain ⟨⟨p1, p2⟩, ih⟩ := riseN_ok D h0 hn i (by omega)
    have e : riseN D n x (i + 1) = stepR D n x (riseN D n x i) (1 + i) := by
      unfold riseN
      rw [List.range_succ, List.foldl_append, List.foldl_cons, List.foldl_nil]
    rw [e]
    generalize riseN D n x i = f at p1 p2 ih
    unfold stepR
    have e1 : 1 + i = i + 1 := Nat.add_comm _ _
    rw [e1]
    cases z : D (i + 1) with
    | none =>
      refine ⟨⟨p1, p2⟩, ⟨?_, fun k y hk hy => ?_⟩⟩
      · obtain ⟨k, y, hk, hy, e⟩ := ih.at_
        exact ⟨k, y, by omega, hy, e⟩
      · by_cases q : k = i + 1
        · rw [q, z] at hy; cases hy
        · exact ih.le k y (by omega) hy
    | some y0 =>
      dsimp only
      have hd : 0 < n - (i + 1) := by omega
      by_cases c : isLess ((x : Int) - y0, n - (i + 1)) f = true
      · rw [if_pos c]
        have c' := (rq_lt hd p1).2 (of_decide_eq_true c)
        refine ⟨⟨hd, Nat.sub_le _ _⟩, ⟨⟨i + 1, y0, by omega, z, rfl⟩, fun k y hk hy => ?_⟩⟩
        by_cases q : k = i + 1
        · rw [q, z] at hy
          cases hy
          rw [q]
          exact Rat.le_refl
        · exact Rat.le_trans (Rat.le_of_lt c') (ih.le k y (by omega) hy)
      · rw [if_neg c]
        have c' : ¬ mkRat ((x : Int) - y0) (n - (i + 1)) < mkRat f.1 f.2 := fun w => c (decide_eq_true ((rq_lt hd p1).1 w))
        refine ⟨⟨p1, p2⟩, ⟨?_, fun k y hk hy => ?_⟩⟩
        · obtain ⟨k, y, hk, hy, e⟩ := ih.at_
          exact ⟨k, y, by omega, hy, e⟩
        · by_cases q : k = i + 1
          · rw [q, z] at hy
            cases hy
            rw [q]
            exact Rat.not_lt.1 c'
          · exact ih.le k y (by omega) hy
theorem leastRise_ok (D : Nat → Option Nat) {n x : Nat} (h0 : D 0 = some 0) (hn : 0 < n) : (0 < (leastRise D n x).2 ∧ (leastRise D n x).2 ≤ n) ∧ LeastQ D n x n (mkRat (leastRise D n x).1 (leastRise D n x).2) := by
  have h := riseN_ok D (x := x) h0 hn (n - 1) (by omega)
  have e : n - 1 + 1 = n := by omega
  rw [e] at h
  exact h
def stepM (D : Nat → Nat → Option Nat) (n : Nat) (f : Fr) (j : Nat) : Fr := match D n j with
  | none => f
  | some x => if isLess f (leastRise (fun k => D k j) n x) = true then leastRise (fun k => D k j) n x else f
def bestN (D : Nat → Nat → Option Nat) (n i : Nat) : Fr := (List.range i).foldl (stepM D n) (0, 1)
theorem bestN_ok (D : Nat → Nat → Option Nat) {n : Nat} (h0 : ∀ j, j < n → D 0 j = some 0) : ∀ (i : Nat), i ≤ n → (0 < (bestN D n i).2 ∧ (bestN D n i).2 ≤ n + 1 ∧ 0 ≤ (bestN D n i).1) ∧ MaxQ D n i (mkRat (bestN D n i).1 (bestN D n i).2)
  | 0, _ => by
    refine ⟨⟨Nat.one_pos, by show 1 ≤ n + 1; omega, Int.le_refl _⟩, ?_⟩
    have e : mkRat (bestN D n 0).1 (bestN D n 0).2 = 0 := by
      show mkRat 0 1 = 0
      exact Rat.zero_mkRat 1
    rw [e]
    exact MaxQ.zero D n
  | i + 1, hi => by
    obtain ⟨⟨p1, p2, p3⟩, ih⟩ := bestN_ok D h0 i (by omega)
    have e : bestN D n (i + 1) = stepM D n (bestN D n i) i := by
      unfold bestN
      rw [List.range_succ, List.foldl_append, List.foldl_cons, List.foldl_nil]
    rw [e]
    generalize bestN D n i = f at p1 p2 p3 ih
    unfold stepM
    cases z : D n i with
    | none => exact ⟨⟨p1, p2, p3⟩, ih.keep fun x m hx _ => by rw [z] at hx; cases hx⟩
    | some x =>
      dsimp only
      obtain ⟨⟨l1, l2⟩, hl⟩ := leastRise_ok (fun k => D k i) (n := n) (x := x) (h0 i (by omega)) (by omega)
      generalize leastRise (fun k => D k i) n x = r at l1 l2 hl
      by_cases c : isLess f r = true
      · rw [if_pos c]
        have c1 : f.1 * (r.2 : Int) < r.1 * (f.2 : Int) := of_decide_eq_true c
        have c' : mkRat f.1 f.2 < mkRat r.1 r.2 := (rq_lt p1 l1).2 c1
        refine ⟨⟨l1, by omega, ?_⟩, ih.more z hl c'⟩
        have h2 : 0 ≤ f.1 * (r.2 : Int) := Int.mul_nonneg p3 (Int.natCast_nonneg _)
        have h3 : 0 < r.1 * (f.2 : Int) := Int.lt_of_le_of_lt h2 c1
        refine Int.not_lt.1 fun w => ?_
        have := Int.mul_nonpos_of_nonpos_of_nonneg (Int.le_of_lt w) (Int.natCast_nonneg f.2)
        omega
      · rw [if_neg c]
        refine ⟨⟨p1, p2, p3⟩, ih.keep fun x' m' hx hm => ?_⟩
        rw [z] at hx
        cases hx
        rw [hm.uniq hl]
        exact Rat.not_lt.1 fun w => c (decide_eq_true ((rq_lt p1 l1).1 w))
/-! both are the same -/
theorem low_of {ps : List (List Nat)} {E : Nat → Nat → Option Nat} {q : Rat} (h : MaxQ E (cntS ps) (cntS ps) q) : Low ps (fun k v => E k (plc ps v)) q.num q.den := by
  rcases h.at_ with e | ⟨j, x, hj, hx, hm⟩
  · left
    rw [e]
    rfl
  · right
    have hlt : j < (allStates ps).length := by rw [states_len]; exact hj
    have hu := states_of (ps := ps) (j := j) (List.getElem?_eq_getElem hlt)
    refine ⟨(allStates ps)[j], x, hu.1, by show E (cntS ps) (plc ps (allStates ps)[j]) = some x; rw [hu.2]; exact hx, fun k y hk hy => ?_⟩
    have hy : E k (plc ps (allStates ps)[j]) = some y := hy
    rw [hu.2] at hy
    have := hm.le k y hk hy
    rw [← Rat.mkRat_self q, rq_le q.den_pos (by omega)] at this
    exact this
theorem upp_of {ps : List (List Nat)} {S : List Nat → Prop} {E : Nat → Nat → Option Nat} {q : Rat} (K : Karp ps S (fun k v => E k (plc ps v))) (h : MaxQ E (cntS ps) (cntS ps) q) : Upp ps (fun k v => E k (plc ps v)) q.num q.den := by
  intro v x hv hx
  have ex : ∃ m, LeastQ (fun k => E k (plc ps v)) (cntS ps) x (cntS ps) m := by
    rcases leastS (fun k => E k (plc ps v)) (cntS ps) x (cntS ps) with ⟨_, h2⟩ | ⟨m, _, h2⟩
    · obtain ⟨u, cs, k, y, _, hne, _, _, hk, hy, _⟩ := K.round hv hx
      have : 0 < cs.length := List.length_pos_iff.mpr hne
      have h3 := h2 k (by omega)
      rw [h3] at hy
      cases hy
    · exact ⟨m, h2⟩
  obtain ⟨m, hm⟩ := ex
  have hle := h.le (plc ps v) x m (plc_lt hv) hx hm
  obtain ⟨k, y, hk, hy, e⟩ := hm.at_
  refine ⟨k, y, hk, hy, ?_⟩
  rw [e, ← Rat.mkRat_self q, rq_le (by omega) q.den_pos] at hle
  exact hle
theorem mean_same {ps : List (List Nat)} (ok : OkP ps) {q : Rat} (h : MaxQ (fun k j => (rowN (movesM ps) k).getD j none) (cntS ps) (cntS ps) q) : q = Kqk6.bestMean ps := by
  have hS := mean_spec ps
  have KS : Karp ps (fun s => plc ps s = 0) (fun k v => (rowS ps k).getD (plc ps v) none) := karpS ps
  have KN : Karp ps (fun _ => True) (fun k v => (rowN (movesM ps) k).getD (plc ps v) none) := karpN ps
  have p := cnt_pos ok
  have z := va_zero ok
  refine Rat.le_antisymm (Rat.le_iff _ _ |>.2 ?_) (Rat.le_iff _ _ |>.2 ?_)
  · refine karp_le KN KS (Rat.num_nonneg.2 hS.nn) (low_of h) (upp_of KS hS) fun u cs hu hne hc e => ?_
    obtain ⟨ds, h1, h2, h3⟩ := reach hu z hne hc e
    obtain ⟨y, hy, _⟩ := KS.from (cs := ds) z (plc_zero ps) (by omega) h2
    rw [h3] at hy
    exact ⟨ds.length, y, by omega, hy⟩
  · refine karp_le KS KN (Rat.num_nonneg.2 h.nn) (low_of hS) (upp_of KN h) fun u cs hu hne hc e => ?_
    obtain ⟨y, hy⟩ := KN.zero u hu trivial
    exact ⟨0, y, p, hy⟩
/-- best_mean's fraction, before it is in lowest terms -/
def meanM (ps : List (List Nat)) : Fr := bestN (fun k j => (rowN (movesM ps) k).getD j none) (cntS ps) (cntS ps)
theorem meanM_ok {ps : List (List Nat)} (ok : OkP ps) : (0 < (meanM ps).2 ∧ (meanM ps).2 ≤ cntS ps + 1 ∧ 0 ≤ (meanM ps).1) ∧ mkRat (meanM ps).1 (meanM ps).2 = Kqk6.bestMean ps := by
  have h := bestN_ok (fun k j => (rowN (movesM ps) k).getD j none) (n := cntS ps) (fun j hj => by
    show (rowN (movesM ps) 0).getD j none = some 0
    unfold rowN
    rw [List.getD_eq_getElem?_getD, List.getElem?_replicate, if_pos (by rw [moves_len]; exact hj)]
    rfl) (cntS ps) (Nat.le_refl _)
  exact ⟨h.1, mean_same ok h.2⟩
/-- lowest terms -/
theorem low_num {a : Nat} {b : Nat} (hb : 0 < b) : (mkRat (a : Int) b).num = ((a / Nat.gcd a b : Nat) : Int) ∧ (mkRat (a : Int) b).den = b / Nat.gcd a b := by
  rw [Rat.num_mkRat, Rat.den_mkRat, if_neg (by omega), if_neg (by omega)]
  constructor
  · show (a : Int) / ((Nat.gcd b a : Nat) : Int) = _
    rw [Nat.gcd_comm b a]
    rfl
  · show b / Nat.gcd b a = _
    rw [Nat.gcd_comm b a]
end Crewm
namespace Crewm
open Kqk6
/-! greatest totals -/
def bestOf (row : List (Nat × Nat)) (tot : List Nat) : Nat := row.foldl (fun f e => max f (e.2 + tot.getD e.1 0)) 0
def totN (mv : List (List (Nat × Nat))) : Nat → List Nat
  | 0 => List.replicate mv.length 0
  | d + 1 => mv.map fun row => bestOf row (totN mv d)
def moveRow (ps : List (List Nat)) (as : List Nat) : List (Nat × Nat) := (List.range (ps.length + 1)).map fun c => (plc ps (nextAges ps as c), dayOutput ps as c)
theorem bestOf_row (ps : List (List Nat)) (as : List Nat) (tot : List Nat) : bestOf (moveRow ps as) tot = ((List.range (ps.length + 1)).map fun c => dayOutput ps as c + tot.getD (plc ps (nextAges ps as c)) 0).foldl max 0 := by
  unfold bestOf moveRow
  rw [List.foldl_map, List.foldl_map]
theorem totN_eq (ps : List (List Nat)) : ∀ (d : Nat), totN (movesM ps) d = bestTotals ps (allStates ps) d
  | 0 => by
    show List.replicate (movesM ps).length 0 = (allStates ps).map fun _ => 0
    unfold movesM
    rw [List.length_map, List.map_const']
  | d + 1 => by
    have ih := totN_eq ps d
    show (movesM ps).map (fun row => bestOf row (totN (movesM ps) d)) = (allStates ps).map fun ages => ((List.range (ages.length + 1)).map fun c => dayOutput ps ages c + (bestTotals ps (allStates ps) d).getD ((allStates ps).findIdx fun v => v == nextAges ps ages c) 0).foldl max 0
    unfold movesM
    rw [List.map_map]
    refine List.map_congr_left fun as ha => ?_
    have hv := states_mem.1 ha
    show bestOf (moveRow ps as) _ = _
    rw [bestOf_row, ← ih, va_len hv]
    congr 1
    refine List.map_congr_left fun c _ => ?_
    rw [find_place (va_next hv)]
    rfl
theorem bestTotal_eq {ps : List (List Nat)} {as : List Nat} (hv : VA ps as) (d : Nat) : Kqk6.bestTotal ps as d = (totN (movesM ps) d).getD (plc ps as) 0 := by
  unfold Kqk6.bestTotal
  rw [find_place hv, totN_eq]
theorem totN_len (mv : List (List (Nat × Nat))) (d : Nat) : (totN mv d).length = mv.length := by
  cases d with
  | zero => exact List.length_replicate
  | succ d => exact List.length_map _
theorem bestTotal_succ {ps : List (List Nat)} {as : List Nat} (hv : VA ps as) (d : Nat) : Kqk6.bestTotal ps as (d + 1) = bestOf (moveRow ps as) (totN (movesM ps) d) := by
  rw [bestTotal_eq hv]
  show ((movesM ps).map fun row => bestOf row (totN (movesM ps) d)).getD (plc ps as) 0 = _
  rw [List.getD_eq_getElem?_getD, List.getElem?_map]
  have e : (movesM ps)[plc ps as]? = some (moveRow ps as) := by
    unfold movesM
    rw [List.getElem?_map, states_at hv]
    rfl
  rw [e]
  rfl
theorem max_le : ∀ (l : List Nat) (a x : Nat), (x = a ∨ x ∈ l) → x ≤ l.foldl max a
  | [], a, x, h => by
    rcases h with h | h
    · exact Nat.le_of_eq h
    · cases h
  | b :: l, a, x, h => by
    rw [List.foldl_cons]
    rcases h with h | h
    · exact Nat.le_trans (by omega) (max_le l (max a b) (max a b) (.inl rfl))
    · cases h with
      | head => exact Nat.le_trans (Nat.le_max_right a b) (max_le l (max a b) (max a b) (.inl rfl))
      | tail _ h => exact max_le l (max a b) x (.inr h)
theorem max_mem : ∀ (l : List Nat) (a : Nat), l.foldl max a = a ∨ l.foldl max a ∈ l
  | [], _ => .inl rfl
  | b :: l, a => by
    rw [List.foldl_cons]
    rcases max_mem l (max a b) with h | h
    · rw [h]
      by_cases c : b ≤ a
      · left; omega
      · right
        have : max a b = b := by omega
        rw [this]
        exact List.Mem.head _
    · exact .inr (List.Mem.tail _ h)
theorem max_in {l : List Nat} (h : l ≠ []) : l.foldl max 0 ∈ l := by
  rcases max_mem l 0 with e | e
  · obtain ⟨x, r, rfl⟩ := List.exists_cons_of_ne_nil h
    have := max_le (x :: r) 0 x (.inr (List.Mem.head _))
    have e2 : x = 0 := by omega
    rw [e, ← e2]
    exact List.Mem.head _
  · exact e
/-- what a first choice is worth -/
def worth (ps : List (List Nat)) (as : List Nat) (d c : Nat) : Nat := dayOutput ps as c + (totN (movesM ps) d).getD (plc ps (nextAges ps as c)) 0
theorem worth_max {ps : List (List Nat)} {as : List Nat} (d : Nat) : bestOf (moveRow ps as) (totN (movesM ps) d) = ((List.range (ps.length + 1)).map (worth ps as d)).foldl max 0 := bestOf_row ps as _
def choiceS (ps : List (List Nat)) (as : List Nat) (k : Nat) : Nat := ((List.range (as.length + 1)).map fun c => dayOutput ps as c + Kqk6.bestTotal ps (nextAges ps as c) (k - 1)).findIdx fun x => x == Kqk6.bestTotal ps as k
theorem choice_list {ps : List (List Nat)} {as : List Nat} (hv : VA ps as) (d : Nat) : ((List.range (as.length + 1)).map fun c => dayOutput ps as c + Kqk6.bestTotal ps (nextAges ps as c) (d + 1 - 1)) = (List.range (ps.length + 1)).map (worth ps as d) := by
  rw [va_len hv]
  refine List.map_congr_left fun c _ => ?_
  rw [bestTotal_eq (va_next hv)]
  rfl
theorem choice_at {ps : List (List Nat)} {as : List Nat} (hv : VA ps as) {d c : Nat} (hc : c < ps.length + 1) (e : worth ps as d c = bestOf (moveRow ps as) (totN (movesM ps) d)) (ne : ∀ j, j < c → worth ps as d j ≠ bestOf (moveRow ps as) (totN (movesM ps) d)) : choiceS ps as (d + 1) = c := by
  unfold choiceS
  rw [choice_list hv, bestTotal_succ hv]
  have hl : c < ((List.range (ps.length + 1)).map (worth ps as d)).length := by rw [List.length_map, List.length_range]; exact hc
  refine (List.findIdx_eq hl).2 ⟨?_, fun j hj => ?_⟩
  · rw [List.getElem_map, List.getElem_range, e]
    simp
  · rw [List.getElem_map, List.getElem_range]
    have := ne j hj
    simpa using this
theorem choice_some {ps : List (List Nat)} {as : List Nat} (d : Nat) : ∃ c, c < ps.length + 1 ∧ worth ps as d c = bestOf (moveRow ps as) (totN (movesM ps) d) := by
  have h := max_in (l := (List.range (ps.length + 1)).map (worth ps as d)) (by simp)
  rw [← worth_max] at h
  obtain ⟨c, hc, e⟩ := List.mem_map.mp h
  rw [List.mem_range] at hc
  exact ⟨c, hc, e⟩
/-! bounds -/
def holdsAt (mv : List (List (Nat × Nat))) (pots : List Int) (a : Int) (b i : Nat) : Bool := (mv.getD i []).all fun e => decide (((e.2 : Int) + pots.getD e.1 0 - pots.getD i 0) * (b : Int) ≤ a)
def provM (mv : List (List (Nat × Nat))) (pots : List Int) (a : Int) (b : Nat) : Bool := (List.range mv.length).all (holdsAt mv pots a b)
theorem zip_all {α β : Type} {f : α × β → Bool} {d : β} {d' : α} : ∀ (l : List α) (r : List β), r.length = l.length → (List.zip l r).all f = (List.range l.length).all fun i => f (l.getD i d', r.getD i d)
  | [], [], _ => rfl
  | x :: l, y :: r, h => by
    rw [List.zip_cons_cons, List.all_cons, zip_all (d := d) (d' := d') l r (by simpa using h), List.length_cons, List.range_succ_eq_map, List.all_cons, List.all_map]
    rfl
  | [], _ :: _, h => by simp at h
  | _ :: _, [], h => by simp at h
theorem prov_eq {ps : List (List Nat)} {pots : List Int} (hl : pots.length = cntS ps) (a : Int) (b : Nat) : Kqk6.provesBound ps pots a b = provM (movesM ps) pots a b := by
  have e : Kqk6.provesBound ps pots a b = (pots.length == (allStates ps).length && (List.zip (allStates ps) pots).all fun p => (List.range (p.1.length + 1)).all fun c => decide (((dayOutput ps p.1 c : Int) + pots.getD ((allStates ps).findIdx fun u => u == nextAges ps p.1 c) 0 - p.2) * (b : Int) ≤ a)) := rfl
  have hl2 : (pots.length == (allStates ps).length) = true := by rw [states_len, hl]; simp
  rw [e, hl2, Bool.true_and, zip_all (d := (0 : Int)) (d' := ([] : List Nat)) _ _ (by rw [states_len, hl])]
  unfold provM
  rw [moves_len, states_len]
  rw [Bool.eq_iff_iff, List.all_eq_true, List.all_eq_true]
  refine ⟨fun h i hi => ?_, fun h i hi => ?_⟩
  all_goals
    have hi' := hi
    rw [List.mem_range] at hi'
    have hlt : i < (allStates ps).length := by rw [states_len]; exact hi'
    have hu := states_of (ps := ps) (j := i) (List.getElem?_eq_getElem hlt)
    have hg : (allStates ps).getD i [] = (allStates ps)[i] := by rw [List.getD_eq_getElem?_getD, List.getElem?_eq_getElem hlt]; rfl
    have hm : (movesM ps).getD i [] = (List.range (ps.length + 1)).map fun c => (plc ps (nextAges ps (allStates ps)[i] c), dayOutput ps (allStates ps)[i] c) := by
      have := moves_at hu.1
      rw [hu.2] at this
      exact this
    have q := h i hi
    unfold holdsAt at *
    dsimp only at *
    rw [hg, va_len hu.1] at *
    rw [hm, List.all_map] at *
    rw [List.all_eq_true] at q ⊢
    intro c hc
    have q2 := q c hc
    have ef := find_place (va_next (c := c) hu.1)
    first
      | (rw [ef] at q2; exact q2)
      | (rw [ef]; exact q2)
end Crewm
namespace Crewm
/-! the calls in one list -/
def numbersL : List Int := [0, 0, 1, 1, 0, 0, 1, 1, 1, 0, 0, 0, 2, 2, 1, 0, 0, 0, 0, 0]
def listsL : List Int := [1, 4, 10, 11, 12]
theorem shape_cases {p : Int} {n k : Nat} (h : PyKqk6.shape p = some (n, k)) : ∃ i : Nat, p = (i : Int) ∧ i < 20 ∧ numbersL[i]? = some (n : Int) ∧ k = (if (i : Int) ∈ listsL then 1 else 0) := by
  have hr : 0 ≤ p ∧ p ≤ 19 := by
    by_cases q : 0 ≤ p ∧ p ≤ 19
    · exact q
    exfalso
    unfold PyKqk6.shape at h
    rw [if_neg (show ¬ p = 0 by omega)] at h
    rw [if_neg (show ¬ p = 1 by omega)] at h
    rw [if_neg (show ¬ p = 2 by omega)] at h
    rw [if_neg (show ¬ p = 3 by omega)] at h
    rw [if_neg (show ¬ p = 4 by omega)] at h
    rw [if_neg (show ¬ p = 5 by omega)] at h
    rw [if_neg (show ¬ p = 6 by omega)] at h
    rw [if_neg (show ¬ p = 7 by omega)] at h
    rw [if_neg (show ¬ p = 8 by omega)] at h
    rw [if_neg (show ¬ p = 9 by omega)] at h
    rw [if_neg (show ¬ p = 10 by omega)] at h
    rw [if_neg (show ¬ p = 11 by omega)] at h
    rw [if_neg (show ¬ p = 12 by omega)] at h
    rw [if_neg (show ¬ p = 13 by omega)] at h
    rw [if_neg (show ¬ p = 14 by omega)] at h
    rw [if_neg (show ¬ p = 15 by omega)] at h
    rw [if_neg (show ¬ p = 16 by omega)] at h
    rw [if_neg (show ¬ p = 17 by omega)] at h
    rw [if_neg (show ¬ p = 18 by omega)] at h
    rw [if_neg (show ¬ p = 19 by omega)] at h
    cases h
  obtain ⟨i, rfl⟩ := Int.eq_ofNat_of_zero_le hr.1
  have hi : i < 20 := by omega
  refine ⟨i, rfl, hi, ?_⟩
  have : i = 0 ∨ i = 1 ∨ i = 2 ∨ i = 3 ∨ i = 4 ∨ i = 5 ∨ i = 6 ∨ i = 7 ∨ i = 8 ∨ i = 9 ∨ i = 10 ∨ i = 11 ∨ i = 12 ∨ i = 13 ∨ i = 14 ∨ i = 15 ∨ i = 16 ∨ i = 17 ∨ i = 18 ∨ i = 19 := by omega
  rcases this with rfl | rfl | rfl | rfl | rfl | rfl | rfl | rfl | rfl | rfl | rfl | rfl | rfl | rfl | rfl | rfl | rfl | rfl | rfl | rfl
  all_goals
    have e := Prod.mk.inj (Option.some.inj h)
    obtain ⟨e1, e2⟩ := e
    subst e1 e2
    exact ⟨rfl, by decide⟩
/-- one call ahead of the rest -/
inductive Cut (p : Int) (r : List Int) : List (List Int) → List Int → List Int → Nat → Nat → Prop
  | plain {n : Nat} : PyKqk6.shape p = some (n, 0) → n ≤ r.length → Cut p r [p :: r.take n] (r.take n) (r.drop n) n 0
  | more {n : Nat} {m : Nat} {r' : List Int} : PyKqk6.shape p = some (n, 1) → n ≤ r.length → r.drop n = (m : Int) :: r' → m ≤ r'.length → Cut p r [p :: r.take n, r'.take m] (r.take n ++ r'.take m) (r'.drop m) n (m + 1)
theorem call_cut {p : Int} {r : List Int} {c : List (List Int)} {t : List Int} (h : PyFlat.call PyKqk6.shape (p :: r) = some (c, t)) : ∃ given n m, Cut p r c given t n m := by
  have h' : (match PyKqk6.shape p with
    | none => none
    | some (n, k) => if r.length < n then none else match PyFlat.rows k (r.drop n) with
      | none => none
      | some (xs, t) => some ((p :: r.take n) :: xs, t)) = some (c, t) := h
  cases hs : PyKqk6.shape p with
  | none => rw [hs] at h'; cases h'
  | some nk =>
    obtain ⟨n, k⟩ := nk
    rw [hs] at h'
    dsimp only at h'
    by_cases hl : r.length < n
    · rw [if_pos hl] at h'; cases h'
    · rw [if_neg hl] at h'
      obtain ⟨i, _, _, _, hk⟩ := shape_cases hs
      have hk2 : k = 0 ∨ k = 1 := by
        rw [hk]
        split
        · exact .inr rfl
        · exact .inl rfl
      rcases hk2 with rfl | rfl
      · have h2 : some ([p :: r.take n], r.drop n) = some (c, t) := h'
        obtain ⟨e1, e2⟩ := Prod.mk.inj (Option.some.inj h2)
        subst e1 e2
        exact ⟨_, _, _, .plain hs (by omega)⟩
      · cases hd : r.drop n with
        | nil =>
          rw [hd] at h'
          cases h'
        | cons z r' =>
          rw [hd] at h'
          by_cases hz : 0 ≤ z ∧ z.toNat ≤ r'.length
          · have h2 : (match (match (if 0 ≤ z ∧ z.toNat ≤ r'.length then some (r'.take z.toNat, r'.drop z.toNat) else none) with
                | none => none
                | some (x, s) => match (some ([], s) : Option (List (List Int) × List Int)) with
                  | none => none
                  | some (xs, t) => some (x :: xs, t)) with
              | none => none
              | some (xs, t) => some ((p :: r.take n) :: xs, t)) = some (c, t) := h'
            rw [if_pos hz] at h2
            have h3 : some ([p :: r.take n, r'.take z.toNat], r'.drop z.toNat) = some (c, t) := h2
            obtain ⟨e1, e2⟩ := Prod.mk.inj (Option.some.inj h3)
            subst e1 e2
            have ez : z = ((z.toNat : Nat) : Int) := by omega
            exact ⟨_, _, _, .more hs (by omega) (by rw [hd, ← ez]) hz.2⟩
          · have h2 : (match (match (if 0 ≤ z ∧ z.toNat ≤ r'.length then some (r'.take z.toNat, r'.drop z.toNat) else none) with
                | none => none
                | some (x, s) => match (some ([], s) : Option (List (List Int) × List Int)) with
                  | none => none
                  | some (xs, t) => some (x :: xs, t)) with
              | none => none
              | some (xs, t) => some ((p :: r.take n) :: xs, t)) = some (c, t) := h'
            rw [if_neg hz] at h2
            cases h2
theorem calls_cons {f : Nat} {p : Int} {r : List Int} {cs : List (List (List Int))} (h : PyFlat.calls PyKqk6.shape f (p :: r) = some cs) : ∃ f' c t cs', cs = c :: cs' ∧ PyFlat.call PyKqk6.shape (p :: r) = some (c, t) ∧ PyFlat.calls PyKqk6.shape f' t = some cs' := by
  cases f with
  | zero => cases h
  | succ f =>
    have h' : (match PyFlat.call PyKqk6.shape (p :: r) with
      | none => none
      | some (c, t) => match PyFlat.calls PyKqk6.shape f t with
        | none => none
        | some cs => some (c :: cs)) = some cs := h
    cases hc : PyFlat.call PyKqk6.shape (p :: r) with
    | none => rw [hc] at h'; cases h'
    | some ct =>
      obtain ⟨c, t⟩ := ct
      rw [hc] at h'
      dsimp only at h'
      cases hr : PyFlat.calls PyKqk6.shape f t with
      | none => rw [hr] at h'; cases h'
      | some cs' =>
        rw [hr] at h'
        have e : c :: cs' = cs := Option.some.inj h'
        exact ⟨f, c, t, cs', e.symm, rfl, hr⟩
theorem calls_nil {f : Nat} {cs : List (List (List Int))} (h : PyFlat.calls PyKqk6.shape f [] = some cs) : cs = [] := by
  cases f <;> exact (Option.some.inj h).symm
end Crewm
namespace Pc
open PySem PySem.Spec PyProof.Rows L2
/-- the i-th statement of the program -/
def top (i : Nat) : Stmt := PySem.Challenge.pw_pipecrew_s01_answers.main.body.getD i (.Pass ⟨0, 0, 0, 0⟩)
/-! ### a def of the text; a def that keeps its promise -/
structure Dn (K : PySem.W.Frag) (mg : Str → Option Value) (x : Str) (st : Stmt) (ps : List Str) : Prop where
  ex : ∃ (f : Addr) (fd : FuncData), mg x = some (.ref f) ∧ Fun K x x st f fd ∧ Binds K fd ps []
structure Cal (P : Program) (w : World) (K : PySem.W.Frag) (mg : Str → Option Value) (base : Heap) (CX : CXT) (k : Nat) (x : Str) (ps : List Str) (sp : Sp) : Prop where
  ex : ∃ (f : Addr) (fd : FuncData), mg x = some (.ref f) ∧ FnOk P w K mg base CX k f fd ps sp ∧ PySem.W.keepIn K (.ref f) = true ∧ Binds K fd ps []
section
variable {P : Program} {w : World} {K : PySem.W.Frag} {mg : Str → Option Value} {base : Heap}
theorem Dn.ok {x : Str} {st : Stmt} {N ps : List Str} {k : Nat} {sp : Sp} (F : Dn K mg x st ps) (S : FnScope N ps (defScope st)) (len : ∀ vs H Q E, sp vs H Q E → vs.length = ps.length)
    (hbody : ∀ (f : Addr) (cdv : Value) (A : Around) (outer : List Env) (s : Shared) (H : Hp) (vs : List V) (Q : VK) (E : XK), Room k (A.deeper (envOfC x (defScope st) s.heap.objs.size f cdv)) → sp vs H Q E →
      ∃ t, PSs (cxOf CX0 P w K mg base N x (defScope st) f cdv A outer s H E).nox (defBody st) t ∧ t { nx := fun _ H' => Q .non H', rt := Q } (start N vs) H) : Cal P w K mg base CX0 (k + 1) x ps sp := by
  obtain ⟨f, fd, h1, h2, h3⟩ := F.ex
  exact ⟨f, fd, h1, h2.ok S len (hbody f), h2.kp, h3⟩
theorem Dn.okX {x : Str} {st : Stmt} {N ps : List Str} {k : Nat} {sp : Sp} (F : Dn K mg x st ps) (S : FnScope N ps (defScope st)) (len : ∀ vs H Q E, sp vs H Q E → vs.length = ps.length)
    (hbody : ∀ (f : Addr) (cdv : Value) (A : Around) (outer : List Env) (s : Shared) (H : Hp) (vs : List V) (Q : VK) (E : XK), Room k (A.deeper (envOfC x (defScope st) s.heap.objs.size f cdv)) → sp vs H Q E →
      ∃ t, PSs (cxOf (L2.CX P w) P w K mg base N x (defScope st) f cdv A outer s H E) (defBody st) t ∧ t { nx := fun _ H' => Q .non H', rt := Q } (start N vs) H) : Cal P w K mg base (L2.CX P w) (k + 1) x ps sp := by
  obtain ⟨f, fd, h1, h2, h3⟩ := F.ex
  exact ⟨f, fd, h1, h2.okX S len (hbody f), h2.kp, h3⟩
theorem Cal.mono {CX : CXT} {x : Str} {ps : List Str} {j k : Nat} {sp : Sp} (C : Cal P w K mg base CX j x ps sp) (h : j ≤ k) : Cal P w K mg base CX k x ps sp := by
  obtain ⟨f, fd, h1, h2, h3, h4⟩ := C.ex
  exact ⟨f, fd, h1, h2.mono h, h3, h4⟩
end
/-- the call of a def by its name -/
theorem pe_cal {X : Cx} {CX : CXT} {k : Nat} {x : Str} {ps : List Str} {sp : Sp} {E : L2.St → XK} {p pos : Pos} {e : Expr} {es : List Expr} {t : TA} (C : Cal X.prog X.w X.K X.mg X.base CX k x ps sp) (hr : Room k X.A) (hx : ∀ σ, PassesAt CX X σ (E σ)) (ha : PA X (e :: es) t)
    (hg : Gl X x := by rfl) (hdb : (x == ("__debug__" : Str)) = false := by decide) (he : starEach (e :: es) X.env = (false, eval e X.env) :: starEach es X.env := by rfl) (hpl : (backTo pos (starEach es X.env)).any (·.1) = false := by rfl) :
    PE X (.Call (.Name x p) (e :: es) [] pos) (tCallS sp E t) := by
  obtain ⟨f, fd, h1, h2, h3, h4⟩ := C.ex
  exact pe_callS h2 hr hg h1 h3 h4 hx ha hdb he hpl
theorem pass1 {X : Cx} {E : L2.St → XK} : ∀ σ, PassesAt CX0 X σ (E σ) := fun _ _ _ _ _ _ _ h => h.elim
abbrev E1 : L2.St → XK := fun _ _ _ _ => False
/-! ### the heap -/
/-- alike, item by item -/
def Al {α β : Type} (R : α → β → Prop) (as : List α) (xs : List β) : Prop := as.length = xs.length ∧ ∀ (i : Nat) (b : α) (x : β), as[i]? = some b → xs[i]? = some x → R b x
theorem Al.nil {α β : Type} {R : α → β → Prop} : Al R [] [] := ⟨rfl, fun i b x h => by simp at h⟩
theorem Al.get {α β : Type} {R : α → β → Prop} {as : List α} {xs : List β} (h : Al R as xs) {i : Nat} {x : β} (e : xs[i]? = some x) : ∃ b, as[i]? = some b ∧ R b x := by
  have hi : i < as.length := by rw [h.1]; exact (List.getElem?_eq_some_iff.mp e).1
  exact ⟨as[i], List.getElem?_eq_getElem hi, h.2 i _ x (List.getElem?_eq_getElem hi) e⟩
theorem Al.of {α β : Type} {R : α → β → Prop} {as : List α} {xs : List β} (h : Al R as xs) {i : Nat} {b : α} (e : as[i]? = some b) : ∃ x, xs[i]? = some x ∧ R b x := by
  have hi : i < xs.length := by rw [← h.1]; exact (List.getElem?_eq_some_iff.mp e).1
  exact ⟨xs[i], List.getElem?_eq_getElem hi, h.2 i b _ e (List.getElem?_eq_getElem hi)⟩
theorem Al.mono {α β : Type} {R S : α → β → Prop} {as : List α} {xs : List β} (h : Al R as xs) (q : ∀ b x, R b x → S b x) : Al S as xs := ⟨h.1, fun i b x e1 e2 => q b x (h.2 i b x e1 e2)⟩
theorem Al.snoc {α β : Type} {R : α → β → Prop} {as : List α} {xs : List β} {b : α} {x : β} (h : Al R as xs) (r : R b x) : Al R (as ++ [b]) (xs ++ [x]) := by
  refine ⟨by rw [List.length_append, List.length_append, h.1]; rfl, fun i c y e1 e2 => ?_⟩
  by_cases hi : i < as.length
  · rw [List.getElem?_append_left hi] at e1
    rw [List.getElem?_append_left (by rw [← h.1]; exact hi)] at e2
    exact h.2 i c y e1 e2
  · have hl : i = as.length := by
      have := (List.getElem?_eq_some_iff.mp e1).1
      rw [List.length_append] at this
      simp at this
      omega
    subst hl
    rw [List.getElem?_append_right (Nat.le_refl _), Nat.sub_self] at e1
    rw [h.1, List.getElem?_append_right (Nat.le_refl _), Nat.sub_self] at e2
    cases e1
    cases e2
    exact r
theorem Same.tup {K : PySem.W.Frag} {H H' : Hp} {a : Addr} {xs : List V} (e : Same H H') (h : SqT K H a xs) : SqT K H' a xs := by
  rcases h with (h | ⟨o, h⟩) | h
  · exact .inl (.inl (e _ _ h))
  · exact .inl (.inr ⟨o, e _ _ h⟩)
  · exact .inr h
theorem same_upd {H : Hp} {p : Addr} {o : HO} (h : H p = none) : Same H (upd H p o) := fun b u e => by
  rw [upd_ne (ne_of_none e h)]
  exact e
theorem same_upd2 {H H' : Hp} {p : Addr} {o : HO} (h : H p = none) (s : Same H H') : Same H (upd H' p o) := fun b u e => by
  rw [upd_ne (ne_of_none e h)]
  exact s b u e
abbrev iv (n : Nat) : V := .int (n : Int)
def NatsL (K : PySem.W.Frag) (H : Hp) (a : Addr) (l : List Nat) : Prop := SqL K H a (l.map iv)
def IntsL (K : PySem.W.Frag) (H : Hp) (a : Addr) (l : List Int) : Prop := SqL K H a (l.map V.int)
def oV : Option Nat → V
  | none => .non
  | some n => iv n
def OptsL (K : PySem.W.Frag) (H : Hp) (a : Addr) (l : List (Option Nat)) : Prop := SqL K H a (l.map oV)
def NestL {β : Type} (K : PySem.W.Frag) (H : Hp) (R : Addr → β → Prop) (a : Addr) (xs : List β) : Prop := ∃ as : List Addr, SqL K H a (as.map V.ref) ∧ Al R as xs
def PipesL (K : PySem.W.Frag) (H : Hp) (a : Addr) (ps : List (List Nat)) : Prop := NestL K H (NatsL K H) a ps
def PairT (K : PySem.W.Frag) (H : Hp) (t : Addr) (e : Nat × Nat) : Prop := SqT K H t [iv e.1, iv e.2]
def MovesL (K : PySem.W.Frag) (H : Hp) (a : Addr) (mv : List (List (Nat × Nat))) : Prop := NestL K H (NestL K H (PairT K H)) a mv
def RowsL (K : PySem.W.Frag) (H : Hp) (a : Addr) (rows : List (List (Option Nat))) : Prop := NestL K H (OptsL K H) a rows
section
variable {K : PySem.W.Frag} {H H' : Hp} {a : Addr}
theorem NatsL.same {l : List Nat} (h : NatsL K H a l) (s : Same H H') : NatsL K H' a l := s.seq h
theorem IntsL.same {l : List Int} (h : IntsL K H a l) (s : Same H H') : IntsL K H' a l := s.seq h
theorem OptsL.same {l : List (Option Nat)} (h : OptsL K H a l) (s : Same H H') : OptsL K H' a l := s.seq h
theorem NestL.same {β : Type} {R R' : Addr → β → Prop} {xs : List β} (h : NestL K H R a xs) (s : Same H H') (q : ∀ b x, R b x → R' b x) : NestL K H' R' a xs := by
  obtain ⟨as, h1, h2⟩ := h
  exact ⟨as, s.seq h1, h2.mono q⟩
theorem PipesL.same {ps : List (List Nat)} (h : PipesL K H a ps) (s : Same H H') : PipesL K H' a ps := NestL.same h s fun _ _ q => NatsL.same q s
theorem PairT.same {e : Nat × Nat} (h : PairT K H a e) (s : Same H H') : PairT K H' a e := Same.tup s h
theorem MovesL.same {mv : List (List (Nat × Nat))} (h : MovesL K H a mv) (s : Same H H') : MovesL K H' a mv := NestL.same h s fun _ _ q => NestL.same q s fun _ _ z => PairT.same z s
theorem RowsL.same {rows : List (List (Option Nat))} (h : RowsL K H a rows) (s : Same H H') : RowsL K H' a rows := NestL.same h s fun _ _ q => OptsL.same q s
theorem at_map {α : Type} {f : α → V} {l : List α} {i : Nat} {x : α} (h : l[i]? = some x) : atI (l.map f) (i : Int) = some (f x) := atI_nat (by rw [List.getElem?_map, h]; rfl)
theorem at_nat {l : List Nat} {i : Nat} (h : i < l.length) : atI (l.map iv) (i : Int) = some (iv (l.getD i 0)) := at_map (by rw [List.getD_eq_getElem?_getD, List.getElem?_eq_getElem h]; rfl)
end
theorem set_slot {σ : L2.St} {i : Nat} {v : V} (h : i < σ.length) : (σ.set i (some v))[i]? = some (some v) := List.getElem?_set_self h
/-- the names that stand for built-ins -/
structure Blt (mg : Str → Option Value) : Prop where
  len : mg "len" = none
  range : mg "range" = none
  min : mg "min" = none
  max : mg "max" = none
  list : mg "list" = none
  sum : mg "sum" = none
  int : mg "int" = none
/-! ### tests -/
theorem ifB {b : Bool} {A B : Prop} (h1 : b = true → A) (h2 : b = false → B) : if b = true then A else B := by
  cases b with
  | true => exact iteT (h1 rfl)
  | false => exact iteF (h2 rfl)
theorem neB {x y : Int} (h : (!decide (V.int x = V.int y)) = true) : x ≠ y := fun e => by
  subst e
  simp at h
theorem neB0 {x y : Int} (h : (!decide (V.int x = V.int y)) = false) : x = y := by
  simp at h
  exact h
theorem eqB {x y : Int} (h : decide (V.int x = V.int y) = true) : x = y := by
  simp at h
  exact h
theorem eqB0 {x y : Int} (h : decide (V.int x = V.int y) = false) : x ≠ y := fun e => by
  subst e
  simp at h
theorem decT {p : Prop} [Decidable p] (h : decide p = true) : p := of_decide_eq_true h
theorem decF {p : Prop} [Decidable p] (h : decide p = false) : ¬ p := of_decide_eq_false h
theorem for_r0 {n : Nat} {g : TG} {tb : TS} {D : Ends} {σ : L2.St} {H : Hp} (Pv : Nat → L2.St → Hp → Prop) (h0 : Pv 0 σ H)
    (hs : ∀ i σ H, i < n → Pv i σ H → g (iv i) σ H fun σ2 H2 => tb { D with nx := Pv (i + 1), ct := Pv (i + 1), bk := D.nx } σ2 H2) (hd : ∀ σ H, Pv n σ H → D.nx σ H) :
    ∃ W : Nat → Nat → L2.St → Hp → Prop, (∃ m, W 0 m σ H) ∧ ∀ i m σ H, W i m σ H →
      ((Itr 0 n).stop i H ∧ D.nx σ H) ∨ ((Itr 0 n).go i H ∧ ∃ N : L2.St → Hp → Prop, (∀ σ' H', N σ' H' → ∃ m', m' < m ∧ W (i + 1) m' σ' H') ∧ ∀ x H', (Itr 0 n).yld i H x H' → g x σ H' fun σ2 H2 => tb { D with nx := N, ct := N, bk := D.nx } σ2 H2) :=
  for_range (lo := 0) Pv h0 (fun i σ H hi p => by rw [Int.zero_add]; exact hs i σ H hi p) hd
theorem lt62 {n : Nat} (h : n ≤ 20000000) : -(2 ^ 62) ≤ (n : Int) ∧ (n : Int) < 2 ^ 62 := by omega
/-! ### pipes as add_pipe lets them in -/
structure Good (ps : List (List Nat)) : Prop where
  n : ps.length ≤ 3
  len : ∀ l, l ∈ ps → 1 ≤ l.length ∧ l.length ≤ 4
  dec : ∀ l, l ∈ ps → Kqk6.isNonincreasing l = true
  most : ∀ l, l ∈ ps → ∀ x, x ∈ l → x ≤ 100
theorem Good.ok {ps : List (List Nat)} (g : Good ps) : Crewm.OkP ps := fun l h => (g.len l h).1
theorem Good.at_ {ps : List (List Nat)} (g : Good ps) {i : Nat} (h : i < ps.length) : 1 ≤ (ps.getD i []).length ∧ (ps.getD i []).length ≤ 4 := by
  rw [List.getD_eq_getElem?_getD, List.getElem?_eq_getElem h]
  exact g.len _ (List.getElem_mem h)
theorem cnt_le {n : Nat} : ∀ {ps : List (List Nat)}, ps.length ≤ n → (∀ l, l ∈ ps → 1 ≤ l.length ∧ l.length ≤ 4) → Crewm.cntS ps ≤ 4 ^ n
  | [], _, _ => Nat.one_le_pow _ _ (by omega)
  | l :: r, h, g => by
    cases n with
    | zero => simp at h
    | succ n =>
      have ih := cnt_le (n := n) (ps := r) (by simpa using h) fun x hx => g x (List.Mem.tail _ hx)
      show l.length * Crewm.cntS r ≤ 4 ^ (n + 1)
      rw [Nat.pow_succ, Nat.mul_comm]
      exact Nat.mul_le_mul ih (g l (List.Mem.head _)).2
theorem Good.cntS {ps : List (List Nat)} (g : Good ps) : Crewm.cntS ps ≤ 64 := cnt_le (n := 3) g.n g.len
theorem PipesL.row {K : PySem.W.Frag} {H : Hp} {ad : List Addr} {ps : List (List Nat)} (h : Al (NatsL K H) ad ps) {i : Nat} (hi : i < ps.length) : ∃ b, atI (ad.map V.ref) (i : Int) = some (V.ref b) ∧ NatsL K H b (ps.getD i []) := by
  obtain ⟨b, e, r⟩ := h.get (List.getElem?_eq_getElem hi)
  refine ⟨b, at_map e, ?_⟩
  rw [List.getD_eq_getElem?_getD, List.getElem?_eq_getElem hi]
  exact r
/-! ### a list under construction: what stands beside it -/
theorem del_mono {H H' : Hp} {f : Addr} (s : Same H H') : Same (del H f) (del H' f) := fun b o e => by
  by_cases h : b = f
  · rw [h, del_same] at e
    cases e
  · rw [del_ne h] at e ⊢
    exact s b o e
theorem same_del {H H' : Hp} {f : Addr} (h : H f = none) (s : Same H H') : Same H (del H' f) := fun b o e => by
  rw [del_ne (ne_of_none e h)]
  exact s b o e
theorem del_sub {H : Hp} {f : Addr} : Same (del H f) H := fun b o e => by
  by_cases h : b = f
  · rw [h, del_same] at e
    cases e
  · rw [del_ne h] at e
    exact e
theorem del_upd {H : Hp} {f : Addr} {o : HO} : del (upd H f o) f = del H f := by
  funext b
  by_cases h : b = f
  · rw [h, del_same, del_same]
  · rw [del_ne h, del_ne h, upd_ne h]
theorem del_seq {K : PySem.W.Frag} {H : Hp} {f b : Addr} {xs : List V} (h : SqL K H b xs) (n : b ≠ f) : SqL K (del H f) b xs := by
  rcases h with (h | ⟨o, h⟩) | h
  · exact .inl (.inl (by rw [del_ne n]; exact h))
  · exact .inl (.inr ⟨o, by rw [del_ne n]; exact h⟩)
  · exact .inr h
theorem del_tup {K : PySem.W.Frag} {H : Hp} {f b : Addr} {xs : List V} (h : SqT K H b xs) (n : b ≠ f) : SqT K (del H f) b xs := by
  rcases h with (h | ⟨o, h⟩) | h
  · exact .inl (.inl (by rw [del_ne n]; exact h))
  · exact .inl (.inr ⟨o, by rw [del_ne n]; exact h⟩)
  · exact .inr h
/-- tracked: a list of numbers -/
def NatsT (H : Hp) (a : Addr) (l : List Nat) : Prop := H a = some (.lst (l.map iv))
theorem NatsT.l {K : PySem.W.Frag} {H : Hp} {a : Addr} {l : List Nat} (h : NatsT H a l) : NatsL K H a l := SqL.of h
theorem take_snoc {α : Type} {l : List α} {i : Nat} {x : α} (h : l[i]? = some x) : l.take (i + 1) = l.take i ++ [x] := by
  obtain ⟨hi, e⟩ := List.getElem?_eq_some_iff.mp h
  rw [List.take_succ_eq_append_getElem hi, e]
theorem map_at {α : Type} {f : α → V} {l : List α} {i : Nat} {y : V} (h : (l.map f)[i]? = some y) : ∃ x, l[i]? = some x ∧ y = f x := by
  rw [List.getElem?_map] at h
  cases e : l[i]? with
  | none => rw [e] at h; cases h
  | some x =>
    rw [e] at h
    exact ⟨x, rfl, (Option.some.inj h).symm⟩
theorem getD_at {α : Type} {l : List α} {i : Nat} {x d : α} (h : l[i]? = some x) : l.getD i d = x := by
  rw [List.getD_eq_getElem?_getD, h]
  rfl
end Pc
namespace Pc
open PySem PySem.Spec PyProof.Rows L2 Crewm
theorem sum_snoc (l : List Nat) (x : Nat) : Kqk6.sum (l ++ [x]) = Kqk6.sum l + x := by
  unfold Kqk6.sum
  rw [List.foldl_append]
  rfl
def dayF (ps : List (List Nat)) (as : List Nat) (c i : Nat) : Nat := if i + 1 = c then 0 else Kqk6.outputAt ps i (as.getD i 0)
def dayN (ps : List (List Nat)) (as : List Nat) (c i : Nat) : Nat := Kqk6.sum ((List.range i).map (dayF ps as c))
theorem dayN_succ (ps : List (List Nat)) (as : List Nat) (c i : Nat) : dayN ps as c (i + 1) = dayN ps as c i + dayF ps as c i := by
  unfold dayN
  rw [List.range_succ, List.map_append]
  exact sum_snoc _ _
section
variable {P : Program} {w : World} {K : PySem.W.Frag} {mg : Str → Option Value} {base : Heap}
/-! ### day_output -/
def spDay (K : PySem.W.Frag) : Sp := fun vs H Q _ => ∃ (p a : Addr) (ps : List (List Nat)) (as : List Nat) (c : Nat), vs = [.ref p, .ref a, iv c] ∧ PipesL K H p ps ∧ NatsL K H a as ∧ Good ps ∧ VA ps as ∧ Q (iv (Kqk6.dayOutput ps as c)) H
theorem scDay : FnScope ["pipes", "ages", "choice", "found", "k"] ["pipes", "ages", "choice"] (defScope (top 4)) := ⟨rfl, rfl, rfl, by decide +kernel, rfl, by decide +kernel, by decide +kernel⟩
theorem ok_day (B : Blt mg) (D : Dn K mg "day_output" (top 4) ["pipes", "ages", "choice"]) : Cal P w K mg base CX0 1 "day_output" ["pipes", "ages", "choice"] (spDay K) := by
  refine D.ok scDay (fun vs H Q E h => ?_) (fun f cdv A outer s H vs Q E hr h => ?_)
  · obtain ⟨p, a, ps, as, c, rfl, _⟩ := h
    rfl
  · refine ⟨_, pss_cons (ps_set (i := 3) scDay.nd rfl (.inl rfl) pe_int)
      (pss_cons (ps_for PassesOwn.never rfl (pi_range1 rfl B.range (pa_cons (pe_callB call_len_seq (by rfl) B.len PySem.boot_len (pa_cons (pv 0) pa_nil)) pa_nil)) (pg_name (i := 4) scDay.nd rfl (.inl rfl))
        (pss_one (ps_if (pt_cmpR op_ne (pe_op op_add (pv 4) pe_int) (pv 2) (nomark _))
          (pss_one (ps_aug (i := 3) scDay.nd rfl (.inl rfl) (pe_ix ix_list (pe_ix ix_list (pv 0) (pv 4) (fun _ _ => rfl)) (pe_ix ix_list (pv 1) (pv 4) (fun _ _ => rfl)) (fun _ _ => rfl)) ip_add)) pss_nil)))
      (pss_one (ps_ret (pv 3)))), ?_⟩
    obtain ⟨p, a, ps, as, c, rfl, ⟨ad, hp, hal⟩, ha, g, hv, q⟩ := h
    have hl := va_len hv
    have hl2 : (ad.map V.ref).length = ps.length := by rw [List.length_map, hal.1]
    have hb := lt62 (n := (ad.map V.ref).length) (by rw [hl2]; have := g.n; omega)
    refine ⟨_, rfl, p, _, rfl, .inl hp, _, rfl, hb.1, hb.2, for_r0 (n := (ad.map V.ref).length) (fun i σ H' => ∃ v, σ = [some (.ref p), some (.ref a), some (iv c), some (iv (dayN ps as c i)), v] ∧ H' = H) ⟨_, rfl, rfl⟩ ?_ ?_⟩
    · rintro i σ H' hi ⟨v, rfl, rfl⟩
      rw [hl2] at hi
      obtain ⟨b, hb1, hb2⟩ := PipesL.row hal hi
      have hva := (va_iff.1 hv).2 i hi
      refine ⟨_, rfl, _, _, rfl, rfl, _, rfl, rfl, _, rfl, ifB (fun e => ?_) (fun e => ?_)⟩
      · have e' := neB e
        refine ⟨_, rfl, _, rfl, _, rfl, p, _, _, _, rfl, rfl, hp, hb1, _, rfl, _, rfl, a, _, _, _, rfl, rfl, ha, at_nat (by omega), b, _, _, _, rfl, rfl, hb2, at_nat hva, _, _, rfl, rfl, ?_⟩
        refine ⟨some (iv i), ?_, rfl⟩
        have z : dayN ps as c (i + 1) = dayN ps as c i + (ps.getD i []).getD (as.getD i 0) 0 := by
          rw [dayN_succ]
          unfold dayF
          rw [if_neg (by omega)]
          rfl
        rw [z]
        rfl
      · have e' := neB0 e
        refine ⟨some (iv i), ?_, rfl⟩
        have z : dayN ps as c (i + 1) = dayN ps as c i := by
          rw [dayN_succ]
          unfold dayF
          rw [if_pos (by omega)]
          rfl
        rw [z]
        rfl
    · rintro σ H' ⟨v, rfl, rfl⟩
      refine ⟨_, rfl, ?_⟩
      rw [hl2, ← hl]
      exact q
/-! ### ages_after -/
def nextN (ps : List (List Nat)) (as : List Nat) (c i : Nat) : List Nat := (List.range i).map fun i => if i + 1 = c then 0 else min (as.getD i 0 + 1) ((ps.getD i []).length - 1)
theorem nextN_succ (ps : List (List Nat)) (as : List Nat) (c i : Nat) : nextN ps as c (i + 1) = nextN ps as c i ++ [if i + 1 = c then 0 else min (as.getD i 0 + 1) ((ps.getD i []).length - 1)] := by
  unfold nextN
  rw [List.range_succ, List.map_append]
  rfl
def spAfter (K : PySem.W.Frag) : Sp := fun vs H Q _ => ∃ (p a : Addr) (ps : List (List Nat)) (as : List Nat) (c : Nat), vs = [.ref p, .ref a, iv c] ∧ PipesL K H p ps ∧ NatsL K H a as ∧ Good ps ∧ VA ps as ∧
  ∀ (H' : Hp) (r : Addr), Same H H' → H r = none → H' r = some (.lst ((Kqk6.nextAges ps as c).map iv)) → Q (.ref r) H'
theorem scAfter : FnScope ["pipes", "ages", "choice", "found", "k"] ["pipes", "ages", "choice"] (defScope (top 5)) := ⟨rfl, rfl, rfl, by decide +kernel, rfl, by decide +kernel, by decide +kernel⟩
theorem ok_after (B : Blt mg) (D : Dn K mg "ages_after" (top 5) ["pipes", "ages", "choice"]) : Cal P w K mg base CX0 1 "ages_after" ["pipes", "ages", "choice"] (spAfter K) := by
  refine D.ok scAfter (fun vs H Q E h => ?_) (fun f cdv A outer s H vs Q E hr h => ?_)
  · obtain ⟨p, a, ps, as, c, rfl, _⟩ := h
    rfl
  · refine ⟨_, pss_cons (ps_set (i := 3) scAfter.nd rfl (.inl rfl) (pe_lst pa_nil))
      (pss_cons (ps_for PassesOwn.never rfl (pi_range1 rfl B.range (pa_cons (pe_callB call_len_seq (by rfl) B.len PySem.boot_len (pa_cons (pv 0) pa_nil)) pa_nil)) (pg_name (i := 4) scAfter.nd rfl (.inl rfl))
        (pss_one (ps_if (pt_cmpR op_eq (pe_op op_add (pv 4) pe_int) (pv 2) (nomark _))
          (pss_one (ps_expr (pe_bm PySem.F.plainAttrs_list PySem.F.slot_list_append PySem.F.type_list_append mt_append (pv 3) (pa_cons pe_int pa_nil))))
          (pss_one (ps_expr (pe_bm PySem.F.plainAttrs_list PySem.F.slot_list_append PySem.F.type_list_append mt_append (pv 3) (pa_cons
            (pe_callB (call_min2 rfl) (by rfl) B.min (by decide +kernel) (pa_cons (pe_op op_add (pe_ix ix_list (pv 1) (pv 4) (fun _ _ => rfl)) pe_int)
              (pa_cons (pe_op op_sub (pe_callB call_len_seq (by rfl) B.len PySem.boot_len (pa_cons (pe_ix ix_list (pv 0) (pv 4) (fun _ _ => rfl)) pa_nil)) pe_int) pa_nil))) pa_nil)))))))
      (pss_one (ps_ret (pv 3)))), ?_⟩
    obtain ⟨p, a, ps, as, c, rfl, ⟨ad, hp, hal⟩, ha, g, hv, q⟩ := h
    have hl := va_len hv
    have hl2 : (ad.map V.ref).length = ps.length := by rw [List.length_map, hal.1]
    have hb := lt62 (n := (ad.map V.ref).length) (by rw [hl2]; have := g.n; omega)
    have hn := g.n
    refine ⟨(by show 0 ≤ sizeLine; decide), fun r hr0 => ?_⟩
    have s0 := same_upd (o := .lst []) hr0
    refine ⟨_, rfl, p, _, rfl, .inl (s0.seq hp), _, rfl, hb.1, hb.2, for_r0 (n := (ad.map V.ref).length) (fun i σ H' => ∃ v, σ = [some (.ref p), some (.ref a), some (iv c), some (.ref r), v] ∧ Same H H' ∧ H' r = some (.lst ((nextN ps as c i).map iv))) ⟨_, rfl, s0, upd_same⟩ ?_ ?_⟩
    · rintro i σ H' hi ⟨v, rfl, s1, hr1⟩
      rw [hl2] at hi
      obtain ⟨b, hb1, hb2⟩ := PipesL.row hal hi
      have hva := (va_iff.1 hv).2 i hi
      have hz : ((nextN ps as c i).map iv).length < sizeLine := by
        rw [List.length_map]
        unfold nextN
        rw [List.length_map, List.length_range]
        exact small1000 (by omega)
      have hg := g.at_ hi
      refine ⟨_, rfl, _, _, rfl, rfl, _, rfl, rfl, _, rfl, ifB (fun e => ?_) (fun e => ?_)⟩
      · have e' := eqB e
        refine ⟨_, rfl, .inl ⟨rfl, _, SqL.of hr1⟩, r, _, _, rfl, rfl, hr1, hz, ?_⟩
        refine ⟨some (iv i), rfl, same_upd2 hr0 s1, ?_⟩
        rw [upd_same, nextN_succ, if_pos (by omega), List.map_append]
        rfl
      · have e' := eqB0 e
        refine ⟨_, rfl, .inl ⟨rfl, _, SqL.of hr1⟩, _, rfl, _, rfl, a, _, _, _, rfl, rfl, ha.same s1, at_nat (by omega), _, _, rfl, rfl, _, rfl, _, rfl, p, _, _, _, rfl, rfl, s1.seq hp, hb1, b, _, rfl, .inl (hb2.same s1), _, _, rfl, rfl, _, _, rfl, r, _, _, rfl, rfl, hr1, hz, some (iv i), rfl, same_upd2 hr0 s1, ?_⟩
        have z : (if (((ps.getD i []).map iv).length : Int) - 1 < ((as.getD i 0 : Nat) : Int) + 1 then (((ps.getD i []).map iv).length : Int) - 1 else ((as.getD i 0 : Nat) : Int) + 1) = ((min (as.getD i 0 + 1) ((ps.getD i []).length - 1) : Nat) : Int) := by
          rw [List.length_map]
          split <;> omega
        have z2 : nextN ps as c (i + 1) = nextN ps as c i ++ [min (as.getD i 0 + 1) ((ps.getD i []).length - 1)] := by rw [nextN_succ, if_neg (by omega)]
        rw [upd_same, z2, List.map_append]
        exact congrArg (fun z => some (HO.lst ((nextN ps as c i).map iv ++ [V.int z]))) z
    · rintro σ H' ⟨v, rfl, s1, hr1⟩
      refine ⟨_, rfl, ?_⟩
      refine q H' r s1 hr0 ?_
      rw [hr1, hl2, ← hl]
      rfl
/-! ### run_through -/
def spRun (K : PySem.W.Frag) : Sp := fun vs H Q _ => ∃ (p a d : Addr) (ps : List (List Nat)) (as cs : List Nat), vs = [.ref p, .ref a, .ref d] ∧ PipesL K H p ps ∧ NatsL K H a as ∧ NatsL K H d cs ∧ Good ps ∧ VA ps as ∧
  ∀ (H' : Hp) (t r : Addr), Same H H' → H r = none → H t = none → t ≠ r → H' t = some (.tup [iv (Kqk6.runDays ps as cs).2, .ref r]) → H' r = some (.lst ((Kqk6.runDays ps as cs).1.map iv)) → Q (.ref t) H'
theorem scRun : FnScope ["pipes", "ages", "choices", "total", "now", "choice"] ["pipes", "ages", "choices"] (defScope (top 6)) := ⟨rfl, rfl, rfl, by decide +kernel, rfl, by decide +kernel, by decide +kernel⟩
theorem ok_run (B : Blt mg) (D : Dn K mg "run_through" (top 6) ["pipes", "ages", "choices"]) (C1 : Cal P w K mg base CX0 1 "day_output" ["pipes", "ages", "choice"] (spDay K)) (C2 : Cal P w K mg base CX0 1 "ages_after" ["pipes", "ages", "choice"] (spAfter K)) :
    Cal P w K mg base CX0 2 "run_through" ["pipes", "ages", "choices"] (spRun K) := by
  refine D.ok scRun (fun vs H Q E h => ?_) (fun f cdv A outer s H vs Q E hr h => ?_)
  · obtain ⟨p, a, d, ps, as, cs, rfl, _⟩ := h
    rfl
  · refine ⟨_, pss_cons (ps_par (i := 3) (j := 4) (by rfl) scRun.nd rfl rfl (by decide) rfl rfl (pa_cons pe_int (pa_cons (pe_callTy call_list_of (by rfl) B.list (by decide +kernel) (pa_cons (pv 1) pa_nil)) pa_nil)) (by rfl))
      (pss_cons (ps_for PassesOwn.never rfl (pi_list (pv 2)) (pg_name (i := 5) scRun.nd rfl (.inl rfl))
        (pss_cons (ps_aug (i := 3) scRun.nd rfl (.inl rfl) (pe_cal (E := E1) C1 hr pass1 (pa_cons (pv 0) (pa_cons (pv 4) (pa_cons (pv 5) pa_nil)))) ip_add)
        (pss_one (ps_set (i := 4) scRun.nd rfl (.inl rfl) (pe_cal (E := E1) C2 hr pass1 (pa_cons (pv 0) (pa_cons (pv 4) (pa_cons (pv 5) pa_nil))))))))
      (pss_one (ps_ret (pe_tup (pa_cons (pv 3) (pa_cons (pv 4) pa_nil)))))), ?_⟩
    obtain ⟨p, a, d, ps, as, cs, rfl, hp, ha, hd, g, hv, q⟩ := h
    refine ⟨_, rfl, a, _, rfl, .inl ha, fun r0 hr0 => ⟨_, _, rfl, ?_⟩⟩
    have s0 := same_upd (o := .lst (as.map iv)) hr0
    refine ⟨_, rfl, d, rfl, ⟨_, hd.same s0⟩, for_list (K := K) (a := d) (xs := cs.map iv) (fun i σ H' => ∃ v r, σ = [some (.ref p), some (.ref a), some (.ref d), some (iv (Kqk6.runDays ps as (cs.take i)).2), some (.ref r), v] ∧ Same H H' ∧ H r = none ∧ H' r = some (.lst ((Kqk6.runDays ps as (cs.take i)).1.map iv)))
      ⟨_, r0, rfl, s0, hr0, upd_same⟩ (fun i σ H' _ ⟨_, _, _, s1, _⟩ => hd.same s1) ?_ ?_⟩
    · rintro i y σ H' hi ⟨v, r, rfl, s1, hr1, hr2⟩
      obtain ⟨c, hc, rfl⟩ := map_at hi
      have hv1 := run_va (ps := ps) (cs.take i) hv
      have e := run_app ps (cs.take i) [c] as
      rw [← take_snoc hc, run_one] at e
      refine ⟨_, rfl, _, rfl, _, rfl, _, rfl, p, r, ps, _, c, rfl, hp.same s1, SqL.of hr2, g, hv1, _, _, rfl, rfl, _, rfl, _, rfl, _, rfl, p, r, ps, _, c, rfl, hp.same s1, SqL.of hr2, g, hv1, fun H2 r2 s2 hn2 h2 => ?_⟩
      have hn3 : H r2 = none := s1.free hn2
      refine ⟨some (iv c), r2, ?_, s1.trans s2, hn3, ?_⟩
      · rw [e]
        rfl
      · rw [h2, e]
    · rintro σ H' ⟨v, r, rfl, s1, hr1, hr2⟩
      rw [List.length_map, List.take_length] at hr2 ⊢
      refine ⟨_, rfl, _, rfl, (by show 2 ≤ sizeLine; decide), fun t ht => ?_⟩
      have ne : t ≠ r := fun z => by rw [z, hr2] at ht; cases ht
      exact q _ t r (s1.trans (same_upd ht)) hr1 (s1.free ht) ne upd_same (by rw [upd_ne (Ne.symm ne)]; exact hr2)
end
end Pc
namespace Pc
open PySem PySem.Spec PyProof.Rows L2 Crewm
theorem cnt_snoc : ∀ (ps : List (List Nat)) (l : List Nat), cntS (ps ++ [l]) = cntS ps * l.length
  | [], l => by simp [cntS]
  | x :: r, l => by
    show x.length * cntS (r ++ [l]) = x.length * cntS r * l.length
    rw [cnt_snoc r l, Nat.mul_assoc]
theorem plc_snoc : ∀ {ps : List (List Nat)} {as : List Nat} (l : List Nat) (a : Nat), as.length = ps.length → plc (ps ++ [l]) (as ++ [a]) = plc ps as * l.length + a
  | [], [], l, a, _ => by simp [plc, cntS]
  | x :: r, b :: s, l, a, h => by
    show b * cntS (r ++ [l]) + plc (r ++ [l]) (s ++ [a]) = (b * cntS r + plc r s) * l.length + a
    rw [cnt_snoc, plc_snoc l a (by simpa using h), Nat.add_mul, Nat.mul_assoc]
    omega
  | [], _ :: _, _, _, h => by simp at h
  | _ :: _, [], _, _, h => by simp at h
theorem states_snoc : ∀ (ps : List (List Nat)) (l : List Nat), Kqk6.allStates (ps ++ [l]) = (Kqk6.allStates ps).flatMap fun v => (List.range l.length).map fun a => v ++ [a]
  | [], l => by
    show ((List.range l.length).flatMap fun age => (Kqk6.allStates []).map fun ages => age :: ages) = _
    show ((List.range l.length).flatMap fun age => [[age]]) = ([[]] : List (List Nat)).flatMap fun v => (List.range l.length).map fun a => v ++ [a]
    rw [List.flatMap_cons, List.flatMap_nil, List.append_nil]
    induction (List.range l.length) with
    | nil => rfl
    | cons a r ih => rw [List.flatMap_cons, ih]; rfl
  | x :: r, l => by
    show ((List.range x.length).flatMap fun age => (Kqk6.allStates (r ++ [l])).map fun ages => age :: ages) = ((List.range x.length).flatMap fun age => (Kqk6.allStates r).map fun ages => age :: ages).flatMap _
    rw [states_snoc r l, List.flatMap_assoc]
    congr 1
    funext a
    rw [List.map_flatMap, List.flatMap_map]
    congr 1
    funext v
    rw [List.map_map]
    rfl
section
variable {P : Program} {w : World} {K : PySem.W.Frag} {mg : Str → Option Value} {base : Heap}
/-! ### count_states -/
def spCount (K : PySem.W.Frag) : Sp := fun vs H Q _ => ∃ (p : Addr) (ps : List (List Nat)), vs = [.ref p] ∧ PipesL K H p ps ∧ Good ps ∧ Q (iv (cntS ps)) H
theorem scCount : FnScope ["pipes", "found", "outputs"] ["pipes"] (defScope (top 8)) := ⟨rfl, rfl, rfl, by decide +kernel, rfl, by decide +kernel, by decide +kernel⟩
theorem ok_count (B : Blt mg) (D : Dn K mg "count_states" (top 8) ["pipes"]) : Cal P w K mg base CX0 1 "count_states" ["pipes"] (spCount K) := by
  refine D.ok scCount (fun vs H Q E h => ?_) (fun f cdv A outer s H vs Q E hr h => ?_)
  · obtain ⟨p, ps, rfl, _⟩ := h
    rfl
  · refine ⟨_, pss_cons (ps_set (i := 1) scCount.nd rfl (.inl rfl) pe_int)
      (pss_cons (ps_for PassesOwn.never rfl (pi_list (pv 0)) (pg_name (i := 2) scCount.nd rfl (.inl rfl))
        (pss_one (ps_aug (i := 1) scCount.nd rfl (.inl rfl) (pe_callB call_len_seq (by rfl) B.len PySem.boot_len (pa_cons (pv 2) pa_nil)) iop_mul)))
      (pss_one (ps_ret (pv 1)))), ?_⟩
    obtain ⟨p, ps, rfl, ⟨ad, hp, hal⟩, g, q⟩ := h
    have hl : (ad.map V.ref).length = ps.length := by rw [List.length_map, hal.1]
    refine ⟨_, rfl, p, rfl, ⟨_, hp⟩, for_list (K := K) (a := p) (xs := ad.map V.ref) (fun i σ H' => ∃ v, σ = [some (.ref p), some (iv (cntS (ps.take i))), v] ∧ H' = H)
      ⟨_, rfl, rfl⟩ (fun i σ H' _ ⟨_, _, e⟩ => e ▸ hp) ?_ ?_⟩
    · rintro i y σ H' hi ⟨v, rfl, rfl⟩
      obtain ⟨b, hb, rfl⟩ := map_at hi
      obtain ⟨l, hl2, hb2⟩ := hal.of hb
      have hlen := (g.len l (List.mem_of_getElem? hl2)).2
      refine ⟨_, rfl, _, rfl, b, _, rfl, .inl hb2, _, _, rfl, rfl, .inr ?_, ?_⟩
      · rw [List.length_map]
        omega
      · refine ⟨some (.ref b), ?_, rfl⟩
        rw [take_snoc hl2, cnt_snoc, List.length_map]
        rfl
    · rintro σ H' ⟨v, rfl, rfl⟩
      refine ⟨_, rfl, ?_⟩
      rw [hl, List.take_length]
      exact q
/-! ### place_of -/
def spPlace (K : PySem.W.Frag) : Sp := fun vs H Q _ => ∃ (p a : Addr) (ps : List (List Nat)) (as : List Nat), vs = [.ref p, .ref a] ∧ PipesL K H p ps ∧ NatsL K H a as ∧ Good ps ∧ VA ps as ∧ Q (iv (plc ps as)) H
theorem scPlace : FnScope ["pipes", "ages", "found", "k"] ["pipes", "ages"] (defScope (top 9)) := ⟨rfl, rfl, rfl, by decide +kernel, rfl, by decide +kernel, by decide +kernel⟩
theorem ok_place (B : Blt mg) (D : Dn K mg "place_of" (top 9) ["pipes", "ages"]) : Cal P w K mg base CX0 1 "place_of" ["pipes", "ages"] (spPlace K) := by
  refine D.ok scPlace (fun vs H Q E h => ?_) (fun f cdv A outer s H vs Q E hr h => ?_)
  · obtain ⟨p, a, ps, as, rfl, _⟩ := h
    rfl
  · refine ⟨_, pss_cons (ps_set (i := 2) scPlace.nd rfl (.inl rfl) pe_int)
      (pss_cons (ps_for PassesOwn.never rfl (pi_range1 rfl B.range (pa_cons (pe_callB call_len_seq (by rfl) B.len PySem.boot_len (pa_cons (pv 0) pa_nil)) pa_nil)) (pg_name (i := 3) scPlace.nd rfl (.inl rfl))
        (pss_one (ps_set (i := 2) scPlace.nd rfl (.inl rfl) (pe_op op_add (pe_op op_mul (pv 2) (pe_callB call_len_seq (by rfl) B.len PySem.boot_len (pa_cons (pe_ix ix_list (pv 0) (pv 3) (fun _ _ => rfl)) pa_nil)))
          (pe_ix ix_list (pv 1) (pv 3) (fun _ _ => rfl))))))
      (pss_one (ps_ret (pv 2)))), ?_⟩
    obtain ⟨p, a, ps, as, rfl, ⟨ad, hp, hal⟩, ha, g, hv, q⟩ := h
    have hl := va_len hv
    have hl2 : (ad.map V.ref).length = ps.length := by rw [List.length_map, hal.1]
    have hb := lt62 (n := (ad.map V.ref).length) (by rw [hl2]; have := g.n; omega)
    refine ⟨_, rfl, p, _, rfl, .inl hp, _, rfl, hb.1, hb.2, for_r0 (n := (ad.map V.ref).length) (fun i σ H' => ∃ v, σ = [some (.ref p), some (.ref a), some (iv (plc (ps.take i) (as.take i))), v] ∧ H' = H) ⟨_, rfl, rfl⟩ ?_ ?_⟩
    · rintro i σ H' hi ⟨v, rfl, rfl⟩
      rw [hl2] at hi
      obtain ⟨b, hb1, hb2⟩ := PipesL.row hal hi
      have hg := g.at_ hi
      have e1 : ps[i]? = some (ps.getD i []) := by rw [List.getD_eq_getElem?_getD, List.getElem?_eq_getElem hi]; rfl
      have e2 : as[i]? = some (as.getD i 0) := by rw [List.getD_eq_getElem?_getD, List.getElem?_eq_getElem (show i < as.length by omega)]; rfl
      refine ⟨_, rfl, _, rfl, _, rfl, p, _, _, _, rfl, rfl, hp, hb1, b, _, rfl, .inl hb2, _, _, rfl, rfl, .inr ?_, _, rfl, _, rfl, a, _, _, _, rfl, rfl, ha, at_nat (by omega), _, _, rfl, rfl, ?_⟩
      · rw [List.length_map]
        omega
      · refine ⟨some (iv i), ?_, rfl⟩
        rw [take_snoc e1, take_snoc e2, plc_snoc _ _ (by rw [List.length_take, List.length_take]; omega), List.length_map]
        rfl
    · rintro σ H' ⟨v, rfl, rfl⟩
      refine ⟨_, rfl, ?_⟩
      rw [hl2, List.take_length, ← hl, List.take_length]
      exact q
end
end Pc
namespace Pc
open PySem PySem.Spec PyProof.Rows L2 Crewm
theorem NatsT.mono {H H' : Hp} {a : Addr} {l : List Nat} (h : NatsT H a l) (s : Same H H') : NatsT H' a l := s _ _ h
def NatsF (G H : Hp) (a : Addr) (l : List Nat) : Prop := G a = none ∧ NatsT H a l
theorem NatsF.mono {G H H' : Hp} {a : Addr} {l : List Nat} (h : NatsF G H a l) (s : Same H H') : NatsF G H' a l := ⟨h.1, s _ _ h.2⟩
theorem take_flat {α β : Type} {l : List α} {j : Nat} {x : α} (g : α → List β) (h : l[j]? = some x) : (l.take (j + 1)).flatMap g = (l.take j).flatMap g ++ g x := by
  rw [take_snoc h, List.flatMap_append, List.flatMap_cons, List.flatMap_nil, List.append_nil]
theorem good_take {ps : List (List Nat)} (g : Good ps) (i : Nat) : Good (ps.take i) :=
  ⟨by have := g.n; rw [List.length_take]; omega, fun l h => g.len l (List.mem_of_mem_take h), fun l h => g.dec l (List.mem_of_mem_take h), fun l h => g.most l (List.mem_of_mem_take h)⟩
theorem states_le {ps : List (List Nat)} (g : Good ps) : (Kqk6.allStates ps).length ≤ 64 := by
  rw [states_len]
  exact g.cntS
def ext1 (l v : List Nat) (m : Nat) : List (List Nat) := (List.range m).map fun a => v ++ [a]
theorem ext1_succ (l v : List Nat) (m : Nat) : ext1 l v (m + 1) = ext1 l v m ++ [v ++ [m]] := by
  unfold ext1
  rw [List.range_succ, List.map_append]
  rfl
section
variable {P : Program} {w : World} {K : PySem.W.Frag} {mg : Str → Option Value} {base : Heap}
/-! ### all_states -/
def spStates (K : PySem.W.Frag) : Sp := fun vs H Q _ => ∃ (p : Addr) (ps : List (List Nat)), vs = [.ref p] ∧ PipesL K H p ps ∧ Good ps ∧
  ∀ (H' : Hp) (r : Addr), Same H H' → H r = none → NestL K H' (fun b l => H b = none ∧ NatsL K H' b l) r (Kqk6.allStates ps) → Q (.ref r) H'
theorem scStates : FnScope ["pipes", "found", "outputs", "longer", "ages", "age"] ["pipes"] (defScope (top 10)) := ⟨rfl, rfl, rfl, by decide +kernel, rfl, by decide +kernel, by decide +kernel⟩
theorem ok_states (B : Blt mg) (D : Dn K mg "all_states" (top 10) ["pipes"]) : Cal P w K mg base CX0 1 "all_states" ["pipes"] (spStates K) := by
  refine D.ok scStates (fun vs H Q E h => ?_) (fun f cdv A outer s H vs Q E hr h => ?_)
  · obtain ⟨p, ps, rfl, _⟩ := h
    rfl
  · refine ⟨_, pss_cons (ps_set (i := 1) scStates.nd rfl (.inl rfl) (pe_lst (pa_cons (pe_lst pa_nil) pa_nil)))
      (pss_cons (ps_for PassesOwn.never rfl (pi_list (pv 0)) (pg_name (i := 2) scStates.nd rfl (.inl rfl))
        (pss_cons (ps_set (i := 3) scStates.nd rfl (.inl rfl) (pe_lst pa_nil))
        (pss_cons (ps_for PassesOwn.never rfl (pi_list (pv 1)) (pg_name (i := 4) scStates.nd rfl (.inl rfl))
          (pss_one (ps_for PassesOwn.never rfl (pi_range1 rfl B.range (pa_cons (pe_callB call_len_seq (by rfl) B.len PySem.boot_len (pa_cons (pv 2) pa_nil)) pa_nil)) (pg_name (i := 5) scStates.nd rfl (.inl rfl))
            (pss_one (ps_expr (pe_bm PySem.F.plainAttrs_list PySem.F.slot_list_append PySem.F.type_list_append mt_append (pv 3) (pa_cons (pe_op op_cat (pv 4) (pe_lst (pa_cons (pv 5) pa_nil))) pa_nil)))))))
        (pss_one (ps_set (i := 1) scStates.nd rfl (.inl rfl) (pv 3))))))
      (pss_one (ps_ret (pv 1)))), ?_⟩
    obtain ⟨p, ps, rfl, ⟨ad, hp, hal⟩, g, q⟩ := h
    have hl : (ad.map V.ref).length = ps.length := by rw [List.length_map, hal.1]
    refine ⟨(by show 0 ≤ sizeLine; decide), fun q0 hq0 => ⟨(by show 1 ≤ sizeLine; decide), fun r0 hr0 => ?_⟩⟩
    have s0 := (same_upd (o := .lst []) hq0).trans (same_upd (o := .lst [V.ref q0]) hr0)
    have n0 : q0 ≠ r0 := fun z => by rw [← z, upd_same] at hr0; cases hr0
    refine ⟨_, rfl, p, rfl, ⟨_, s0.seq hp⟩, for_list (K := K) (a := p) (xs := ad.map V.ref) (fun i σ H' => ∃ v2 v3 v4 v5 fa as, σ = [some (.ref p), some (.ref fa), v2, v3, v4, v5] ∧ Same H H' ∧ H fa = none ∧ H' fa = some (.lst (as.map V.ref)) ∧ Al (NatsF H H') as (Kqk6.allStates (ps.take i)))
      ⟨none, none, none, none, r0, [q0], rfl, s0, (same_upd (o := .lst []) hq0).free hr0, upd_same, ?_⟩ (fun i σ H' _ ⟨_, _, _, _, _, _, _, s1, _⟩ => s1.seq hp) ?_ ?_⟩
    · refine Al.snoc (b := q0) Al.nil ?_
      refine ⟨hq0, ?_⟩
      show upd (upd H q0 (.lst [])) r0 _ q0 = _
      rw [upd_ne n0, upd_same]
      rfl
    · rintro i y σ H1 hi ⟨v2, v3, v4, v5, fa, as, rfl, s1, hf0, hf1, hA⟩
      obtain ⟨b, hb, rfl⟩ := map_at hi
      obtain ⟨l, hl2, hb2⟩ := hal.of hb
      have hl4 := g.len l (List.mem_of_getElem? hl2)
      have hbl := lt62 (n := (l.map iv).length) (by rw [List.length_map]; omega)
      refine ⟨(by show 0 ≤ sizeLine; decide), fun lg hlg => ?_⟩
      have t0 := same_upd (o := .lst []) hlg
      have sl := states_le (good_take g i)
      generalize hS : Kqk6.allStates (ps.take i) = S at hA sl
      refine ⟨_, rfl, fa, rfl, ⟨_, t0.seq (SqL.of hf1)⟩, for_list (K := K) (a := fa) (xs := as.map V.ref) (fun j σ H' => ∃ v4 v5 bs, σ = [some (.ref p), some (.ref fa), some (.ref b), some (.ref lg), v4, v5] ∧ Same H1 H' ∧ H' lg = some (.lst (bs.map V.ref)) ∧
          Al (NatsF H (del H' lg)) bs ((S.take j).flatMap fun v => ext1 l v l.length))
        ⟨_, _, [], rfl, t0, upd_same, Al.nil⟩ (fun j σ H' _ ⟨_, _, _, _, t1, _⟩ => t1.seq (SqL.of hf1)) ?_ ?_⟩
      · rintro j y σ H2 hj ⟨v4, v5, bs, rfl, s2, h2, hB⟩
        obtain ⟨c, hc, rfl⟩ := map_at hj
        obtain ⟨v, hv, hcv⟩ := hA.of hc
        have hjl : j < S.length := (List.getElem?_eq_some_iff.mp hv).1
        refine ⟨_, rfl, b, _, rfl, .inl ((s1.trans s2).seq hb2), _, rfl, hbl.1, hbl.2, for_r0 (n := (l.map iv).length) (fun m σ H' => ∃ v5 bs, σ = [some (.ref p), some (.ref fa), some (.ref b), some (.ref lg), some (.ref c), v5] ∧ Same H1 H' ∧ H' lg = some (.lst (bs.map V.ref)) ∧
            Al (NatsF H (del H' lg)) bs (((S.take j).flatMap fun v => ext1 l v l.length) ++ ext1 l v m))
          ⟨_, bs, rfl, s2, h2, by rw [show ext1 l v 0 = [] from rfl, List.append_nil]; exact hB⟩ ?_ ?_⟩
        · rintro m σ H3 hm ⟨v5, bs, rfl, s3, h3, hB⟩
          have hc3 : H3 c = some (.lst (v.map iv)) := s3 _ _ hcv.2
          have hsz : bs.length ≤ 300 := by
            rw [hB.1, List.length_append, flat_len (c := l.length) _ (fun x => by unfold ext1; rw [List.length_map, List.length_range])]
            unfold ext1
            rw [List.length_map, List.length_range, List.length_take]
            rw [List.length_map] at hm
            have : min j S.length * l.length ≤ 64 * 4 := Nat.mul_le_mul (by omega) hl4.2
            omega
          have hvl : v.length ≤ 3 := by
            have hm2 := List.mem_of_getElem? hv
            rw [← hS] at hm2
            have := va_len (states_mem.1 hm2)
            have := (good_take g i).n
            omega
          refine ⟨_, rfl, .inl ⟨rfl, _, SqL.of h3⟩, _, rfl, _, rfl, (by show 1 ≤ sizeLine; decide), fun q1 hq1 => ?_⟩
          have nc : c ≠ q1 := ne_of_none hc3 hq1
          have nl : lg ≠ q1 := ne_of_none h3 hq1
          refine ⟨c, q1, _, _, rfl, rfl, by rw [upd_ne nc]; exact hc3, upd_same, ?_, fun p2 hp2 => ?_⟩
          · rw [List.length_map]
            exact Nat.le_of_lt (small1000 (by show v.length + 1 ≤ 1000; omega))
          have u1 := (same_upd (o := .lst [iv m]) hq1).trans (same_upd (o := .lst (v.map iv ++ [iv m])) hp2)
          have h4 := u1 _ _ h3
          have n2 : p2 ≠ lg := fun z => by rw [z, upd_ne nl, h3] at hp2; cases hp2
          refine ⟨lg, _, _, rfl, rfl, h4, by rw [List.length_map]; exact small1000 (by omega), some (iv m), bs ++ [p2], rfl, same_upd2 hlg (s3.trans u1), ?_, ?_⟩
          · rw [upd_same, List.map_append]
            rfl
          · rw [del_upd, ext1_succ, ← List.append_assoc]
            refine Al.snoc (hB.mono fun x y z => z.mono (del_mono u1)) ?_
            refine ⟨((s1.trans s3).trans (same_upd (o := .lst [iv m]) hq1)).free hp2, ?_⟩
            show del _ lg p2 = _
            rw [del_ne n2, upd_same, List.map_append]
            rfl
        · rintro σ H3 ⟨v5, bs, rfl, s3, h3, hB⟩
          rw [List.length_map] at hB
          exact ⟨_, _, bs, rfl, s3, h3, by rw [take_flat _ hv]; exact hB⟩
      · rintro σ H3 ⟨v4, v5, bs, rfl, s3, h3, hB⟩
        rw [List.length_map, hA.1, List.take_length] at hB
        refine ⟨_, rfl, some (.ref b), some (.ref lg), v4, v5, lg, bs, rfl, s1.trans s3, s1.free hlg, h3, ?_⟩
        rw [take_snoc hl2, states_snoc, hS]
        exact hB.mono fun x y z => z.mono del_sub
    · rintro σ H' ⟨v2, v3, v4, v5, fa, as, rfl, s1, hf0, hf1, hA⟩
      rw [hl, List.take_length] at hA
      exact ⟨_, rfl, q H' fa s1 hf0 ⟨as, SqL.of hf1, hA.mono fun x y z => ⟨z.1, z.2.l⟩⟩⟩
end
end Pc
namespace Pc
open PySem PySem.Spec PyProof.Rows L2 Crewm
def PairTT (H : Hp) (t : Addr) (e : Nat × Nat) : Prop := H t = some (.tup [iv e.1, iv e.2])
def RowTT (H : Hp) (b : Addr) (row : List (Nat × Nat)) : Prop := ∃ ts : List Addr, H b = some (.lst (ts.map V.ref)) ∧ Al (PairTT H) ts row
theorem PairTT.mono {H H' : Hp} {t : Addr} {e : Nat × Nat} (h : PairTT H t e) (s : Same H H') : PairTT H' t e := s _ _ h
theorem RowTT.mono {H H' : Hp} {b : Addr} {row : List (Nat × Nat)} (h : RowTT H b row) (s : Same H H') : RowTT H' b row := by
  obtain ⟨ts, h1, h2⟩ := h
  exact ⟨ts, s _ _ h1, h2.mono fun _ _ z => z.mono s⟩
theorem tup_ne {H : Hp} {t f : Addr} {xs ys : List V} (h : H t = some (.tup xs)) (h' : H f = some (.lst ys)) : t ≠ f := fun z => by
  rw [z, h'] at h
  cases h
theorem PairTT.upd {H : Hp} {t f : Addr} {e : Nat × Nat} {ys : List V} {o : HO} (h : PairTT H t e) (h' : H f = some (.lst ys)) : PairTT (L2.upd H f o) t e := by
  unfold PairTT
  rw [upd_ne (tup_ne h h')]
  exact h
theorem RowTT.del {H : Hp} {b f : Addr} {row : List (Nat × Nat)} {ys : List V} (h : RowTT H b row) (n : b ≠ f) (h' : H f = some (.lst ys)) : RowTT (L2.del H f) b row := by
  obtain ⟨ts, h1, h2⟩ := h
  refine ⟨ts, by rw [del_ne n]; exact h1, h2.mono fun t e z => ?_⟩
  unfold PairTT
  rw [del_ne (tup_ne z h')]
  exact z
theorem PairTT.l {K : PySem.W.Frag} {H : Hp} {t : Addr} {e : Nat × Nat} (h : PairTT H t e) : PairT K H t e := SqT.of h
theorem RowTT.l {K : PySem.W.Frag} {H : Hp} {b : Addr} {row : List (Nat × Nat)} (h : RowTT H b row) : NestL K H (PairT K H) b row := by
  obtain ⟨ts, h1, h2⟩ := h
  exact ⟨ts, SqL.of h1, h2.mono fun _ _ z => z.l⟩
/-- one row of moves, c choices of it -/
def rowC (ps : List (List Nat)) (as : List Nat) (c : Nat) : List (Nat × Nat) := (List.range c).map fun c => (plc ps (Kqk6.nextAges ps as c), Kqk6.dayOutput ps as c)
theorem rowC_succ (ps : List (List Nat)) (as : List Nat) (c : Nat) : rowC ps as (c + 1) = rowC ps as c ++ [(plc ps (Kqk6.nextAges ps as c), Kqk6.dayOutput ps as c)] := by
  unfold rowC
  rw [List.range_succ, List.map_append]
  rfl
theorem moves_take {ps : List (List Nat)} {i : Nat} {as : List Nat} (h : (Kqk6.allStates ps)[i]? = some as) : (movesM ps).take (i + 1) = (movesM ps).take i ++ [rowC ps as (ps.length + 1)] := by
  refine take_snoc ?_
  unfold movesM
  rw [List.getElem?_map, h]
  rfl
section
variable {P : Program} {w : World} {K : PySem.W.Frag} {mg : Str → Option Value} {base : Heap}
/-! ### all_moves -/
def spMoves (K : PySem.W.Frag) : Sp := fun vs H Q _ => ∃ (p : Addr) (ps : List (List Nat)), vs = [.ref p] ∧ PipesL K H p ps ∧ Good ps ∧
  ∀ (H' : Hp) (r : Addr), Same H H' → H r = none → MovesL K H' r (movesM ps) → Q (.ref r) H'
theorem scMoves : FnScope ["pipes", "found", "ages", "row", "choice"] ["pipes"] (defScope (top 11)) := ⟨rfl, rfl, rfl, by decide +kernel, rfl, by decide +kernel, by decide +kernel⟩
theorem ok_moves (B : Blt mg) (D : Dn K mg "all_moves" (top 11) ["pipes"]) (C1 : Cal P w K mg base CX0 1 "all_states" ["pipes"] (spStates K)) (C2 : Cal P w K mg base CX0 1 "place_of" ["pipes", "ages"] (spPlace K))
    (C3 : Cal P w K mg base CX0 1 "ages_after" ["pipes", "ages", "choice"] (spAfter K)) (C4 : Cal P w K mg base CX0 1 "day_output" ["pipes", "ages", "choice"] (spDay K)) : Cal P w K mg base CX0 2 "all_moves" ["pipes"] (spMoves K) := by
  refine D.ok scMoves (fun vs H Q E h => ?_) (fun f cdv A outer s H vs Q E hr h => ?_)
  · obtain ⟨p, ps, rfl, _⟩ := h
    rfl
  · refine ⟨_, pss_cons (ps_set (i := 1) scMoves.nd rfl (.inl rfl) (pe_lst pa_nil))
      (pss_cons (ps_for PassesOwn.never rfl (pi_list (pe_cal (E := E1) C1 hr pass1 (pa_cons (pv 0) pa_nil))) (pg_name (i := 2) scMoves.nd rfl (.inl rfl))
        (pss_cons (ps_set (i := 3) scMoves.nd rfl (.inl rfl) (pe_lst pa_nil))
        (pss_cons (ps_for PassesOwn.never rfl (pi_range1 rfl B.range (pa_cons (pe_op op_add (pe_callB call_len_seq (by rfl) B.len PySem.boot_len (pa_cons (pv 0) pa_nil)) pe_int) pa_nil)) (pg_name (i := 4) scMoves.nd rfl (.inl rfl))
          (pss_one (ps_expr (pe_bm PySem.F.plainAttrs_list PySem.F.slot_list_append PySem.F.type_list_append mt_append (pv 3) (pa_cons
            (pe_tup (pa_cons (pe_cal (E := E1) C2 hr pass1 (pa_cons (pv 0) (pa_cons (pe_cal (E := E1) C3 hr pass1 (pa_cons (pv 0) (pa_cons (pv 2) (pa_cons (pv 4) pa_nil)))) pa_nil)))
              (pa_cons (pe_cal (E := E1) C4 hr pass1 (pa_cons (pv 0) (pa_cons (pv 2) (pa_cons (pv 4) pa_nil)))) pa_nil))) pa_nil)))))
        (pss_one (ps_expr (pe_bm PySem.F.plainAttrs_list PySem.F.slot_list_append PySem.F.type_list_append mt_append (pv 1) (pa_cons (pv 3) pa_nil)))))))
      (pss_one (ps_ret (pv 1)))), ?_⟩
    obtain ⟨p, ps, rfl, hp, g, q⟩ := h
    have hn := g.n
    refine ⟨(by show 0 ≤ sizeLine; decide), fun fa hfa => ?_⟩
    have s0 := same_upd (o := .lst []) hfa
    refine ⟨_, rfl, p, ps, rfl, hp.same s0, g, fun H1 st s1 hst hS => ?_⟩
    obtain ⟨as, hs1, hA⟩ := hS
    have hlen : (as.map V.ref).length = cntS ps := by rw [List.length_map, hA.1, states_len]
    have hfa1 : H1 fa = some (.lst []) := s1 _ _ upd_same
    refine ⟨st, rfl, ⟨_, hs1⟩, for_list (K := K) (a := st) (xs := as.map V.ref) (fun i σ H' => ∃ v2 v3 v4 bs, σ = [some (.ref p), some (.ref fa), v2, v3, v4] ∧ Same (del H1 fa) (del H' fa) ∧ H' fa = some (.lst (bs.map V.ref)) ∧ Al (RowTT (del H' fa)) bs ((movesM ps).take i))
      ⟨none, none, none, [], rfl, Same.refl _, hfa1, Al.nil⟩ (fun i σ H' _ ⟨_, _, _, _, _, s2, _⟩ => ?_) ?_ ?_⟩
    · refine (Same.seq (s2.trans del_sub) (del_seq hs1 fun z => ?_))
      rw [z, upd_same] at hst
      cases hst
    · rintro i y σ H2 hi ⟨v2, v3, v4, bs, rfl, s2, h2, hB⟩
      obtain ⟨c, hc, rfl⟩ := map_at hi
      obtain ⟨v, hv, hcv⟩ := hA.of hc
      have hva := states_mem.1 (List.mem_of_getElem? hv)
      have hil : i < (Kqk6.allStates ps).length := (List.getElem?_eq_some_iff.mp hv).1
      have h64 := states_le g
      have nc : c ≠ fa := fun z => by
        have := hcv.1
        rw [z, upd_same] at this
        cases this
      have sH2 : Same H H2 := ((same_del hfa (s0.trans s1)).trans s2).trans del_sub
      have hp2 := hp.same sH2
      have hcv2 : NatsL K H2 c v := (s2.trans del_sub).seq (del_seq hcv.2 nc)
      have hva2 := va_len hva
      have hpl := hp2
      obtain ⟨ad, hpa, hpal⟩ := hpl
      have hl2 : (ad.map V.ref).length = ps.length := by rw [List.length_map, hpal.1]
      have hb := lt62 (n := ps.length + 1) (by omega)
      refine ⟨(by show 0 ≤ sizeLine; decide), fun rw_ hrw => ?_⟩
      have t0 := same_upd (o := .lst []) hrw
      have nrf : rw_ ≠ fa := fun z => by rw [z, h2] at hrw; cases hrw
      refine ⟨_, rfl, p, _, rfl, .inl (t0.seq hpa), _, _, rfl, rfl, _, rfl, by rw [hl2]; exact hb.1, by rw [hl2]; exact hb.2, ?_⟩
      rw [hl2]
      refine for_r0 (n := ps.length + 1) (fun m σ H' => ∃ v4 ts, σ = [some (.ref p), some (.ref fa), some (.ref c), some (.ref rw_), v4] ∧ Same H2 H' ∧ H' rw_ = some (.lst (ts.map V.ref)) ∧ Al (PairTT H') ts (rowC ps v m))
        ⟨_, [], rfl, t0, upd_same, Al.nil⟩ ?_ ?_
      · rintro m σ H3 hm ⟨v4, ts, rfl, s3, h3, hT⟩
        have htl : ts.length = m := by
          rw [hT.1]
          unfold rowC
          rw [List.length_map, List.length_range]
        refine ⟨_, rfl, .inl ⟨rfl, _, SqL.of h3⟩, _, rfl, _, rfl, _, rfl, _, rfl, p, c, ps, v, m, rfl, hp2.same s3, hcv2.same s3, g, hva, fun H4 r4 s4 hn4 h4 => ?_⟩
        have s34 := s3.trans s4
        refine ⟨p, r4, ps, _, rfl, hp2.same s34, SqL.of h4, g, va_next hva, _, rfl, _, rfl, _, rfl, p, c, ps, v, m, rfl, hp2.same s34, hcv2.same s34, g, hva, (by show 2 ≤ sizeLine; decide), fun t ht => ?_⟩
        have s5 := same_upd (o := .tup [iv (plc ps (Kqk6.nextAges ps v m)), iv (Kqk6.dayOutput ps v m)]) ht
        have h5 : upd H4 t (.tup [iv (plc ps (Kqk6.nextAges ps v m)), iv (Kqk6.dayOutput ps v m)]) rw_ = some (.lst (ts.map V.ref)) := s5 _ _ (s4 _ _ h3)
        refine ⟨rw_, _, _, rfl, rfl, h5, by rw [List.length_map]; exact small1000 (by omega), some (iv m), ts ++ [t], rfl, same_upd2 hrw (s34.trans s5), ?_, ?_⟩
        · rw [upd_same, List.map_append]
          rfl
        · rw [rowC_succ]
          refine Al.snoc (hT.mono fun x y z => PairTT.upd (z.mono (s4.trans s5)) h5) ?_
          exact PairTT.upd (show upd H4 t _ t = _ from upd_same) h5
      · rintro σ H3 ⟨v4, ts, rfl, s3, h3, hT⟩
        have h4 := s3 _ _ h2
        have hbl : bs.length ≤ 64 := by rw [hB.1, List.length_take]; omega
        refine ⟨_, rfl, .inl ⟨rfl, _, SqL.of h4⟩, _, rfl, fa, _, _, rfl, rfl, h4, by rw [List.length_map]; exact small1000 (by omega), some (.ref c), some (.ref rw_), v4, bs ++ [rw_], rfl, ?_, ?_, ?_⟩
        · rw [del_upd]
          exact s2.trans (del_mono s3)
        · rw [upd_same, List.map_append]
          rfl
        · rw [del_upd, moves_take hv]
          exact Al.snoc (hB.mono fun x y z => z.mono (del_mono s3)) (RowTT.del ⟨ts, h3, hT⟩ nrf h4)
    · rintro σ H' ⟨v2, v3, v4, bs, rfl, s2, h2, hB⟩
      rw [hlen, ← moves_len, List.take_length] at hB
      refine ⟨_, rfl, q H' fa ?_ hfa ⟨bs, SqL.of h2, hB.mono fun x y z => (z.mono del_sub).l⟩⟩
      exact ((same_del hfa (s0.trans s1)).trans s2).trans del_sub
end
end Pc
namespace Pc
open PySem PySem.Spec PyProof.Rows L2 Crewm
/-- lowest terms of a / b -/
def lowM (a b : Nat) : Nat × Nat := (a / Nat.gcd a b, b / Nat.gcd a b)
section
variable {P : Program} {w : World} {K : PySem.W.Frag} {mg : Str → Option Value} {base : Heap}
/-! ### lowest -/
def spLow : Sp := fun vs H Q _ => ∃ (a b : Nat), vs = [iv a, iv b] ∧ 0 < b ∧ b < 1000000 ∧
  ∀ (H' : Hp) (t : Addr), Same H H' → H t = none → H' t = some (.tup [iv (lowM a b).1, iv (lowM a b).2]) → Q (.ref t) H'
theorem scLow : FnScope ["above", "below", "one", "other"] ["above", "below"] (defScope (top 13)) := ⟨rfl, rfl, rfl, by decide +kernel, rfl, by decide +kernel, by decide +kernel⟩
def slotN (i : Nat) (σ : L2.St) : Nat := match σ[i]? with
  | some (some (.int z)) => z.toNat
  | _ => 0
theorem ok_low (D : Dn K mg "lowest" (top 13) ["above", "below"]) : Cal P w K mg base CX0 1 "lowest" ["above", "below"] spLow := by
  refine D.ok scLow (fun vs H Q E h => ?_) (fun f cdv A outer s H vs Q E hr h => ?_)
  · obtain ⟨a, b, rfl, _⟩ := h
    rfl
  · refine ⟨_, pss_cons (ps_par (i := 2) (j := 3) (by rfl) scLow.nd rfl rfl (by decide) rfl rfl (pa_cons (pv 0) (pa_cons (pv 1) pa_nil)) (by rfl))
      (pss_cons (ps_while PassesOwn.never (pt_cmpR op_gt (pv 3) pe_int (nomark _))
        (pss_one (ps_par (i := 2) (j := 3) (by rfl) scLow.nd rfl rfl (by decide) rfl rfl (pa_cons (pv 3) (pa_cons (pe_op op_mod (pv 2) (pv 3)) pa_nil)) (by rfl))))
      (pss_one (ps_ret (pe_tup (pa_cons (pe_op op_fdiv (pv 0) (pv 2)) (pa_cons (pe_op op_fdiv (pv 1) (pv 2)) pa_nil)))))), ?_⟩
    obtain ⟨a, b, rfl, hb0, hb1, q⟩ := h
    refine ⟨_, rfl, _, rfl, _, _, rfl, ?_⟩
    refine while_by (fun σ H' => ∃ x y : Nat, σ = [some (iv a), some (iv b), some (iv x), some (iv y)] ∧ Nat.gcd x y = Nat.gcd a b ∧ H' = H) (fun σ _ => slotN 3 σ) ⟨a, b, rfl, rfl, rfl⟩ ?_ ?_
    · rintro σ H' ⟨x, y, rfl, hg, rfl⟩
      refine ⟨_, rfl, _, _, rfl, rfl, _, rfl, ifB (fun e => ?_) (fun e => ?_)⟩
      · have e' : (0 : Int) < (y : Int) := decT e
        refine ⟨_, rfl, _, rfl, _, rfl, _, _, rfl, rfl, e', _, _, rfl, ⟨y, x % y, rfl, ?_, rfl⟩, ?_⟩
        · rw [Nat.gcd_comm y (x % y), ← Nat.gcd_rec, Nat.gcd_comm, hg]
        · show ((x : Int) % (y : Int)).toNat < ((y : Nat) : Int).toNat
          have := Nat.mod_lt x (show 0 < y by omega)
          have e2 : ((x : Int) % (y : Int)).toNat = x % y := rfl
          rw [e2]
          exact this
      · have e' : ¬ (0 : Int) < (y : Int) := decF e
        have hy : y = 0 := by omega
        subst hy
        rw [Nat.gcd_zero_right] at hg
        subst hg
        have hg0 : 0 < Nat.gcd a b := Nat.gcd_pos_of_pos_right a hb0
        have hgb : Nat.gcd a b ≤ b := Nat.gcd_le_right a hb0
        have hc : CDiv (a : Int) ((Nat.gcd a b : Nat) : Int) := ⟨by omega, by omega⟩
        refine ⟨_, rfl, _, rfl, _, _, rfl, rfl, hc, _, rfl, _, rfl, _, _, rfl, rfl, hc, (by show 2 ≤ sizeLine; decide), fun t ht => ?_⟩
        exact q _ t (same_upd ht) ht upd_same
    · rintro σ H' Q1 Q2 hQ ⟨v, e, i, j, e1, e2, k, e3, z⟩
      exact ⟨v, e, i, j, e1, e2, k, e3, hQ _ _ z⟩
/-! ### is_less -/
def FrT (K : PySem.W.Frag) (H : Hp) (t : Addr) (f : Fr) : Prop := SqT K H t [.int f.1, iv f.2]
def spLess (K : PySem.W.Frag) : Sp := fun vs H Q _ => ∃ (s t : Addr) (p q : Fr), vs = [.ref s, .ref t] ∧ FrT K H s p ∧ FrT K H t q ∧ p.2 ≤ 1000 ∧ q.2 ≤ 1000 ∧ Q (.bl (isLess p q)) H
theorem scLess : FnScope ["one", "other"] ["one", "other"] (defScope (top 14)) := ⟨rfl, rfl, rfl, by decide +kernel, rfl, by decide +kernel, by decide +kernel⟩
theorem ok_less (D : Dn K mg "is_less" (top 14) ["one", "other"]) : Cal P w K mg base CX0 1 "is_less" ["one", "other"] (spLess K) := by
  refine D.ok scLess (fun vs H Q E h => ?_) (fun f cdv A outer s H vs Q E hr h => ?_)
  · obtain ⟨a, b, p, q, rfl, _⟩ := h
    rfl
  · refine ⟨_, pss_one (ps_ret (pe_cmpR op_lt (pe_op op_mul (pe_ix ix_tup (pv 0) pe_int (fun _ _ => rfl)) (pe_ix ix_tup (pv 1) pe_int (fun _ _ => rfl)))
      (pe_op op_mul (pe_ix ix_tup (pv 1) pe_int (fun _ _ => rfl)) (pe_ix ix_tup (pv 0) pe_int (fun _ _ => rfl))) (nomark _))), ?_⟩
    obtain ⟨a, b, p, q, rfl, ha, hb, hp, hq, z⟩ := h
    have c1 : CMul p.1 ((q.2 : Nat) : Int) := .inr ⟨by omega, by omega⟩
    have c2 : CMul q.1 ((p.2 : Nat) : Int) := .inr ⟨by omega, by omega⟩
    exact ⟨_, rfl, a, _, _, _, rfl, rfl, ha, rfl, _, rfl, b, _, _, _, rfl, rfl, hb, rfl, _, _, rfl, rfl, c1, _, rfl, b, _, _, _, rfl, rfl, hb, rfl, _, rfl, a, _, _, _, rfl, rfl, ha, rfl, _, _, rfl, rfl, c2, _, _, rfl, rfl, z⟩
/-! ### interval_mean -/
def intN (l : List Nat) (i : Nat) : Nat := Kqk6.sum ((List.range i).map fun age => l.getD (min age (l.length - 1)) 0)
theorem intN_succ (l : List Nat) (i : Nat) : intN l (i + 1) = intN l i + l.getD (min i (l.length - 1)) 0 := by
  unfold intN
  rw [List.range_succ, List.map_append]
  exact sum_snoc _ _
def spInt (K : PySem.W.Frag) : Sp := fun vs H Q _ => ∃ (p : Addr) (l : List Nat) (k : Nat), vs = [.ref p, iv k] ∧ NatsL K H p l ∧ 0 < l.length ∧ l.length ≤ 1000 ∧ 0 < k ∧ k ≤ 20 ∧
  ∀ (H' : Hp) (t : Addr), Same H H' → H t = none → H' t = some (.tup [iv (lowM (Kqk6.intervalOutput l k) k).1, iv (lowM (Kqk6.intervalOutput l k) k).2]) → Q (.ref t) H'
theorem scInt : FnScope ["outputs", "interval", "total", "age"] ["outputs", "interval"] (defScope (top 20)) := ⟨rfl, rfl, rfl, by decide +kernel, rfl, by decide +kernel, by decide +kernel⟩
theorem ok_int (B : Blt mg) (D : Dn K mg "interval_mean" (top 20) ["outputs", "interval"]) (C : Cal P w K mg base CX0 1 "lowest" ["above", "below"] spLow) : Cal P w K mg base CX0 2 "interval_mean" ["outputs", "interval"] (spInt K) := by
  refine D.ok scInt (fun vs H Q E h => ?_) (fun f cdv A outer s H vs Q E hr h => ?_)
  · obtain ⟨p, l, k, rfl, _⟩ := h
    rfl
  · refine ⟨_, pss_cons (ps_set (i := 2) scInt.nd rfl (.inl rfl) pe_int)
      (pss_cons (ps_for PassesOwn.never rfl (pi_range1 rfl B.range (pa_cons (pe_op op_sub (pv 1) pe_int) pa_nil)) (pg_name (i := 3) scInt.nd rfl (.inl rfl))
        (pss_one (ps_aug (i := 2) scInt.nd rfl (.inl rfl) (pe_ix ix_list (pv 0) (pe_callB (call_min2 rfl) (by rfl) B.min (by decide +kernel) (pa_cons (pv 3)
          (pa_cons (pe_op op_sub (pe_callB call_len_seq (by rfl) B.len PySem.boot_len (pa_cons (pv 0) pa_nil)) pe_int) pa_nil))) (fun _ _ => rfl)) ip_add)))
      (pss_one (ps_ret (pe_cal (E := E1) C hr pass1 (pa_cons (pv 2) (pa_cons (pv 1) pa_nil)))))), ?_⟩
    obtain ⟨p, l, k, rfl, hp, hl0, hl1, hk0, hk1, q⟩ := h
    refine ⟨_, rfl, _, _, rfl, rfl, _, rfl, by omega, by omega, for_r0 (n := ((k : Int) - 1).toNat) (fun i σ H' => ∃ v, σ = [some (.ref p), some (iv k), some (iv (intN l i)), v] ∧ H' = H) ⟨_, rfl, rfl⟩ ?_ ?_⟩
    · rintro i σ H' hi ⟨v, rfl, rfl⟩
      have z : (if ((l.map iv).length : Int) - 1 < ((i : Nat) : Int) then ((l.map iv).length : Int) - 1 else ((i : Nat) : Int)) = ((min i (l.length - 1) : Nat) : Int) := by
        rw [List.length_map]
        split <;> omega
      refine ⟨_, rfl, _, rfl, _, rfl, _, rfl, p, _, rfl, .inl hp, _, _, rfl, rfl, _, _, rfl, p, _, _, _, rfl, rfl, hp, (by rw [z]; exact at_nat (by omega)), _, _, rfl, rfl, ?_⟩
      refine ⟨some (iv i), ?_, rfl⟩
      rw [intN_succ]
      rfl
    · rintro σ H' ⟨v, rfl, rfl⟩
      have e : ((k : Int) - 1).toNat = k - 1 := by omega
      rw [e]
      exact ⟨_, rfl, _, rfl, _, k, rfl, hk0, by omega, fun H2 t s2 ht h2 => q H2 t s2 ht h2⟩
end
end Pc
namespace Pc
open PySem PySem.Spec PyProof.Rows L2 Crewm
theorem flat_rep {α : Type} (v : α) : ∀ n : Nat, (List.replicate n [v]).flatten = List.replicate n v
  | 0 => rfl
  | n + 1 => by
    rw [List.replicate_succ, List.flatten_cons, flat_rep v n, List.replicate_succ]
    rfl
theorem ixN_nat {n j : Nat} (h : j < n) : ixN n (j : Int) = some j := by
  unfold ixN
  rw [if_pos (by omega), if_pos (by omega)]
  rfl
/-- every move leads to a place -/
def MvOk (mv : List (List (Nat × Nat))) : Prop := mv.length ≤ 64 ∧ ∀ r, r ∈ mv → ∀ e, e ∈ r → e.1 < mv.length
theorem mvOk {ps : List (List Nat)} (g : Good ps) : MvOk (movesM ps) := by
  refine ⟨by rw [moves_len]; exact g.cntS, fun r hr e he => ?_⟩
  rw [moves_len]
  unfold movesM at hr
  obtain ⟨as, ha, rfl⟩ := List.mem_map.mp hr
  obtain ⟨c, _, rfl⟩ := List.mem_map.mp he
  exact plc_lt (va_next (states_mem.1 ha))
def OptT (H : Hp) (b : Addr) (row : List (Option Nat)) : Prop := H b = some (.lst (row.map oV))
theorem OptT.mono {H H' : Hp} {b : Addr} {row : List (Option Nat)} (h : OptT H b row) (s : Same H H') : OptT H' b row := s _ _ h
theorem at_opt {l : List (Option Nat)} {i : Nat} (h : i < l.length) : atI (l.map oV) (i : Int) = some (oV (l.getD i none)) := at_map (by rw [List.getD_eq_getElem?_getD, List.getElem?_eq_getElem h]; rfl)
theorem dN {x : V} (h : (!decide (x = V.non)) = true) : x ≠ .non := fun e => by
  subst e
  simp at h
theorem dN0 {x : V} (h : (!decide (x = V.non)) = false) : x = .non := by
  simp at h
  exact h
section
variable {P : Program} {w : World} {K : PySem.W.Frag} {mg : Str → Option Value} {base : Heap}
/-! ### one_day_more -/
def spMore (K : PySem.W.Frag) : Sp := fun vs H Q _ => ∃ (m r : Addr) (mv : List (List (Nat × Nat))) (row : List (Option Nat)), vs = [.ref m, .ref r] ∧ MovesL K H m mv ∧ OptsL K H r row ∧ MvOk mv ∧ row.length = mv.length ∧
  ∀ (H' : Hp) (p : Addr), Same H H' → H p = none → OptT H' p (oneDay mv row) → Q (.ref p) H'
theorem scMore : FnScope ["moves", "row", "found", "place", "beyond", "output"] ["moves", "row"] (defScope (top 15)) := ⟨rfl, rfl, rfl, by decide +kernel, rfl, by decide +kernel, by decide +kernel⟩
theorem ok_more (B : Blt mg) (D : Dn K mg "one_day_more" (top 15) ["moves", "row"]) : Cal P w K mg base CX0 1 "one_day_more" ["moves", "row"] (spMore K) := by
  refine D.ok scMore (fun vs H Q E h => ?_) (fun f cdv A outer s H vs Q E hr h => ?_)
  · obtain ⟨m, r, mv, row, rfl, _⟩ := h
    rfl
  · refine ⟨_, pss_cons (ps_set (i := 2) scMore.nd rfl (.inl rfl) (pe_op op_rep (pe_lst (pa_cons pe_non pa_nil)) (pe_callB call_len_seq (by rfl) B.len PySem.boot_len (pa_cons (pv 0) pa_nil))))
      (pss_cons (ps_for PassesOwn.never rfl (pi_range1 rfl B.range (pa_cons (pe_callB call_len_seq (by rfl) B.len PySem.boot_len (pa_cons (pv 0) pa_nil)) pa_nil)) (pg_name (i := 3) scMore.nd rfl (.inl rfl))
        (pss_one (ps_if (pt_cmpR op_notN (pe_ix ix_list (pv 1) (pv 3) (fun _ _ => rfl)) pe_non (nomark _))
          (pss_one (ps_for PassesOwn.never rfl (pi_list (pe_ix ix_list (pv 0) (pv 3) (fun _ _ => rfl))) (pg_tup (by rfl) (pgs_cons (pg_name (i := 4) scMore.nd rfl (.inl rfl)) (pgs_cons (pg_name (i := 5) scMore.nd rfl (.inl rfl)) pgs_nil)))
            (pss_one (ps_if (PW.pt (pw_or (pt_cmpR op_isN (pe_ix ix_list (pv 2) (pv 4) (fun _ _ => rfl)) pe_non (nomark _))
                (pw_or1 (pt_cmpR op_lt (pe_ix ix_list (pv 2) (pv 4) (fun _ _ => rfl)) (pe_op op_add (pe_ix ix_list (pv 1) (pv 3) (fun _ _ => rfl)) (pv 5)) (nomark _)))))
              (pss_one (ps_asg (pe_op op_add (pe_ix ix_list (pv 1) (pv 3) (fun _ _ => rfl)) (pv 5)) (pg_sub (pv 2) (pv 4) set_list))) pss_nil)))) pss_nil)))
      (pss_one (ps_ret (pv 2)))), ?_⟩
    obtain ⟨m, r, mv, row, rfl, ⟨ms, hm, hA⟩, hrow, ⟨h64, hmv⟩, hlen, q⟩ := h
    have hl : (ms.map V.ref).length = mv.length := by rw [List.length_map, hA.1]
    have hb := lt62 (n := mv.length) (by omega)
    refine ⟨(by show 1 ≤ sizeLine; decide), fun q1 hq1 => ?_⟩
    have s1 := same_upd (o := .lst [V.non]) hq1
    refine ⟨_, rfl, m, _, rfl, .inl (s1.seq hm), q1, _, _, rfl, rfl, upd_same, ?_⟩
    rw [hl]
    refine ⟨by omega, by omega, ?_, fun fa hfa => ?_⟩
    · show 1 * ((mv.length : Nat) : Int).toNat ≤ sizeLine
      have : 1 * ((mv.length : Nat) : Int).toNat = mv.length := by omega
      rw [this]
      exact Nat.le_of_lt (small1000 (by omega))
    have s2 := s1.trans (same_upd (o := .lst (List.replicate ((mv.length : Nat) : Int).toNat [V.non]).flatten) hfa)
    have hf0 : H fa = none := s1.free hfa
    refine ⟨_, rfl, m, _, rfl, .inl (s2.seq hm), _, rfl, by rw [hl]; exact hb.1, by rw [hl]; exact hb.2, ?_⟩
    rw [hl]
    refine for_r0 (n := mv.length) (fun i σ H' => ∃ v3 v4 v5, σ = [some (.ref m), some (.ref r), some (.ref fa), v3, v4, v5] ∧ Same H H' ∧ OptT H' fa ((List.range i).foldl (turnM mv row) (List.replicate mv.length none))) ⟨none, none, none, rfl, s2, ?_⟩ ?_ ?_
    · show upd _ fa _ fa = _
      rw [upd_same, flat_rep]
      show _ = some (HO.lst ((List.replicate mv.length none).map oV))
      rw [List.map_replicate]
      rfl
    · rintro i σ H' hi ⟨v3, v4, v5, rfl, s3, h3⟩
      rw [List.range_succ, List.foldl_append, List.foldl_cons, List.foldl_nil]
      have hFl : ((List.range i).foldl (turnM mv row) (List.replicate mv.length none)).length = mv.length := by rw [turns_len, List.length_replicate]
      generalize (List.range i).foldl (turnM mv row) (List.replicate mv.length none) = F at h3 hFl
      refine ⟨_, rfl, _, rfl, r, _, _, _, rfl, rfl, hrow.same s3, at_opt (by omega), rfl, _, rfl, ifB (fun e => ?_) (fun e => ?_)⟩
      · have e' := dN e
        cases hz : row.getD i none with
        | none =>
          rw [hz] at e'
          exact absurd rfl e'
        | some t =>
          obtain ⟨b, hb1, hb2⟩ := hA.get (List.getElem?_eq_getElem hi)
          obtain ⟨ts, hts, hT⟩ := hb2
          have hmem := hmv _ (List.getElem_mem hi)
          have hturn : turnM mv row F i = (mv[i]).foldl (relax t) F := by
            unfold turnM
            rw [hz, List.getD_eq_getElem?_getD, List.getElem?_eq_getElem hi]
            rfl
          rw [hturn]
          refine ⟨_, rfl, _, rfl, m, _, _, _, rfl, rfl, s3.seq hm, at_map hb1, b, rfl, ⟨_, s3.seq hts⟩, for_list (K := K) (a := b) (xs := ts.map V.ref) (fun j σ H' => ∃ v4 v5, σ = [some (.ref m), some (.ref r), some (.ref fa), some (iv i), v4, v5] ∧ Same H H' ∧ OptT H' fa ((mv[i].take j).foldl (relax t) F))
            ⟨_, _, rfl, s3, h3⟩ (fun j σ H' _ ⟨_, _, _, s4, _⟩ => s4.seq hts) ?_ ?_⟩
          · rintro j y σ H4 hj ⟨v4, v5, rfl, s4, h4⟩
            obtain ⟨c, hc, rfl⟩ := map_at hj
            obtain ⟨ed, hed, hce⟩ := hT.of hc
            rw [take_snoc hed, List.foldl_append, List.foldl_cons, List.foldl_nil]
            have hGl : ((mv[i].take j).foldl (relax t) F).length = mv.length := by rw [relaxs_len, hFl]
            generalize (mv[i].take j).foldl (relax t) F = G at h4 hGl
            have he1 := hmem ed (List.mem_of_getElem? hed)
            have hat := at_opt (l := G) (i := ed.1) (by omega)
            have hrt : atI (row.map oV) ((i : Nat) : Int) = some (iv t) := by
              have := at_opt (l := row) (i := i) (by omega)
              rw [hz] at this
              exact this
            have fin : ∀ {v3' v4' : Option V}, OptT (upd H4 fa (.lst ((G.map oV).set ed.1 (.int ((t : Int) + (ed.2 : Int)))))) fa (G.set ed.1 (some (t + ed.2))) := fun {_ _} => by
              unfold OptT
              rw [upd_same, List.map_set]
              rfl
            refine ⟨c, _, rfl, Same.tup s4 hce, rfl, _, _, rfl, _, _, rfl, rfl, ?_⟩
            refine ⟨_, rfl, _, rfl, fa, _, _, _, rfl, rfl, SqL.of h4, hat, rfl, _, rfl, ifB (fun e2 => ?_) (fun e2 => ?_)⟩
            · have e3 : oV (G.getD ed.1 none) = .non := decT e2
              have hrel : relax t G ed = G.set ed.1 (some (t + ed.2)) := by
                unfold relax
                cases hG : G.getD ed.1 none with
                | none => rfl
                | some y => rw [hG] at e3; cases e3
              refine iteT ?_
              refine ⟨_, rfl, _, rfl, r, _, _, _, rfl, rfl, hrow.same s4, hrt, _, rfl, _, _, rfl, rfl, _, rfl, _, rfl, fa, _, _, _, rfl, rfl, h4, ixN_nat (by rw [List.length_map]; omega), _, _, rfl, same_upd2 hf0 s4, ?_⟩
              rw [hrel]
              exact fin (v3' := none) (v4' := none)
            · have e3 : ¬ oV (G.getD ed.1 none) = .non := decF e2
              cases hG : G.getD ed.1 none with
              | none => rw [hG] at e3; exact absurd rfl e3
              | some y =>
                rw [hG] at hat
                refine ⟨_, rfl, _, rfl, fa, _, _, _, rfl, rfl, SqL.of h4, hat, _, rfl, _, rfl, r, _, _, _, rfl, rfl, hrow.same s4, hrt, _, rfl, _, _, rfl, rfl, _, _, rfl, rfl, _, rfl, ifB (fun e4 => ?_) (fun e4 => ?_)⟩
                · have e5 : (y : Int) < (t : Int) + (ed.2 : Int) := decT e4
                  have hrel : relax t G ed = G.set ed.1 (some (t + ed.2)) := by
                    unfold relax
                    rw [hG]
                    exact if_pos (by omega)
                  refine ⟨_, rfl, _, rfl, r, _, _, _, rfl, rfl, hrow.same s4, hrt, _, rfl, _, _, rfl, rfl, _, rfl, _, rfl, fa, _, _, _, rfl, rfl, h4, ixN_nat (by rw [List.length_map]; omega), _, _, rfl, same_upd2 hf0 s4, ?_⟩
                  rw [hrel]
                  exact fin (v3' := none) (v4' := none)
                · have e5 : ¬ (y : Int) < (t : Int) + (ed.2 : Int) := decF e4
                  have hrel : relax t G ed = G := by
                    unfold relax
                    rw [hG]
                    exact if_neg (by omega)
                  rw [hrel]
                  exact ⟨_, _, rfl, s4, h4⟩
          · rintro σ H4 ⟨v4, v5, rfl, s4, h4⟩
            rw [List.length_map, hT.1, List.take_length] at h4
            exact ⟨_, v4, v5, rfl, s4, h4⟩
      · have e' := dN0 e
        have hz : row.getD i none = none := by
          cases hz : row.getD i none with
          | none => rfl
          | some t => rw [hz] at e'; cases e'
        have hturn : turnM mv row F i = F := by
          unfold turnM
          rw [hz]
        rw [hturn]
        exact ⟨_, v4, v5, rfl, s3, h3⟩
    · rintro σ H' ⟨v3, v4, v5, rfl, s3, h3⟩
      exact ⟨_, rfl, q H' fa s3 hf0 h3⟩
end
end Pc
namespace Pc
open PySem PySem.Spec PyProof.Rows L2 Crewm
theorem RowsL.at_ {K : PySem.W.Frag} {H : Hp} {a : Addr} {rows : List (List (Option Nat))} (h : RowsL K H a rows) {i : Nat} (hi : i < rows.length) : ∃ (ys : List V) (b : Addr), SqL K H a ys ∧ atI ys (i : Int) = some (V.ref b) ∧ ys.length = rows.length ∧ OptsL K H b (rows.getD i []) := by
  obtain ⟨as, h1, h2⟩ := h
  obtain ⟨b, e, r⟩ := h2.get (List.getElem?_eq_getElem hi)
  refine ⟨_, b, h1, at_map e, by rw [List.length_map, h2.1], ?_⟩
  rw [List.getD_eq_getElem?_getD, List.getElem?_eq_getElem hi]
  exact r
theorem RowsL.last {K : PySem.W.Frag} {H : Hp} {a : Addr} {rows : List (List (Option Nat))} {row : List (Option Nat)} (h : RowsL K H a (rows ++ [row])) : ∃ (ys : List V) (b : Addr), SqL K H a ys ∧ atI ys (-1) = some (V.ref b) ∧ OptsL K H b row := by
  obtain ⟨as, h1, h2⟩ := h
  have hl := h2.1
  rw [List.length_append] at hl
  have hne : as ≠ [] := fun z => by rw [z] at hl; simp at hl
  obtain ⟨as', b, rfl⟩ : ∃ as' b, as = as' ++ [b] := ⟨as.dropLast, as.getLast hne, (List.dropLast_concat_getLast hne).symm⟩
  have hl2 : as'.length = rows.length := by simpa using hl
  refine ⟨_, b, h1, by rw [List.map_append]; exact atI_last _ _, h2.2 as'.length b row (by simp) (by rw [hl2]; simp)⟩
def rowsM (mv : List (List (Nat × Nat))) (i : Nat) : List (List (Option Nat)) := (List.range i).map (rowN mv)
theorem rowsM_succ (mv : List (List (Nat × Nat))) (i : Nat) : rowsM mv (i + 1) = rowsM mv i ++ [rowN mv i] := by
  unfold rowsM
  rw [List.range_succ, List.map_append]
  rfl
theorem rowsM_len (mv : List (List (Nat × Nat))) (i : Nat) : (rowsM mv i).length = i := by
  unfold rowsM
  rw [List.length_map, List.length_range]
theorem rowsM_at (mv : List (List (Nat × Nat))) {i k : Nat} (h : k < i) : (rowsM mv i).getD k [] = rowN mv k := getD_map_range h
theorem OptT.l {K : PySem.W.Frag} {H : Hp} {b : Addr} {row : List (Option Nat)} (h : OptT H b row) : OptsL K H b row := SqL.of h
section
variable {P : Program} {w : World} {K : PySem.W.Frag} {mg : Str → Option Value} {base : Heap}
/-! ### walk_rows -/
def spRows (K : PySem.W.Frag) : Sp := fun vs H Q _ => ∃ (m : Addr) (mv : List (List (Nat × Nat))), vs = [.ref m] ∧ MovesL K H m mv ∧ MvOk mv ∧
  ∀ (H' : Hp) (p : Addr), Same H H' → H p = none → RowsL K H' p (rowsM mv (mv.length + 1)) → Q (.ref p) H'
theorem scRows : FnScope ["moves", "rows", "turn"] ["moves"] (defScope (top 16)) := ⟨rfl, rfl, rfl, by decide +kernel, rfl, by decide +kernel, by decide +kernel⟩
theorem ok_rows (B : Blt mg) (D : Dn K mg "walk_rows" (top 16) ["moves"]) (C : Cal P w K mg base CX0 1 "one_day_more" ["moves", "row"] (spMore K)) : Cal P w K mg base CX0 2 "walk_rows" ["moves"] (spRows K) := by
  refine D.ok scRows (fun vs H Q E h => ?_) (fun f cdv A outer s H vs Q E hr h => ?_)
  · obtain ⟨m, mv, rfl, _⟩ := h
    rfl
  · refine ⟨_, pss_cons (ps_set (i := 1) scRows.nd rfl (.inl rfl) (pe_lst (pa_cons (pe_op op_rep (pe_lst (pa_cons pe_int pa_nil)) (pe_callB call_len_seq (by rfl) B.len PySem.boot_len (pa_cons (pv 0) pa_nil))) pa_nil)))
      (pss_cons (ps_for PassesOwn.never rfl (pi_range1 rfl B.range (pa_cons (pe_callB call_len_seq (by rfl) B.len PySem.boot_len (pa_cons (pv 0) pa_nil)) pa_nil)) (pg_name (i := 2) scRows.nd rfl (.inl rfl))
        (pss_one (ps_expr (pe_bm PySem.F.plainAttrs_list PySem.F.slot_list_append PySem.F.type_list_append mt_append (pv 1) (pa_cons
          (pe_cal (E := E1) C hr pass1 (pa_cons (pv 0) (pa_cons (pe_ix ix_list (pv 1) (pe_un un_neg pe_int) (fun _ _ => rfl)) pa_nil))) pa_nil)))))
      (pss_one (ps_ret (pv 1)))), ?_⟩
    obtain ⟨m, mv, rfl, hm0, hok, q⟩ := h
    obtain ⟨ms, hm, hA⟩ := id hm0
    have h64 := hok.1
    have hl : (ms.map V.ref).length = mv.length := by rw [List.length_map, hA.1]
    have hb := lt62 (n := mv.length) (by omega)
    refine ⟨(by show 1 ≤ sizeLine; decide), fun q1 hq1 => ?_⟩
    have s1 := same_upd (o := .lst [V.int 0]) hq1
    refine ⟨_, rfl, m, _, rfl, .inl (s1.seq hm), q1, _, _, rfl, rfl, upd_same, ?_⟩
    rw [hl]
    refine ⟨by omega, by omega, ?_, fun q2 hq2 => ?_⟩
    · show 1 * ((mv.length : Nat) : Int).toNat ≤ sizeLine
      have : 1 * ((mv.length : Nat) : Int).toNat = mv.length := by omega
      rw [this]
      exact Nat.le_of_lt (small1000 (by omega))
    have s2 := s1.trans (same_upd (o := .lst (List.replicate ((mv.length : Nat) : Int).toNat [V.int 0]).flatten) hq2)
    refine ⟨(by show 1 ≤ sizeLine; decide), fun fa hfa => ?_⟩
    have s3 := s2.trans (same_upd (o := .lst [V.ref q2]) hfa)
    have hf0 : H fa = none := s2.free hfa
    have n2 : q2 ≠ fa := fun z => by rw [← z, upd_same] at hfa; cases hfa
    refine ⟨_, rfl, m, _, rfl, .inl (s3.seq hm), _, rfl, by rw [hl]; exact hb.1, by rw [hl]; exact hb.2, ?_⟩
    rw [hl]
    refine for_r0 (n := mv.length) (fun i σ H' => ∃ v2 bs, σ = [some (.ref m), some (.ref fa), v2] ∧ Same H H' ∧ H' fa = some (.lst (bs.map V.ref)) ∧ Al (OptT (del H' fa)) bs (rowsM mv (i + 1))) ⟨none, [q2], rfl, s3, upd_same, ?_⟩ ?_ ?_
    · rw [rowsM_succ]
      refine Al.snoc (b := q2) Al.nil ?_
      show del _ fa q2 = _
      rw [del_ne n2, upd_ne n2, upd_same, flat_rep]
      show _ = some (HO.lst ((List.replicate mv.length (some 0)).map oV))
      rw [List.map_replicate]
      rfl
    · rintro i σ H' hi ⟨v2, bs, rfl, s4, h4, hB⟩
      have hbl : bs.length = i + 1 := by rw [hB.1, rowsM_len]
      have hR : RowsL K H' fa (rowsM mv (i + 1)) := ⟨bs, SqL.of h4, hB.mono fun x y z => (z.mono del_sub).l⟩
      rw [rowsM_succ] at hR
      obtain ⟨ys, b, hy1, hy2, hy3⟩ := hR.last
      refine ⟨_, rfl, .inl ⟨rfl, _, SqL.of h4⟩, _, rfl, _, rfl, _, rfl, fa, _, _, _, rfl, rfl, hy1, hy2, m, b, mv, _, rfl, hm0.same s4, hy3, hok, rowN_len mv i, fun H2 r2 s5 hr2 h5 => ?_⟩
      have n3 : r2 ≠ fa := fun z => by rw [z, h4] at hr2; cases hr2
      have h6 := s5 _ _ h4
      refine ⟨fa, _, _, rfl, rfl, h6, by rw [List.length_map]; exact small1000 (by omega), some (iv i), bs ++ [r2], rfl, same_upd2 hf0 (s4.trans s5), ?_, ?_⟩
      · rw [upd_same, List.map_append]
        rfl
      · rw [del_upd, rowsM_succ]
        refine Al.snoc (hB.mono fun x y z => z.mono (del_mono s5)) ?_
        show del _ fa r2 = _
        rw [del_ne n3]
        exact h5
    · rintro σ H' ⟨v2, bs, rfl, s4, h4, hB⟩
      exact ⟨_, rfl, q H' fa s4 hf0 ⟨bs, SqL.of h4, hB.mono fun x y z => (z.mono del_sub).l⟩⟩
/-! ### least_rise -/
def spRise (K : PySem.W.Frag) : Sp := fun vs H Q _ => ∃ (r : Addr) (j n x : Nat) (rows : List (List (Option Nat))), vs = [.ref r, iv j] ∧ RowsL K H r rows ∧ rows.length = n + 1 ∧ n ≤ 64 ∧ (∀ k, k ≤ n → j < (rows.getD k []).length) ∧ (rows.getD n []).getD j none = some x ∧
  ∀ (H' : Hp) (t : Addr), Same H H' → FrT K H' t (leastRise (fun k => (rows.getD k []).getD j none) n x) → Q (.ref t) H'
theorem scRise : FnScope ["rows", "place", "most", "found", "days", "rise"] ["rows", "place"] (defScope (top 17)) := ⟨rfl, rfl, rfl, by decide +kernel, rfl, by decide +kernel, by decide +kernel⟩
theorem for_r1 {n : Nat} {g : TG} {tb : TS} {D : Ends} {σ : L2.St} {H : Hp} (Pv : Nat → L2.St → Hp → Prop) (h0 : Pv 0 σ H)
    (hs : ∀ i σ H, i < n → Pv i σ H → g (iv (1 + i)) σ H fun σ2 H2 => tb { D with nx := Pv (i + 1), ct := Pv (i + 1), bk := D.nx } σ2 H2) (hd : ∀ σ H, Pv n σ H → D.nx σ H) :
    ∃ W : Nat → Nat → L2.St → Hp → Prop, (∃ m, W 0 m σ H) ∧ ∀ i m σ H, W i m σ H →
      ((Itr 1 n).stop i H ∧ D.nx σ H) ∨ ((Itr 1 n).go i H ∧ ∃ N : L2.St → Hp → Prop, (∀ σ' H', N σ' H' → ∃ m', m' < m ∧ W (i + 1) m' σ' H') ∧ ∀ x H', (Itr 1 n).yld i H x H' → g x σ H' fun σ2 H2 => tb { D with nx := N, ct := N, bk := D.nx } σ2 H2) :=
  for_range (lo := 1) Pv h0 (fun i σ H hi p => by rw [show ((1 : Int) + (i : Int)) = ((1 + i : Nat) : Int) from by omega]; exact hs i σ H hi p) hd
theorem riseN_succ (D : Nat → Option Nat) (n x i : Nat) : riseN D n x (i + 1) = stepR D n x (riseN D n x i) (1 + i) := by
  unfold riseN
  rw [List.range_succ, List.foldl_append, List.foldl_cons, List.foldl_nil]
theorem riseN_den (D : Nat → Option Nat) (n x : Nat) : ∀ i, (riseN D n x i).2 ≤ n
  | 0 => Nat.le_refl _
  | i + 1 => by
    rw [riseN_succ]
    have ih := riseN_den D n x i
    unfold stepR
    split
    · exact ih
    · split
      · exact Nat.sub_le _ _
      · exact ih
theorem ok_rise (B : Blt mg) (D : Dn K mg "least_rise" (top 17) ["rows", "place"]) (C : Cal P w K mg base CX0 1 "is_less" ["one", "other"] (spLess K)) : Cal P w K mg base CX0 2 "least_rise" ["rows", "place"] (spRise K) := by
  refine D.ok scRise (fun vs H Q E h => ?_) (fun f cdv A outer s H vs Q E hr h => ?_)
  · obtain ⟨r, j, n, x, rows, rfl, _⟩ := h
    rfl
  · refine ⟨_, pss_cons (ps_set (i := 2) scRise.nd rfl (.inl rfl) (pe_op op_sub (pe_callB call_len_seq (by rfl) B.len PySem.boot_len (pa_cons (pv 0) pa_nil)) pe_int))
      (pss_cons (ps_set (i := 3) scRise.nd rfl (.inl rfl) (pe_tup (pa_cons (pe_ix ix_list (pe_ix ix_list (pv 0) (pv 2) (fun _ _ => rfl)) (pv 1) (fun _ _ => rfl)) (pa_cons (pv 2) pa_nil))))
      (pss_cons (ps_for PassesOwn.never rfl (pi_range2 (by rfl) B.range (pa_cons pe_int (pa_cons (pv 2) pa_nil))) (pg_name (i := 4) scRise.nd rfl (.inl rfl))
        (pss_one (ps_if (pt_cmpR op_notN (pe_ix ix_list (pe_ix ix_list (pv 0) (pv 4) (fun _ _ => rfl)) (pv 1) (fun _ _ => rfl)) pe_non (nomark _))
          (pss_cons (ps_set (i := 5) scRise.nd rfl (.inl rfl) (pe_tup (pa_cons (pe_op op_sub (pe_ix ix_list (pe_ix ix_list (pv 0) (pv 2) (fun _ _ => rfl)) (pv 1) (fun _ _ => rfl)) (pe_ix ix_list (pe_ix ix_list (pv 0) (pv 4) (fun _ _ => rfl)) (pv 1) (fun _ _ => rfl)))
            (pa_cons (pe_op op_sub (pv 2) (pv 4)) pa_nil))))
          (pss_one (ps_if (pt_val (pe_cal (E := E1) C hr pass1 (pa_cons (pv 5) (pa_cons (pv 3) pa_nil)))) (pss_one (ps_set (i := 3) scRise.nd rfl (.inl rfl) (pv 5))) pss_nil))) pss_nil)))
      (pss_one (ps_ret (pv 3))))), ?_⟩
    obtain ⟨r, j, n, x, rows, rfl, hR, hlen, h64, hj, hx, q⟩ := h
    obtain ⟨ys, bn, hy1, hy2, hy3, hy4⟩ := hR.at_ (i := n) (by omega)
    have e1 : ((ys.length : Nat) : Int) - 1 = ((n : Nat) : Int) := by omega
    have hxn : atI ((rows.getD n []).map oV) ((j : Nat) : Int) = some (iv x) := by
      have := at_opt (hj n (Nat.le_refl _))
      rw [hx] at this
      exact this
    refine ⟨_, rfl, r, _, rfl, .inl hy1, _, _, rfl, rfl, ?_⟩
    dsimp only
    rw [e1]
    refine ⟨_, rfl, _, rfl, r, _, _, _, rfl, rfl, hy1, hy2, _, rfl, bn, _, _, _, rfl, rfl, hy4, hxn, _, rfl, (by show 2 ≤ sizeLine; decide), fun t0 ht0 => ?_⟩
    have s0 := same_upd (o := .tup [iv x, iv n]) ht0
    refine ⟨_, rfl, _, _, rfl, ⟨by omega, by omega, by omega, by omega⟩, for_r1 (n := ((n : Int) - 1).toNat) (fun i σ H' => ∃ v4 v5 t, σ = [some (.ref r), some (iv j), some (iv n), some (.ref t), v4, v5] ∧ Same H H' ∧ FrT K H' t (riseN (fun k => (rows.getD k []).getD j none) n x i))
      ⟨none, none, t0, rfl, s0, SqT.of upd_same⟩ ?_ ?_⟩
    · rintro i σ H' hi ⟨v4, v5, t, rfl, s1, hT⟩
      rw [riseN_succ]
      have hden := riseN_den (fun k => (rows.getD k []).getD j none) n x i
      generalize riseN (fun k => (rows.getD k []).getD j none) n x i = fr at hT hden
      have hin : 1 + i < n := by omega
      obtain ⟨ys2, b, hz1, hz2, hz3, hz4⟩ := hR.at_ (i := 1 + i) (by omega)
      have hat := at_opt (hj (1 + i) (by omega))
      refine ⟨_, rfl, _, rfl, r, _, _, _, rfl, rfl, s1.seq hz1, hz2, _, rfl, b, _, _, _, rfl, rfl, hz4.same s1, hat, rfl, _, rfl, ifB (fun e => ?_) (fun e => ?_)⟩
      · have e' := dN e
        cases hz : (rows.getD (1 + i) []).getD j none with
        | none =>
          rw [hz] at e'
          exact absurd rfl e'
        | some y =>
          rw [hz] at hat
          have hst : stepR (fun k => (rows.getD k []).getD j none) n x fr (1 + i) = if isLess ((x : Int) - y, n - (1 + i)) fr = true then ((x : Int) - y, n - (1 + i)) else fr := by
            unfold stepR
            dsimp only
            rw [hz]
          have e2 : ((n : Nat) : Int) - ((1 + i : Nat) : Int) = ((n - (1 + i) : Nat) : Int) := by omega
          rw [hst]
          refine ⟨_, rfl, _, rfl, r, _, _, _, rfl, rfl, s1.seq hy1, hy2, _, rfl, bn, _, _, _, rfl, rfl, hy4.same s1, hxn, _, rfl, _, rfl, r, _, _, _, rfl, rfl, s1.seq hz1, hz2, _, rfl, b, _, _, _, rfl, rfl, hz4.same s1, hat, _, _, rfl, rfl, _, rfl, _, rfl, _, _, rfl, rfl, (by show 2 ≤ sizeLine; decide), fun t2 ht2 => ?_⟩
          dsimp only
          rw [e2]
          have s2 := same_upd (o := .tup [.int ((x : Int) - (y : Int)), .int ((n - (1 + i) : Nat) : Int)]) ht2
          have hT2 : FrT K (upd H' t2 (.tup [.int ((x : Int) - (y : Int)), .int ((n - (1 + i) : Nat) : Int)])) t2 ((x : Int) - y, n - (1 + i)) := SqT.of upd_same
          have hT1 : FrT K (upd H' t2 (.tup [.int ((x : Int) - (y : Int)), .int ((n - (1 + i) : Nat) : Int)])) t fr := Same.tup s2 hT
          refine ⟨_, rfl, _, rfl, t2, t, _, _, rfl, hT2, hT1, by show n - (1 + i) ≤ 1000; omega, by omega, _, rfl, ifB (fun e3 => ?_) (fun e3 => ?_)⟩
          · refine ⟨_, rfl, _, _, t2, rfl, s1.trans s2, ?_⟩
            rw [if_pos e3]
            exact hT2
          · refine ⟨_, _, t, rfl, s1.trans s2, ?_⟩
            rw [if_neg (by rw [e3]; exact Bool.false_ne_true)]
            exact hT1
      · have e' := dN0 e
        have hz : (rows.getD (1 + i) []).getD j none = none := by
          cases hz : (rows.getD (1 + i) []).getD j none with
          | none => rfl
          | some t => rw [hz] at e'; cases e'
        have hst : stepR (fun k => (rows.getD k []).getD j none) n x fr (1 + i) = fr := by
          unfold stepR
          dsimp only
          rw [hz]
        rw [hst]
        exact ⟨_, v5, t, rfl, s1, hT⟩
    · rintro σ H' ⟨v4, v5, t, rfl, s1, hT⟩
      have e : ((n : Int) - 1).toNat = n - 1 := by omega
      rw [e] at hT
      exact ⟨_, rfl, q H' t s1 hT⟩
end
end Pc
namespace Pc
open PySem PySem.Spec PyProof.Rows L2 Crewm
theorem stepR_congr {D D' : Nat → Option Nat} {n x d : Nat} (f : Fr) (h : D d = D' d) : stepR D n x f d = stepR D' n x f d := by
  unfold stepR
  rw [h]
theorem riseN_congr {D D' : Nat → Option Nat} {n x : Nat} (h : ∀ k, k < n → D k = D' k) : ∀ i, i ≤ n - 1 → riseN D n x i = riseN D' n x i
  | 0, _ => rfl
  | i + 1, hi => by
    rw [riseN_succ, riseN_succ, riseN_congr h i (by omega), stepR_congr _ (h (1 + i) (by omega))]
theorem leastRise_congr {D D' : Nat → Option Nat} {n x : Nat} (h : ∀ k, k < n → D k = D' k) : leastRise D n x = leastRise D' n x := riseN_congr h _ (Nat.le_refl _)
theorem bestN_succ (D : Nat → Nat → Option Nat) (n i : Nat) : bestN D n (i + 1) = stepM D n (bestN D n i) i := by
  unfold bestN
  rw [List.range_succ, List.foldl_append, List.foldl_cons, List.foldl_nil]
section
variable {P : Program} {w : World} {K : PySem.W.Frag} {mg : Str → Option Value} {base : Heap}
/-! ### best_mean -/
def spMean (K : PySem.W.Frag) : Sp := fun vs H Q _ => ∃ (p : Addr) (ps : List (List Nat)), vs = [.ref p] ∧ PipesL K H p ps ∧ Good ps ∧
  ∀ (H' : Hp) (t : Addr), Same H H' → H t = none → H' t = some (.tup [.int (Kqk6.bestMean ps).num, iv (Kqk6.bestMean ps).den]) → Q (.ref t) H'
theorem scMean : FnScope ["pipes", "rows", "found", "place", "rise"] ["pipes"] (defScope (top 18)) := ⟨rfl, rfl, rfl, by decide +kernel, rfl, by decide +kernel, by decide +kernel⟩
theorem ok_mean (B : Blt mg) (D : Dn K mg "best_mean" (top 18) ["pipes"]) (C1 : Cal P w K mg base CX0 2 "all_moves" ["pipes"] (spMoves K)) (C2 : Cal P w K mg base CX0 2 "walk_rows" ["moves"] (spRows K))
    (C3 : Cal P w K mg base CX0 2 "least_rise" ["rows", "place"] (spRise K)) (C4 : Cal P w K mg base CX0 1 "is_less" ["one", "other"] (spLess K)) (C5 : Cal P w K mg base CX0 1 "lowest" ["above", "below"] spLow) :
    Cal P w K mg base CX0 3 "best_mean" ["pipes"] (spMean K) := by
  refine D.ok scMean (fun vs H Q E h => ?_) (fun f cdv A outer s H vs Q E hr h => ?_)
  · obtain ⟨p, ps, rfl, _⟩ := h
    rfl
  · have hr1 : Room 1 _ := hr.mono (by decide)
    refine ⟨_, pss_cons (ps_set (i := 1) scMean.nd rfl (.inl rfl) (pe_cal (E := E1) C2 hr pass1 (pa_cons (pe_cal (E := E1) C1 hr pass1 (pa_cons (pv 0) pa_nil)) pa_nil)))
      (pss_cons (ps_set (i := 2) scMean.nd rfl (.inl rfl) (pe_tup (pa_cons pe_int (pa_cons pe_int pa_nil))))
      (pss_cons (ps_for PassesOwn.never rfl (pi_range1 rfl B.range (pa_cons (pe_callB call_len_seq (by rfl) B.len PySem.boot_len (pa_cons (pe_ix ix_list (pv 1) (pe_un un_neg pe_int) (fun _ _ => rfl)) pa_nil)) pa_nil)) (pg_name (i := 3) scMean.nd rfl (.inl rfl))
        (pss_one (ps_if (pt_cmpR op_notN (pe_ix ix_list (pe_ix ix_list (pv 1) (pe_un un_neg pe_int) (fun _ _ => rfl)) (pv 3) (fun _ _ => rfl)) pe_non (nomark _))
          (pss_cons (ps_set (i := 4) scMean.nd rfl (.inl rfl) (pe_cal (E := E1) C3 hr pass1 (pa_cons (pv 1) (pa_cons (pv 3) pa_nil))))
          (pss_one (ps_if (pt_val (pe_cal (E := E1) C4 hr1 pass1 (pa_cons (pv 2) (pa_cons (pv 4) pa_nil)))) (pss_one (ps_set (i := 2) scMean.nd rfl (.inl rfl) (pv 4))) pss_nil))) pss_nil)))
      (pss_one (ps_ret (pe_cal (E := E1) C5 hr1 pass1 (pa_cons (pe_ix ix_tup (pv 2) pe_int (fun _ _ => rfl)) (pa_cons (pe_ix ix_tup (pv 2) pe_int (fun _ _ => rfl)) pa_nil))))))), ?_⟩
    obtain ⟨p, ps, rfl, hp, g, q⟩ := h
    have hok := mvOk g
    have h64 := hok.1
    have hn : (movesM ps).length = cntS ps := moves_len ps
    refine ⟨_, rfl, p, ps, rfl, hp, g, fun H1 m s1 hm0 hm => ⟨m, movesM ps, rfl, hm, hok, fun H2 rr s2 hr0 hR => ?_⟩⟩
    have s12 := s1.trans s2
    refine ⟨(by show 2 ≤ sizeLine; decide), fun t0 ht0 => ?_⟩
    have s3 := same_upd (o := .tup [V.int 0, V.int 1]) ht0
    have hRl := hR
    rw [rowsM_succ] at hRl
    obtain ⟨ys, b, hy1, hy2, hy3⟩ := hRl.last
    have hrl : ((rowN (movesM ps) (movesM ps).length).map oV).length = (movesM ps).length := by rw [List.length_map, rowN_len]
    have hb := lt62 (n := (movesM ps).length) (by omega)
    have hD0 : ∀ j, j < (movesM ps).length → (rowN (movesM ps) 0).getD j none = some 0 := fun j hj => by
      unfold rowN
      rw [List.getD_eq_getElem?_getD, List.getElem?_replicate, if_pos hj]
      rfl
    refine ⟨_, rfl, _, rfl, rr, _, _, _, rfl, rfl, s3.seq hy1, hy2, b, _, rfl, .inl (hy3.same s3), ?_⟩
    rw [hrl]
    refine ⟨_, rfl, hb.1, hb.2, for_r0 (n := (movesM ps).length) (fun i σ H' => ∃ v3 v4 t, σ = [some (.ref p), some (.ref rr), some (.ref t), v3, v4] ∧ Same H2 H' ∧ FrT K H' t (bestN (fun k j => (rowN (movesM ps) k).getD j none) (movesM ps).length i))
      ⟨none, none, t0, rfl, s3, SqT.of upd_same⟩ ?_ ?_⟩
    · rintro i σ H' hi ⟨v3, v4, t, rfl, s4, hT⟩
      rw [bestN_succ]
      have hden := (bestN_ok (fun k j => (rowN (movesM ps) k).getD j none) hD0 i (by omega)).1
      generalize bestN (fun k j => (rowN (movesM ps) k).getD j none) (movesM ps).length i = fr at hT hden
      have hat := at_opt (l := rowN (movesM ps) (movesM ps).length) (i := i) (by rw [rowN_len]; exact hi)
      refine ⟨_, rfl, _, rfl, rr, _, _, _, rfl, rfl, s4.seq hy1, hy2, _, rfl, b, _, _, _, rfl, rfl, hy3.same s4, hat, rfl, _, rfl, ifB (fun e => ?_) (fun e => ?_)⟩
      · have e' := dN e
        cases hz : (rowN (movesM ps) (movesM ps).length).getD i none with
        | none =>
          rw [hz] at e'
          exact absurd rfl e'
        | some x =>
          have hst : stepM (fun k j => (rowN (movesM ps) k).getD j none) (movesM ps).length fr i = if isLess fr (leastRise (fun k => (rowN (movesM ps) k).getD i none) (movesM ps).length x) = true then leastRise (fun k => (rowN (movesM ps) k).getD i none) (movesM ps).length x else fr := by
            unfold stepM
            dsimp only
            rw [hz]
          have hlr : leastRise (fun k => ((rowsM (movesM ps) ((movesM ps).length + 1)).getD k []).getD i none) (movesM ps).length x = leastRise (fun k => (rowN (movesM ps) k).getD i none) (movesM ps).length x := by
            refine leastRise_congr fun k hk => ?_
            rw [rowsM_at _ (by omega)]
          have hld : (leastRise (fun k => (rowN (movesM ps) k).getD i none) (movesM ps).length x).2 ≤ (movesM ps).length := riseN_den _ _ _ _
          rw [hst]
          refine ⟨_, rfl, _, rfl, rr, i, (movesM ps).length, x, _, rfl, hR.same s4, rowsM_len _ _, by omega, fun k hk => ?_, ?_, fun H5 t5 s5 h5 => ?_⟩
          · rw [rowsM_at _ (by omega), rowN_len]
            exact hi
          · rw [rowsM_at _ (by omega)]
            exact hz
          · rw [hlr] at h5
            generalize leastRise (fun k => (rowN (movesM ps) k).getD i none) (movesM ps).length x = lr at h5 hld
            refine ⟨_, rfl, _, rfl, t, t5, _, _, rfl, Same.tup s5 hT, h5, by omega, by omega, _, rfl, ifB (fun e3 => ?_) (fun e3 => ?_)⟩
            · refine ⟨_, rfl, _, _, t5, rfl, s4.trans s5, ?_⟩
              rw [if_pos e3]
              exact h5
            · refine ⟨_, _, t, rfl, s4.trans s5, ?_⟩
              rw [if_neg (by rw [e3]; exact Bool.false_ne_true)]
              exact Same.tup s5 hT
      · have e' := dN0 e
        have hz : (rowN (movesM ps) (movesM ps).length).getD i none = none := by
          cases hz : (rowN (movesM ps) (movesM ps).length).getD i none with
          | none => rfl
          | some t => rw [hz] at e'; cases e'
        have hst : stepM (fun k j => (rowN (movesM ps) k).getD j none) (movesM ps).length fr i = fr := by
          unfold stepM
          dsimp only
          rw [hz]
        rw [hst]
        exact ⟨_, v4, t, rfl, s4, hT⟩
    · rintro σ H' ⟨v3, v4, t, rfl, s4, hT⟩
      have hM : bestN (fun k j => (rowN (movesM ps) k).getD j none) (movesM ps).length (movesM ps).length = meanM ps := by
        unfold meanM
        rw [hn]
      rw [hM] at hT
      obtain ⟨⟨d1, d2, d3⟩, hq⟩ := meanM_ok g.ok
      generalize meanM ps = fr at hT d1 d2 d3 hq
      obtain ⟨fa, fb⟩ := fr
      obtain ⟨a, rfl⟩ := Int.eq_ofNat_of_zero_le d3
      dsimp only at d1 d2 hq
      obtain ⟨n1, n2⟩ := low_num (a := a) (b := fb) d1
      rw [hq] at n1 n2
      refine ⟨_, rfl, t, _, _, _, rfl, rfl, hT, rfl, _, rfl, t, _, _, _, rfl, rfl, hT, rfl, a, fb, rfl, d1, by omega, fun H5 t5 s5 h50 h5 => ?_⟩
      refine q H5 t5 ((s12.trans s4).trans s5) ((s12.trans s4).free h50) ?_
      rw [h5, n1, n2]
      rfl
end
end Pc
namespace Pc
open PySem PySem.Spec PyProof.Rows L2 Crewm
theorem at_int {l : List Int} {i : Nat} (h : i < l.length) : atI (l.map V.int) (i : Int) = some (.int (l.getD i 0)) := at_map (by rw [List.getD_eq_getElem?_getD, List.getElem?_eq_getElem h]; rfl)
theorem all_take_succ {α : Type} {f : α → Bool} {l : List α} {j : Nat} {x : α} (h : l[j]? = some x) (a : (l.take j).all f = true) (b : f x = true) : (l.take (j + 1)).all f = true := by
  rw [take_snoc h, List.all_append, a, List.all_cons, b]
  rfl
theorem all_false {α : Type} {f : α → Bool} {l : List α} {x : α} (h : x ∈ l) (b : f x = false) : l.all f = false := by
  rw [List.all_eq_false]
  exact ⟨x, h, by rw [b]; exact Bool.false_ne_true⟩
section
variable {P : Program} {w : World} {K : PySem.W.Frag} {mg : Str → Option Value} {base : Heap}
/-! ### proves -/
def spProves (K : PySem.W.Frag) : Sp := fun vs H Q _ => ∃ (p r : Addr) (ps : List (List Nat)) (a b : Nat) (pots : List Int), vs = [.ref p, iv a, iv b, .ref r] ∧ PipesL K H p ps ∧ IntsL K H r pots ∧ Good ps ∧ pots.length = cntS ps ∧ b ≤ 100 ∧
  ∀ (H' : Hp), Same H H' → Q (.bl (Kqk6.provesBound ps pots (a : Int) b)) H'
theorem scProves : FnScope ["pipes", "numerator", "denominator", "potentials", "moves", "place", "beyond", "output"] ["pipes", "numerator", "denominator", "potentials"] (defScope (top 19)) := ⟨rfl, rfl, rfl, by decide +kernel, rfl, by decide +kernel, by decide +kernel⟩
theorem ok_proves (B : Blt mg) (D : Dn K mg "proves" (top 19) ["pipes", "numerator", "denominator", "potentials"]) (C1 : Cal P w K mg base CX0 2 "all_moves" ["pipes"] (spMoves K)) :
    Cal P w K mg base CX0 3 "proves" ["pipes", "numerator", "denominator", "potentials"] (spProves K) := by
  refine D.ok scProves (fun vs H Q E h => ?_) (fun f cdv A outer s H vs Q E hr h => ?_)
  · obtain ⟨p, r, ps, a, b, pots, rfl, _⟩ := h
    rfl
  · refine ⟨_, pss_cons (ps_set (i := 4) scProves.nd rfl (.inl rfl) (pe_cal (E := E1) C1 hr pass1 (pa_cons (pv 0) pa_nil)))
      (pss_cons (ps_for PassesOwn.never rfl (pi_range1 rfl B.range (pa_cons (pe_callB call_len_seq (by rfl) B.len PySem.boot_len (pa_cons (pv 4) pa_nil)) pa_nil)) (pg_name (i := 5) scProves.nd rfl (.inl rfl))
        (pss_one (ps_for PassesOwn.never rfl (pi_list (pe_ix ix_list (pv 4) (pv 5) (fun _ _ => rfl))) (pg_tup (by rfl) (pgs_cons (pg_name (i := 6) scProves.nd rfl (.inl rfl)) (pgs_cons (pg_name (i := 7) scProves.nd rfl (.inl rfl)) pgs_nil)))
          (pss_one (ps_if (pt_cmpR op_gt (pe_op op_mul (pe_op op_sub (pe_op op_add (pv 7) (pe_ix ix_list (pv 3) (pv 6) (fun _ _ => rfl))) (pe_ix ix_list (pv 3) (pv 5) (fun _ _ => rfl))) (pv 2)) (pv 1) (nomark _))
            (pss_one (ps_ret pe_bl)) pss_nil)))))
      (pss_one (ps_ret pe_bl))), ?_⟩
    obtain ⟨p, r, ps, a, b, pots, rfl, hp, hr0, g, hpl, hb100, q⟩ := h
    have hok := mvOk g
    have hn : (movesM ps).length = cntS ps := moves_len ps
    rw [prov_eq hpl] at q
    refine ⟨_, rfl, p, ps, rfl, hp, g, fun H1 m s1 hm0 hm => ?_⟩
    generalize movesM ps = mv at hok hn q hm
    obtain ⟨h64, hmv⟩ := hok
    obtain ⟨ms, hms, hA⟩ := id hm
    have hl : (ms.map V.ref).length = mv.length := by rw [List.length_map, hA.1]
    have hb := lt62 (n := mv.length) (by omega)
    refine ⟨_, rfl, m, _, rfl, .inl hms, ?_⟩
    rw [hl]
    refine ⟨_, rfl, hb.1, hb.2, for_r0 (n := mv.length) (fun i σ H' => ∃ v5 v6 v7, σ = [some (.ref p), some (iv a), some (iv b), some (.ref r), some (.ref m), v5, v6, v7] ∧ H' = H1 ∧ (List.range i).all (holdsAt mv pots a b) = true) ⟨_, _, _, rfl, rfl, rfl⟩ ?_ ?_⟩
    · rintro i σ H' hi ⟨v5, v6, v7, rfl, rfl, hall⟩
      obtain ⟨c, hc1, hc2⟩ := hA.get (List.getElem?_eq_getElem hi)
      obtain ⟨ts, hts, hT⟩ := hc2
      have hgd : mv.getD i [] = mv[i] := by rw [List.getD_eq_getElem?_getD, List.getElem?_eq_getElem hi]; rfl
      refine ⟨_, rfl, _, rfl, m, _, _, _, rfl, rfl, hms, at_map hc1, c, rfl, ⟨_, hts⟩, for_list (K := K) (a := c) (xs := ts.map V.ref) (fun j σ H2 => ∃ v6 v7, σ = [some (.ref p), some (iv a), some (iv b), some (.ref r), some (.ref m), some (iv i), v6, v7] ∧ H2 = H' ∧
          ((mv[i]).take j).all (fun e => decide (((e.2 : Int) + pots.getD e.1 0 - pots.getD i 0) * (b : Int) ≤ a)) = true) ⟨_, _, rfl, rfl, rfl⟩ (fun j σ H2 _ ⟨_, _, _, e, _⟩ => e ▸ hts) ?_ ?_⟩
      · rintro j y σ H2 hj ⟨v6, v7, rfl, rfl, hall2⟩
        obtain ⟨t, ht, rfl⟩ := map_at hj
        obtain ⟨ed, hed, hte⟩ := hT.of ht
        have hm1 := hmv _ (List.getElem_mem hi) ed (List.mem_of_getElem? hed)
        refine ⟨t, _, rfl, hte, rfl, _, _, rfl, _, _, rfl, rfl, ?_⟩
        refine ⟨_, rfl, _, rfl, _, rfl, r, _, _, _, rfl, rfl, hr0.same s1, at_int (by omega), _, _, rfl, rfl, _, rfl, _, rfl, r, _, _, _, rfl, rfl, hr0.same s1, at_int (by omega), _, _, rfl, rfl, _, rfl, _, _, rfl, rfl, .inr ⟨by omega, by omega⟩, _, rfl, _, _, rfl, rfl, _, rfl, ifB (fun e => ?_) (fun e => ?_)⟩
        · have e' : (a : Int) < ((ed.2 : Int) + pots.getD ed.1 0 - pots.getD i 0) * (b : Int) := decT e
          have hf : provM mv pots a b = false := by
            refine all_false (x := i) (List.mem_range.mpr hi) ?_
            unfold holdsAt
            rw [hgd]
            exact all_false (x := ed) (List.mem_of_getElem? hed) (decide_eq_false (by omega))
          have := q H2 s1
          rw [hf] at this
          exact this
        · have e' : ¬ (a : Int) < ((ed.2 : Int) + pots.getD ed.1 0 - pots.getD i 0) * (b : Int) := decF e
          exact ⟨_, _, rfl, rfl, all_take_succ hed hall2 (decide_eq_true (by omega))⟩
      · rintro σ H2 ⟨v6, v7, rfl, rfl, hall2⟩
        rw [List.length_map, hT.1, List.take_length] at hall2
        refine ⟨_, v6, v7, rfl, rfl, ?_⟩
        rw [List.range_succ, List.all_append, hall, List.all_cons]
        unfold holdsAt
        rw [hgd, hall2]
        rfl
    · rintro σ H' ⟨v5, v6, v7, rfl, rfl, hall⟩
      have hf : provM mv pots a b = true := hall
      have := q H' s1
      rw [hf] at this
      exact this
/-! ### best_of -/
def spBest (K : PySem.W.Frag) : Sp := fun vs H Q _ => ∃ (r t : Addr) (row : List (Nat × Nat)) (tot : List Nat), vs = [.ref r, .ref t] ∧ NestL K H (PairT K H) r row ∧ NatsL K H t tot ∧ (∀ e, e ∈ row → e.1 < tot.length) ∧ Q (iv (bestOf row tot)) H
theorem scBest : FnScope ["row", "totals", "found", "place", "output"] ["row", "totals"] (defScope (top 31)) := ⟨rfl, rfl, rfl, by decide +kernel, rfl, by decide +kernel, by decide +kernel⟩
theorem ok_best (B : Blt mg) (D : Dn K mg "best_of" (top 31) ["row", "totals"]) : Cal P w K mg base CX0 1 "best_of" ["row", "totals"] (spBest K) := by
  refine D.ok scBest (fun vs H Q E h => ?_) (fun f cdv A outer s H vs Q E hr h => ?_)
  · obtain ⟨r, t, row, tot, rfl, _⟩ := h
    rfl
  · refine ⟨_, pss_cons (ps_set (i := 2) scBest.nd rfl (.inl rfl) pe_int)
      (pss_cons (ps_for PassesOwn.never rfl (pi_list (pv 0)) (pg_tup (by rfl) (pgs_cons (pg_name (i := 3) scBest.nd rfl (.inl rfl)) (pgs_cons (pg_name (i := 4) scBest.nd rfl (.inl rfl)) pgs_nil)))
        (pss_one (ps_set (i := 2) scBest.nd rfl (.inl rfl) (pe_callB (call_max2 rfl) (by rfl) B.max (by decide +kernel) (pa_cons (pv 2) (pa_cons (pe_op op_add (pv 4) (pe_ix ix_list (pv 1) (pv 3) (fun _ _ => rfl))) pa_nil))))))
      (pss_one (ps_ret (pv 2)))), ?_⟩
    obtain ⟨r, t, row, tot, rfl, ⟨ts, hts, hT⟩, ht, hin, q⟩ := h
    refine ⟨_, rfl, r, rfl, ⟨_, hts⟩, for_list (K := K) (a := r) (xs := ts.map V.ref) (fun j σ H2 => ∃ v3 v4, σ = [some (.ref r), some (.ref t), some (iv (bestOf (row.take j) tot)), v3, v4] ∧ H2 = H) ⟨_, _, rfl, rfl⟩ (fun j σ H2 _ ⟨_, _, _, e⟩ => e ▸ hts) ?_ ?_⟩
    · rintro j y σ H2 hj ⟨v3, v4, rfl, rfl⟩
      obtain ⟨c, hc, rfl⟩ := map_at hj
      obtain ⟨ed, hed, hte⟩ := hT.of hc
      have h1 := hin ed (List.mem_of_getElem? hed)
      have e1 : bestOf (row.take (j + 1)) tot = max (bestOf (row.take j) tot) (ed.2 + tot.getD ed.1 0) := by
        unfold bestOf
        rw [take_snoc hed, List.foldl_append]
        rfl
      have e2 : (if ((ed.2 : Int) + ((tot.getD ed.1 0 : Nat) : Int)) > ((bestOf (row.take j) tot : Nat) : Int) then ((ed.2 : Int) + ((tot.getD ed.1 0 : Nat) : Int)) else ((bestOf (row.take j) tot : Nat) : Int)) = ((max (bestOf (row.take j) tot) (ed.2 + tot.getD ed.1 0) : Nat) : Int) := by
        split <;> omega
      refine ⟨c, _, rfl, hte, rfl, _, _, rfl, _, _, rfl, rfl, ?_⟩
      refine ⟨_, rfl, _, rfl, _, rfl, _, rfl, t, _, _, _, rfl, rfl, ht, at_nat h1, _, _, rfl, rfl, _, _, rfl, ?_⟩
      refine ⟨some (iv ed.1), some (iv ed.2), ?_, rfl⟩
      rw [e1]
      show [some (V.ref r), some (V.ref t), some (V.int (if ((ed.2 : Int) + ((tot.getD ed.1 0 : Nat) : Int)) > ((bestOf (row.take j) tot : Nat) : Int) then ((ed.2 : Int) + ((tot.getD ed.1 0 : Nat) : Int)) else ((bestOf (row.take j) tot : Nat) : Int))), some (iv ed.1), some (iv ed.2)] = _
      rw [e2]
    · rintro σ H2 ⟨v3, v4, rfl, rfl⟩
      refine ⟨_, rfl, ?_⟩
      rw [List.length_map, hT.1, List.take_length]
      exact q
/-! ### totals_for -/
def spTot (K : PySem.W.Frag) : Sp := fun vs H Q _ => ∃ (m : Addr) (mv : List (List (Nat × Nat))) (d : Nat), vs = [.ref m, iv d] ∧ MovesL K H m mv ∧ MvOk mv ∧ d ≤ 1000 ∧
  ∀ (H' : Hp) (t : Addr), Same H H' → H t = none → NatsL K H' t (totN mv d) → Q (.ref t) H'
theorem scTot : FnScope ["moves", "days", "totals", "turn", "row"] ["moves", "days"] (defScope (top 32)) := ⟨rfl, rfl, rfl, by decide +kernel, rfl, by decide +kernel, by decide +kernel⟩
theorem ok_tot (B : Blt mg) (D : Dn K mg "totals_for" (top 32) ["moves", "days"]) (C : Cal P w K mg base CX0 1 "best_of" ["row", "totals"] (spBest K)) : Cal P w K mg base CX0 2 "totals_for" ["moves", "days"] (spTot K) := by
  refine D.ok scTot (fun vs H Q E h => ?_) (fun f cdv A outer s H vs Q E hr h => ?_)
  · obtain ⟨m, mv, d, rfl, _⟩ := h
    rfl
  · refine ⟨_, pss_cons (ps_set (i := 2) scTot.nd rfl (.inr rfl) (pe_op op_rep (pe_lst (pa_cons pe_int pa_nil)) (pe_callB call_len_seq (by rfl) B.len PySem.boot_len (pa_cons (pv 0) pa_nil))))
      (pss_cons (ps_for PassesOwn.never rfl (pi_range1 rfl B.range (pa_cons (pv 1) pa_nil)) (pg_name (i := 3) scTot.nd rfl (.inl rfl))
        (pss_one (ps_set (i := 2) scTot.nd rfl (.inr rfl) (pe_lc (own := [("row", 4)]) (g := gName 4) (tt := tYes) rfl scTot.nd (pi_list (pv 0)) (blkOk_by (N := ["moves", "days", "totals", "turn", "row"]) (sc := defScope (top 32)) (by decide +kernel))
          (fun _ _ _ _ _ => pg_name (i := 4) scTot.nd rfl (.inl rfl)) (fun _ _ _ _ _ => pts_nil) (fun _ _ _ _ _ => pe_cal (E := E1) C hr pass1 (pa_cons (pv 4) (pa_cons (pv 2) pa_nil)))))))
      (pss_one (ps_ret (pv 2)))), ?_⟩
    obtain ⟨m, mv, d, rfl, hm0, hok, hd, q⟩ := h
    obtain ⟨h64, hmv⟩ := hok
    obtain ⟨ms, hms, hA⟩ := id hm0
    have hl : (ms.map V.ref).length = mv.length := by rw [List.length_map, hA.1]
    have hb := lt62 (n := d) (by omega)
    refine ⟨(by show 1 ≤ sizeLine; decide), fun q1 hq1 => ?_⟩
    have s1 := same_upd (o := .lst [V.int 0]) hq1
    refine ⟨_, rfl, m, _, rfl, .inl (s1.seq hms), q1, _, _, rfl, rfl, upd_same, ?_⟩
    rw [hl]
    refine ⟨by omega, by omega, ?_, fun t0 ht0 => ?_⟩
    · show 1 * ((mv.length : Nat) : Int).toNat ≤ sizeLine
      have : 1 * ((mv.length : Nat) : Int).toNat = mv.length := by omega
      rw [this]
      exact Nat.le_of_lt (small1000 (by omega))
    have s2 := s1.trans (same_upd (o := .lst (List.replicate ((mv.length : Nat) : Int).toNat [V.int 0]).flatten) ht0)
    refine ⟨_, rfl, _, rfl, hb.1, hb.2, for_r0 (n := d) (fun i σ H' => ∃ v3 v4 t, σ = [some (.ref m), some (iv d), some (.ref t), v3, v4] ∧ Same H H' ∧ H t = none ∧ NatsT H' t (totN mv i)) ⟨none, none, t0, rfl, s2, s1.free ht0, ?_⟩ ?_ ?_⟩
    · show upd _ t0 _ t0 = _
      rw [upd_same, flat_rep]
      show _ = some (HO.lst ((List.replicate mv.length 0).map iv))
      rw [List.map_replicate]
      rfl
    · rintro i σ H' hi ⟨v3, v4, t, rfl, s3, ht, hT⟩
      have htl := totN_len mv i
      have hnx : totN mv (i + 1) = mv.map fun row => bestOf row (totN mv i) := rfl
      rw [hnx]
      generalize totN mv i = tot at hT htl
      refine ⟨_, rfl, m, rfl, ⟨_, s3.seq hms⟩, fun D2 hD2 => lc_list (K := K) (a := m) (xs := ms.map V.ref) (fun j H2 => Same H' H2 ∧ H2 D2 = some (.lst (((mv.take j).map fun row => bestOf row tot).map iv)))
        ⟨same_upd hD2, upd_same⟩ (fun j H2 _ ⟨s4, _⟩ => (s3.trans s4).seq hms) ?_ ?_⟩
      · rintro j y H2 hj ⟨s4, h4⟩
        obtain ⟨c, hc, rfl⟩ := map_at hj
        obtain ⟨row, hrow, hcr⟩ := hA.of hc
        have s34 := s3.trans s4
        have hjl : j < mv.length := (List.getElem?_eq_some_iff.mp hrow).1
        refine ⟨rfl, ?_⟩
        unfold tYes
        refine iteT ?_
        refine ⟨_, rfl, _, rfl, c, t, row, tot, rfl, NestL.same hcr s34 fun _ _ z => PairT.same z s34, (hT.mono s4).l, fun e he => ?_, _, h4, ?_, same_upd2 hD2 s4, ?_⟩
        · rw [htl]
          exact hmv _ (List.mem_of_getElem? hrow) e he
        · rw [List.length_map, List.length_map, List.length_take]
          exact small1000 (by omega)
        · rw [upd_same, take_snoc hrow, List.map_append, List.map_append]
          rfl
      · rintro H2 ⟨s4, h4⟩
        refine ⟨_, v4, D2, rfl, s3.trans s4, s3.free hD2, ?_⟩
        show H2 D2 = _
        rw [h4, List.length_map, hA.1, List.take_length]
    · rintro σ H' ⟨v3, v4, t, rfl, s3, ht, hT⟩
      exact ⟨_, rfl, q H' t s3 ht hT.l⟩
/-! ### best_total -/
def spBT (K : PySem.W.Frag) : Sp := fun vs H Q _ => ∃ (p a : Addr) (ps : List (List Nat)) (as : List Nat) (d : Nat), vs = [.ref p, .ref a, iv d] ∧ PipesL K H p ps ∧ NatsL K H a as ∧ Good ps ∧ VA ps as ∧ d ≤ 1000 ∧
  ∀ (H' : Hp), Same H H' → Q (iv (Kqk6.bestTotal ps as d)) H'
theorem scBT : FnScope ["pipes", "ages", "days"] ["pipes", "ages", "days"] (defScope (top 33)) := ⟨rfl, rfl, rfl, by decide +kernel, rfl, by decide +kernel, by decide +kernel⟩
theorem ok_bt (D : Dn K mg "best_total" (top 33) ["pipes", "ages", "days"]) (C1 : Cal P w K mg base CX0 2 "all_moves" ["pipes"] (spMoves K)) (C2 : Cal P w K mg base CX0 2 "totals_for" ["moves", "days"] (spTot K)) (C3 : Cal P w K mg base CX0 1 "place_of" ["pipes", "ages"] (spPlace K)) :
    Cal P w K mg base CX0 3 "best_total" ["pipes", "ages", "days"] (spBT K) := by
  refine D.ok scBT (fun vs H Q E h => ?_) (fun f cdv A outer s H vs Q E hr h => ?_)
  · obtain ⟨p, a, ps, as, d, rfl, _⟩ := h
    rfl
  · have hr1 : Room 1 _ := hr.mono (by decide)
    refine ⟨_, pss_one (ps_ret (pe_ix ix_list (pe_cal (E := E1) C2 hr pass1 (pa_cons (pe_cal (E := E1) C1 hr pass1 (pa_cons (pv 0) pa_nil)) (pa_cons (pv 2) pa_nil))) (pe_cal (E := E1) C3 hr1 pass1 (pa_cons (pv 0) (pa_cons (pv 1) pa_nil))) (fun _ _ => rfl))), ?_⟩
    obtain ⟨p, a, ps, as, d, rfl, hp, ha, g, hv, hd, q⟩ := h
    refine ⟨_, rfl, p, ps, rfl, hp, g, fun H1 m s1 hm0 hm => ⟨_, rfl, m, movesM ps, d, rfl, hm, mvOk g, hd, fun H2 t s2 ht0 hT => ?_⟩⟩
    have s12 := s1.trans s2
    refine ⟨_, rfl, _, rfl, p, a, ps, as, rfl, hp.same s12, ha.same s12, g, hv, t, _, _, _, rfl, rfl, hT, at_nat (by rw [totN_len, moves_len]; exact plc_lt hv), ?_⟩
    rw [← bestTotal_eq hv]
    exact q H2 s12
/-! ### best_choice -/
def spBC (K : PySem.W.Frag) : Sp := fun vs H Q _ => ∃ (p a : Addr) (ps : List (List Nat)) (as : List Nat) (d : Nat), vs = [.ref p, .ref a, iv (d + 1)] ∧ PipesL K H p ps ∧ NatsL K H a as ∧ Good ps ∧ VA ps as ∧ d ≤ 1000 ∧
  ∀ (H' : Hp), Same H H' → Q (iv (choiceS ps as (d + 1))) H'
theorem scBC : FnScope ["pipes", "ages", "days", "moves", "totals", "row", "most", "choice", "place", "output"] ["pipes", "ages", "days"] (defScope (top 34)) := ⟨rfl, rfl, rfl, by decide +kernel, rfl, by decide +kernel, by decide +kernel⟩
theorem MovesL.at_ {K : PySem.W.Frag} {H : Hp} {a : Addr} {mv : List (List (Nat × Nat))} (h : MovesL K H a mv) {i : Nat} {row : List (Nat × Nat)} (hi : mv[i]? = some row) : ∃ (ys : List V) (b : Addr), SqL K H a ys ∧ atI ys (i : Int) = some (V.ref b) ∧ NestL K H (PairT K H) b row := by
  obtain ⟨as, h1, h2⟩ := h
  obtain ⟨b, e, r⟩ := h2.get hi
  exact ⟨_, b, h1, at_map e, r⟩
theorem ok_bc (B : Blt mg) (D : Dn K mg "best_choice" (top 34) ["pipes", "ages", "days"]) (C1 : Cal P w K mg base CX0 2 "all_moves" ["pipes"] (spMoves K)) (C2 : Cal P w K mg base CX0 2 "totals_for" ["moves", "days"] (spTot K)) (C3 : Cal P w K mg base CX0 1 "place_of" ["pipes", "ages"] (spPlace K))
    (C4 : Cal P w K mg base CX0 1 "best_of" ["row", "totals"] (spBest K)) : Cal P w K mg base CX0 3 "best_choice" ["pipes", "ages", "days"] (spBC K) := by
  refine D.ok scBC (fun vs H Q E h => ?_) (fun f cdv A outer s H vs Q E hr h => ?_)
  · obtain ⟨p, a, ps, as, d, rfl, _⟩ := h
    rfl
  · have hr1 : Room 1 _ := hr.mono (by decide)
    refine ⟨_, pss_cons (ps_set (i := 3) scBC.nd rfl (.inl rfl) (pe_cal (E := E1) C1 hr pass1 (pa_cons (pv 0) pa_nil)))
      (pss_cons (ps_par (i := 4) (j := 5) (by rfl) scBC.nd rfl rfl (by decide) rfl rfl (pa_cons (pe_cal (E := E1) C2 hr pass1 (pa_cons (pv 3) (pa_cons (pe_op op_sub (pv 2) pe_int) pa_nil)))
        (pa_cons (pe_ix ix_list (pv 3) (pe_cal (E := E1) C3 hr1 pass1 (pa_cons (pv 0) (pa_cons (pv 1) pa_nil))) (fun _ _ => rfl)) pa_nil)) (by rfl))
      (pss_cons (ps_set (i := 6) scBC.nd rfl (.inl rfl) (pe_cal (E := E1) C4 hr1 pass1 (pa_cons (pv 5) (pa_cons (pv 4) pa_nil))))
      (pss_cons (ps_for PassesOwn.never rfl (pi_range1 rfl B.range (pa_cons (pe_callB call_len_seq (by rfl) B.len PySem.boot_len (pa_cons (pv 5) pa_nil)) pa_nil)) (pg_name (i := 7) scBC.nd rfl (.inl rfl))
        (pss_cons (ps_asg (pe_ix ix_list (pv 5) (pv 7) (fun _ _ => rfl)) (pg_tup (by rfl) (pgs_cons (pg_name (i := 8) scBC.nd rfl (.inl rfl)) (pgs_cons (pg_name (i := 9) scBC.nd rfl (.inl rfl)) pgs_nil))))
        (pss_one (ps_if (pt_cmpR op_eq (pe_op op_add (pv 9) (pe_ix ix_list (pv 4) (pv 8) (fun _ _ => rfl))) (pv 6) (nomark _)) (pss_one (ps_ret (pv 7))) pss_nil))))
      (pss_one (ps_ret pe_int))))), ?_⟩
    obtain ⟨p, a, ps, as, d, rfl, hp, ha, g, hv, hd, q⟩ := h
    refine ⟨_, rfl, p, ps, rfl, hp, g, fun H1 m s1 hm0 hm => ?_⟩
    have e1 : ((d + 1 : Nat) : Int) - 1 = ((d : Nat) : Int) := by omega
    refine ⟨_, rfl, _, rfl, _, _, rfl, rfl, m, movesM ps, d, ?_, hm, mvOk g, hd, fun H2 t s2 ht0 hT => ?_⟩
    · dsimp only
      rw [e1]
    have s12 := s1.trans s2
    have hmr : (movesM ps)[plc ps as]? = some (moveRow ps as) := by
      unfold movesM
      rw [List.getElem?_map, states_at hv]
      rfl
    obtain ⟨ys, rb, hy1, hy2, hrow⟩ := (hm.same s2).at_ hmr
    have htl : (totN (movesM ps) d).length = cntS ps := by rw [totN_len, moves_len]
    have hin : ∀ e, e ∈ moveRow ps as → e.1 < (totN (movesM ps) d).length := fun e he => by
      rw [htl]
      obtain ⟨c, _, rfl⟩ := List.mem_map.mp he
      exact plc_lt (va_next hv)
    obtain ⟨ts, hts, hTT⟩ := id hrow
    have hrl : (ts.map V.ref).length = ps.length + 1 := by
      rw [List.length_map, hTT.1]
      unfold moveRow
      rw [List.length_map, List.length_range]
    have hb := lt62 (n := ps.length + 1) (by have := g.n; omega)
    refine ⟨_, rfl, _, rfl, _, rfl, p, a, ps, as, rfl, hp.same s12, ha.same s12, g, hv, m, _, _, _, rfl, rfl, hy1, hy2, _, _, rfl, ?_⟩
    refine ⟨_, rfl, _, rfl, rb, t, _, _, rfl, hrow, hT, hin, ?_⟩
    refine ⟨_, rfl, rb, _, rfl, .inl hts, ?_⟩
    rw [hrl]
    refine ⟨_, rfl, hb.1, hb.2, for_r0 (n := ps.length + 1) (fun i σ H' => ∃ v7 v8 v9, σ = [some (.ref p), some (.ref a), some (iv (d + 1)), some (.ref m), some (.ref t), some (.ref rb), some (iv (bestOf (moveRow ps as) (totN (movesM ps) d))), v7, v8, v9] ∧ H' = H2 ∧
      ∀ j, j < i → worth ps as d j ≠ bestOf (moveRow ps as) (totN (movesM ps) d)) ⟨_, _, _, rfl, rfl, fun j h => absurd h (Nat.not_lt_zero _)⟩ ?_ ?_⟩
    · rintro i σ H' hi ⟨v7, v8, v9, rfl, rfl, hne⟩
      have hat : (moveRow ps as)[i]? = some (plc ps (Kqk6.nextAges ps as i), Kqk6.dayOutput ps as i) := by
        unfold moveRow
        rw [List.getElem?_map, List.getElem?_range hi]
        rfl
      obtain ⟨c, hc, hce⟩ := hTT.get hat
      have hpl : plc ps (Kqk6.nextAges ps as i) < (totN (movesM ps) d).length := by rw [htl]; exact plc_lt (va_next hv)
      refine ⟨_, rfl, _, rfl, rb, _, _, _, rfl, rfl, hts, at_map hc, c, _, rfl, hce, rfl, _, _, rfl, _, _, rfl, rfl, ?_⟩
      refine ⟨_, rfl, _, rfl, _, rfl, t, _, _, _, rfl, rfl, hT, at_nat hpl, _, _, rfl, rfl, _, rfl, rfl, _, rfl, ifB (fun e => ?_) (fun e => ?_)⟩
      · have e' : ((Kqk6.dayOutput ps as i : Nat) : Int) + (((totN (movesM ps) d).getD (plc ps (Kqk6.nextAges ps as i)) 0 : Nat) : Int) = ((bestOf (moveRow ps as) (totN (movesM ps) d) : Nat) : Int) := eqB e
        have e2 : worth ps as d i = bestOf (moveRow ps as) (totN (movesM ps) d) := by
          unfold worth
          omega
        refine ⟨_, rfl, ?_⟩
        have := q H' s12
        rw [choice_at hv hi e2 hne] at this
        exact this
      · have e' : ((Kqk6.dayOutput ps as i : Nat) : Int) + (((totN (movesM ps) d).getD (plc ps (Kqk6.nextAges ps as i)) 0 : Nat) : Int) ≠ ((bestOf (moveRow ps as) (totN (movesM ps) d) : Nat) : Int) := eqB0 e
        refine ⟨_, _, _, rfl, rfl, fun j hj => ?_⟩
        by_cases z : j = i
        · rw [z]
          unfold worth
          omega
        · exact hne j (by omega)
    · rintro σ H' ⟨v7, v8, v9, rfl, rfl, hne⟩
      obtain ⟨c, hc, e⟩ := choice_some (ps := ps) (as := as) d
      exact absurd e (hne c hc)
end
end Pc
namespace Pc
open PySem PySem.Spec PyProof.Rows L2 Crewm
/-! ### attributes -/
theorem lk_here {k : Str} {v : V} {r : List (Str × V)} : List.lookup k ((k, v) :: r) = some v := by
  have e : (k == k) = true := beq_self_eq_true k
  simp only [List.lookup, e]
theorem lk_past {k g : Str} {v : V} {r : List (Str × V)} (h : (k == g) = false) : List.lookup k ((g, v) :: r) = List.lookup k r := by
  simp only [List.lookup, h]
theorem put_here {f : Str} {v x : V} {r : List (Str × V)} : putF f v ((f, x) :: r) = (f, v) :: r := if_pos rfl
theorem put_past {f g : Str} {v x : V} {r : List (Str × V)} (h : ¬ g = f) : putF f v ((g, x) :: r) = (g, x) :: putF f v r := if_neg h
def crewF (pl al : Addr) (n t : Int) : List (Str × V) := [("pipes", .ref pl), ("ages", .ref al), ("past", .int n), ("total", .int t)]
section
variable {pl al b : Addr} {n t z : Int}
theorem cF_pipes : (crewF pl al n t).lookup ("pipes" : Str) = some (.ref pl) := lk_here
theorem cF_ages : (crewF pl al n t).lookup ("ages" : Str) = some (.ref al) := (lk_past (by decide +kernel)).trans lk_here
theorem cF_past : (crewF pl al n t).lookup ("past" : Str) = some (.int n) := (lk_past (by decide +kernel)).trans ((lk_past (by decide +kernel)).trans lk_here)
theorem cF_total : (crewF pl al n t).lookup ("total" : Str) = some (.int t) := (lk_past (by decide +kernel)).trans ((lk_past (by decide +kernel)).trans ((lk_past (by decide +kernel)).trans lk_here))
theorem cP_pipes : putF "pipes" (.ref b) (crewF pl al n t) = crewF b al n t := put_here
theorem cP_ages : putF "ages" (.ref b) (crewF pl al n t) = crewF pl b n t := (put_past (by decide +kernel)).trans (congrArg _ put_here)
theorem cP_past : putF "past" (.int z) (crewF pl al n t) = crewF pl al z t := (put_past (by decide +kernel)).trans (congrArg _ ((put_past (by decide +kernel)).trans (congrArg _ put_here)))
theorem cP_total : putF "total" (.int z) (crewF pl al n t) = crewF pl al n z := (put_past (by decide +kernel)).trans (congrArg _ ((put_past (by decide +kernel)).trans (congrArg _ ((put_past (by decide +kernel)).trans (congrArg _ put_here)))))
theorem cP_new : putF "total" (.int t) (putF "past" (.int n) (putF "ages" (.ref al) (putF "pipes" (.ref pl) []))) = crewF pl al n t := by
  have e1 : putF "pipes" (.ref pl) [] = [(("pipes" : Str), V.ref pl)] := rfl
  have e2 : putF "ages" (.ref al) [(("pipes" : Str), V.ref pl)] = [(("pipes" : Str), V.ref pl), (("ages" : Str), V.ref al)] := (put_past (by decide +kernel)).trans rfl
  have e3 : putF "past" (.int n) [(("pipes" : Str), V.ref pl), (("ages" : Str), V.ref al)] = [(("pipes" : Str), V.ref pl), (("ages" : Str), V.ref al), (("past" : Str), V.int n)] := (put_past (by decide +kernel)).trans (congrArg _ ((put_past (by decide +kernel)).trans rfl))
  have e4 : putF "total" (.int t) [(("pipes" : Str), V.ref pl), (("ages" : Str), V.ref al), (("past" : Str), V.int n)] = crewF pl al n t := (put_past (by decide +kernel)).trans (congrArg _ ((put_past (by decide +kernel)).trans (congrArg _ ((put_past (by decide +kernel)).trans rfl))))
  rw [e1, e2, e3, e4]
end
/-- what the top has written of Crew, Holder, Refused -/
structure CrewT (K : PySem.W.Frag) (mg : Str → Option Value) (CC : Addr) : Prop where
  cl : Cls K CC
  nP : NoAttr K CC "pipes"
  nA : NoAttr K CC "ages"
  nD : NoAttr K CC "past"
  nT : NoAttr K CC "total"
  g : mg "Crew" = some (.ref CC)
structure HoldT (K : PySem.W.Frag) (mg : Str → Option Value) (CH : Addr) : Prop where
  cl : Cls K CH
  nC : NoAttr K CH "crew"
  g : mg "Holder" = some (.ref CH)
structure RefT (K : PySem.W.Frag) (mg : Str → Option Value) (CR fI : Addr) : Prop where
  g : mg "Refused" = some (.ref CR)
  oex : OexC K CR
  init : PySem.W.findIn K (.ref CR) "__init__" = some (some (.ref fI))
  tI : PySem.W.typeIn K (.ref fI) = some (.type "function")
  no : PySem.W.findIn K (.ref CR) "number" = some none
  xf : XfC K CR
  te : PySem.W.exmOne K (.ref CR) (.ref CR) = some true
section
variable {P : Program} {w : World} {K : PySem.W.Frag} {mg : Str → Option Value} {base : Heap} {CC CH CR : Addr}
/-! ### Crew.__init__, Holder.__init__ -/
def spCInit (CC : Addr) : Sp := fun vs H Q _ => ∃ (x dx : Addr), vs = [.ref x] ∧ H x = some (.ins CC dx []) ∧
  ∀ (H' : Hp) (pl al : Addr), (∀ b o, H b = some o → b ≠ x → H' b = some o) → H' x = some (.ins CC dx (crewF pl al 0 0)) → H pl = none → H al = none → pl ≠ al → H' pl = some (.lst []) → H' al = some (.lst []) → Q .non H'
theorem scCI : FnScope ["self"] ["self"] (defScope (inClass (top 1) 0)) := ⟨rfl, rfl, rfl, by decide +kernel, rfl, by decide +kernel, by decide +kernel⟩
theorem ok_cinit {f : Addr} {fd : FuncData} (F : Fun K "__init__" "Crew.__init__" (inClass (top 1) 0) f fd) (T : CrewT K mg CC) : FnOk P w K mg base CX0 1 f fd ["self"] (spCInit CC) := by
  refine F.ok scCI (fun vs H Q E h => ?_) (fun cdv A outer s H vs Q E hr h => ?_)
  · obtain ⟨x, dx, rfl, _⟩ := h
    rfl
  · refine ⟨_, pss_cons (ps_fld (pv 0) (pe_lst pa_nil) rfl) (pss_cons (ps_fld (pv 0) (pe_lst pa_nil) rfl) (pss_cons (ps_fld (pv 0) pe_int rfl) (pss_one (ps_fld (pv 0) pe_int rfl)))), ?_⟩
    obtain ⟨x, dx, rfl, hx, q⟩ := h
    refine ⟨(by show 0 ≤ sizeLine; decide), fun pl hpl => ?_⟩
    have n1 : x ≠ pl := ne_of_none hx hpl
    refine ⟨_, rfl, x, CC, dx, [], rfl, (by rw [upd_ne n1]; exact hx), T.cl, T.nP, (by show 0 < 1000; decide), ?_⟩
    refine ⟨(by show 0 ≤ sizeLine; decide), fun al hal => ?_⟩
    have n2 : x ≠ al := ne_of_none (upd_same (o := HO.ins CC dx (putF "pipes" (.ref pl) []))) hal
    have hal1 : upd H pl (.lst []) al = none := by rw [upd_ne (Ne.symm n2)] at hal; exact hal
    have n3 : al ≠ pl := fun z => by rw [z, upd_same] at hal1; cases hal1
    have hal0 : H al = none := by rw [upd_ne n3] at hal1; exact hal1
    refine ⟨_, rfl, x, CC, dx, _, rfl, (by rw [upd_ne n2]; exact upd_same), T.cl, T.nA, (Nat.lt_of_le_of_lt (length_putF _ _ _) (by show 0 + 1 < 1000; decide)), ?_⟩
    refine ⟨_, rfl, x, CC, dx, _, rfl, upd_same, T.cl, T.nD, (Nat.lt_of_le_of_lt (length_putF _ _ _) (Nat.lt_of_le_of_lt (Nat.add_le_add_right (length_putF _ _ _) 1) (by show 0 + 1 + 1 < 1000; decide))), ?_⟩
    refine ⟨_, rfl, x, CC, dx, _, rfl, upd_same, T.cl, T.nT, (Nat.lt_of_le_of_lt (length_putF _ _ _) (Nat.lt_of_le_of_lt (Nat.add_le_add_right (Nat.le_trans (length_putF _ _ _) (Nat.add_le_add_right (length_putF _ _ _) 1)) 1) (by show 0 + 1 + 1 + 1 < 1000; decide))), ?_⟩
    refine q _ pl al (fun b o e hb => ?_) (upd_same.trans (congrArg (fun z => some (HO.ins CC dx z)) cP_new)) hpl hal0 (Ne.symm n3) ?_ ?_
    · rw [upd_ne hb, upd_ne hb, upd_ne hb, upd_ne (ne_of_none e hal0), upd_ne hb, upd_ne (ne_of_none e hpl)]
      exact e
    · rw [upd_ne (Ne.symm n1), upd_ne (Ne.symm n1), upd_ne (Ne.symm n1), upd_ne (Ne.symm n3), upd_ne (Ne.symm n1), upd_same]
    · rw [upd_ne (Ne.symm n2), upd_ne (Ne.symm n2), upd_ne (Ne.symm n2), upd_same]
def spHInit (CH : Addr) : Sp := fun vs H Q _ => ∃ (x dx : Addr), vs = [.ref x] ∧ H x = some (.ins CH dx []) ∧ ∀ (H' : Hp), (∀ b o, H b = some o → b ≠ x → H' b = some o) → H' x = some (.ins CH dx [("crew", .non)]) → Q .non H'
theorem scHI : FnScope ["self"] ["self"] (defScope (inClass (top 2) 0)) := ⟨rfl, rfl, rfl, by decide +kernel, rfl, by decide +kernel, by decide +kernel⟩
theorem ok_hinit {f : Addr} {fd : FuncData} (F : Fun K "__init__" "Holder.__init__" (inClass (top 2) 0) f fd) (T : HoldT K mg CH) : FnOk P w K mg base CX0 1 f fd ["self"] (spHInit CH) := by
  refine F.ok scHI (fun vs H Q E h => ?_) (fun cdv A outer s H vs Q E hr h => ?_)
  · obtain ⟨x, dx, rfl, _⟩ := h
    rfl
  · refine ⟨_, pss_one (ps_fld (pv 0) pe_non rfl), ?_⟩
    obtain ⟨x, dx, rfl, hx, q⟩ := h
    refine ⟨_, rfl, x, CH, dx, [], rfl, hx, T.cl, T.nC, (by show 0 < 1000; decide), ?_⟩
    exact q _ (fun b o e hb => by rw [upd_ne hb]; exact e) (upd_same.trans rfl)
/-! ### Refused.__init__, need -/
def spRInit (CR : Addr) : Sp := fun vs H Q _ => ∃ (a : Addr) (n : Int), vs = [.ref a, .int n] ∧ H a = some (exo a CR none) ∧ ∀ d, H d = none → d ≠ a → Q .non (upd (upd H d (exd d [("number", .int n)])) a (exo a CR (some d)))
theorem scRI : FnScope ["self", "number"] ["self", "number"] (defScope (inClass (top 28) 0)) := ⟨rfl, rfl, rfl, by decide +kernel, rfl, by decide +kernel, by decide +kernel⟩
theorem ok_rinit {fI f : Addr} {fd : FuncData} (F : Fun K "__init__" "Refused.__init__" (inClass (top 28) 0) f fd) (T : RefT K mg CR fI) : FnOk P w K mg base CX0 1 f fd ["self", "number"] (spRInit CR) := by
  refine F.ok scRI (fun vs H Q E h => ?_) (fun cdv A outer s H vs Q E hr h => ?_)
  · obtain ⟨x, n, rfl, _⟩ := h
    rfl
  · refine ⟨_, pss_one (ps_ost (pv 0) (pv 1)), ?_⟩
    obtain ⟨a, n, rfl, ha, q⟩ := h
    exact ⟨_, rfl, _, rfl, a, CR, rfl, T.oex, T.no, .inl ⟨ha, fun d hd ne => q d hd ne⟩⟩
/-- a refusal with a number, all as it was -/
def Rz (CR : Addr) (E : XK) (H : Hp) (n : Int) : Prop := ∀ (H' : Hp) (d : Addr), Same H H' → H' d = some (.xd [("number", .int n)]) → E (.ref CR) (some d) H'
theorem Rz.mono {E : XK} {H H' : Hp} {n : Int} (h : Rz CR E H n) (s : Same H H') : Rz CR E H' n := fun H2 d s2 e => h H2 d (s.trans s2) e
def spNeed (CR : Addr) : Sp := fun vs H Q E => ∃ (c : Bool) (n : Int), vs = [.bl c, .int n] ∧ (c = true → Q .non H) ∧ (c = false → Rz CR E H n)
theorem scNeed : FnScope ["fulfilled", "number"] ["fulfilled", "number"] (defScope (top 29)) := ⟨rfl, rfl, rfl, by decide +kernel, rfl, by decide +kernel, by decide +kernel⟩
theorem ok_need {fI : Addr} {fdI : FuncData} (T : RefT K mg CR fI) (FI : Fun K "__init__" "Refused.__init__" (inClass (top 28) 0) fI fdI) (bI : Binds K fdI ["self", "number"] []) (D : Dn K mg "need" (top 29) ["fulfilled", "number"]) :
    Cal P w K mg base (L2.CX P w) 3 "need" ["fulfilled", "number"] (spNeed CR) := by
  have GI : FnOk P w K mg base CX0 1 fI fdI ["self", "number"] (spRInit CR) := ok_rinit FI T
  refine D.okX scNeed (fun vs H Q E h => ?_) (fun f cdv A outer s H vs Q E hr h => ?_)
  · obtain ⟨c, n, rfl, _⟩ := h
    rfl
  · refine ⟨_, pss_one (ps_if (pt_not (pt_val (pv 0))) (pss_one (ps_raise rfl (takes_of rfl rfl rfl rfl) (pmk_oex T.oex T.init T.tI GI hr bI .nil pass0 rfl T.g (pa_cons (pv 1) pa_nil)))) pss_nil), ?_⟩
    obtain ⟨c, n, rfl, kT, kF⟩ := h
    refine ⟨_, rfl, c, rfl, ifB (fun e => ?_) (fun e => ?_)⟩
    · have e' : c = false := by simpa using e
      refine ⟨_, rfl, (by show 1 ≤ 1000; decide), fun a ha => ⟨a, n, rfl, upd_same, fun d hd ne => ⟨rfl, d, [("number", .int n)], upd_same, ?_, ?_, ?_⟩⟩⟩
      · rw [upd_ne ne, upd_same]
      · rw [upd_ne ne] at hd
        exact hd
      · rw [upd_ne ne] at hd
        refine kF e' _ d (fun b o eb => ?_) upd_same
        have nb : b ≠ d := ne_of_none eb hd
        have na : b ≠ a := ne_of_none eb ha
        rw [upd_ne nb, del_ne na, upd_ne na, upd_ne nb, upd_ne na]
        exact eb
    · have e' : c = true := by simpa using e
      exact kT e'
end
end Pc
namespace Pc
open PySem PySem.Spec PyProof.Rows L2 Crewm
/-! ### numbers of the module -/
def Cst (mg : Str → Option Value) (x : Str) (n : Int) : Prop := ∃ t, mg x = some (Value.int n t)
theorem pe_cst {X : Cx} {x : Str} {pos : Pos} {n : Int} (h : Cst X.mg x n) (hg : Gl X x := by rfl) (hd : (x == ("__debug__" : Str)) = false := by decide) : PE X (.Name x pos) (tC (.int n)) := by
  obtain ⟨t, e⟩ := h
  exact pe_glob hg e ⟨t, rfl⟩ hd
theorem passE {X : Cx} {E : XK} (tk : Takes X (fun cls d _ H => E cls d H)) : ∀ σ, PassesAt (L2.CX X.prog X.w) X σ ((fun _ => E : L2.St → XK) σ) := fun σ => passAt tk σ
/-! ### data that are compared -/
def datN (l : List Nat) : PyData := .list (l.map fun (n : Nat) => PyData.int (n : Int))
theorem dpAllN {K : PySem.W.Frag} {H : Hp} : ∀ l : List Nat, DpAll K H (l.map iv) (l.map fun (n : Nat) => PyData.int (n : Int))
  | [] => .nil
  | _ :: l => .cons (.int _) (dpAllN l)
theorem dpN {K : PySem.W.Frag} {H : Hp} {a : Addr} {l : List Nat} (h : NatsL K H a l) : Dp K H (.ref a) (datN l) := .lst h (dpAllN l)
theorem layN : ∀ l : List Nat, PyData.canLayAll0 (l.map fun (n : Nat) => PyData.int (n : Int)) = true ∧ PyData.depthAll (l.map fun (n : Nat) => PyData.int (n : Int)) = 0
  | [] => ⟨by simp [PyData.canLayAll0], by simp [PyData.depthAll]⟩
  | x :: l => by
    obtain ⟨h1, h2⟩ := layN l
    exact ⟨by simp [PyData.canLayAll0, PyData.canLay0, h1], by simp [PyData.depthAll, PyData.depth, h2]⟩
theorem shapedN (l : List Nat) : SeqAt.shaped (datN l) = true := by
  obtain ⟨h1, h2⟩ := layN l
  unfold SeqAt.shaped datN
  simp [PyData.canLay0, PyData.depth, h1, h2]
theorem eqvAllN : ∀ l m : List Nat, PyData.eqvAll (l.map fun (n : Nat) => PyData.int (n : Int)) (m.map fun (n : Nat) => PyData.int (n : Int)) = decide (l = m)
  | [], [] => by simp [PyData.eqvAll]
  | x :: l, y :: m => by
    simp only [List.map_cons, PyData.eqvAll, PyData.eqv, eqvAllN l m]
    by_cases h : x = y
    · simp [h]
    · simp [h]
      intro z
      omega
  | [], _ :: _ => by simp [PyData.eqvAll]
  | _ :: _, [] => by simp [PyData.eqvAll]
theorem eqvN (l m : List Nat) : PyData.eqv (datN l) (datN m) = decide (l = m) := by
  unfold datN
  simp only [PyData.eqv]
  exact eqvAllN l m
def datP (ps : List (List Nat)) : PyData := .list (ps.map datN)
theorem layP : ∀ ps : List (List Nat), PyData.canLayAll0 (ps.map datN) = true ∧ PyData.depthAll (ps.map datN) ≤ 1
  | [] => ⟨by simp [PyData.canLayAll0], by simp [PyData.depthAll]⟩
  | l :: ps => by
    obtain ⟨h1, h2⟩ := layP ps
    obtain ⟨h3, h4⟩ := layN l
    refine ⟨by simp [PyData.canLayAll0, PyData.canLay0, datN, h1, h3], ?_⟩
    simp only [List.map_cons, PyData.depthAll, datN, PyData.depth, h4]
    omega
theorem shapedP (ps : List (List Nat)) : SeqAt.shaped (datP ps) = true := by
  obtain ⟨h1, h2⟩ := layP ps
  have e1 : PyData.canLay0 (.list (ps.map datN)) = true := by simp only [PyData.canLay0]; exact h1
  have e2 : PyData.depth (.list (ps.map datN)) ≤ 64 := by
    simp only [PyData.depth]
    omega
  unfold SeqAt.shaped datP
  rw [e1, decide_eq_true e2]
  rfl
theorem dpAllP {K : PySem.W.Frag} {H : Hp} : ∀ {as : List Addr} {ps : List (List Nat)}, Al (NatsL K H) as ps → DpAll K H (as.map V.ref) (ps.map datN)
  | [], [], _ => .nil
  | a :: as, l :: ps, h => .cons (dpN (h.2 0 a l rfl rfl)) (dpAllP ⟨by simpa using h.1, fun i b x e1 e2 => h.2 (i + 1) b x (by simpa using e1) (by simpa using e2)⟩)
  | [], _ :: _, h => by simpa using h.1
  | _ :: _, [], h => by simpa using h.1
theorem dpP {K : PySem.W.Frag} {H : Hp} {a : Addr} {ps : List (List Nat)} (h : PipesL K H a ps) : Dp K H (.ref a) (datP ps) := by
  obtain ⟨as, h1, h2⟩ := h
  exact .lst h1 (dpAllP h2)
theorem eqvP (ps : List (List Nat)) : PyData.eqv (datP ps) (.list []) = decide (ps = []) := by
  cases ps with
  | nil => simp [datP, PyData.eqv, PyData.eqvAll]
  | cons l ps => simp [datP, PyData.eqv, PyData.eqvAll]
/-! ### the crew -/
structure CrewAt (CC z : Addr) (H : Hp) (a pl al : Addr) (p : Kqk6.PipeSystem) : Prop where
  obj : ∃ dx, H a = some (.ins CC dx (crewF pl al (p.dayCount : Int) (p.total : Int)))
  rows : ∃ as : List Addr, H pl = some (.lst (as.map V.ref)) ∧ Al (fun b l => b ≠ z ∧ b ≠ al ∧ b ≠ pl ∧ NatsT H b l) as p.pipes
  ages : H al = some (.lst (p.ages.map iv))
  ne : pl ≠ al
  z1 : pl ≠ z
  z2 : al ≠ z
  good : Good p.pipes
  va : VA p.pipes p.ages
section
variable {CC z a pl al : Addr} {H H' : Hp} {p : Kqk6.PipeSystem}
theorem CrewAt.mono (h : CrewAt CC z H a pl al p) (s : Same H H') : CrewAt CC z H' a pl al p := by
  obtain ⟨dx, h1⟩ := h.obj
  obtain ⟨as, h2, h3⟩ := h.rows
  exact ⟨⟨dx, s _ _ h1⟩, ⟨as, s _ _ h2, h3.mono fun b l q => ⟨q.1, q.2.1, q.2.2.1, q.2.2.2.mono s⟩⟩, s _ _ h.ages, h.ne, h.z1, h.z2, h.good, h.va⟩
theorem CrewAt.pipes (h : CrewAt CC z H a pl al p) (K : PySem.W.Frag) : PipesL K H pl p.pipes := by
  obtain ⟨as, h2, h3⟩ := h.rows
  exact ⟨as, SqL.of h2, h3.mono fun b l q => q.2.2.2.l⟩
theorem CrewAt.agesL (h : CrewAt CC z H a pl al p) (K : PySem.W.Frag) : NatsL K H al p.ages := SqL.of h.ages
theorem CrewAt.len (h : CrewAt CC z H a pl al p) : p.ages.length = p.pipes.length := va_len h.va
theorem CrewAt.plen (h : CrewAt CC z H a pl al p) (K : PySem.W.Frag) : ∃ ys : List V, SqL K H pl ys ∧ ys.length = p.pipes.length := by
  obtain ⟨as, h2, h3⟩ := h.rows
  exact ⟨_, SqL.of h2, by rw [List.length_map, h3.1]⟩
end
section
variable {P : Program} {w : World} {K : PySem.W.Frag} {mg : Str → Option Value} {base : Heap} {CC CR : Addr}
/-! ### need_pipe -/
def spNP (CC CR : Addr) : Sp := fun vs H Q E => ∃ (z a pl al : Addr) (p : Kqk6.PipeSystem) (i : Nat), vs = [.ref a, iv i] ∧ CrewAt CC z H a pl al p ∧ (i < p.pipes.length → Q .non H) ∧ (p.pipes.length ≤ i → Rz CR E H (-2))
theorem scNP : FnScope ["crew", "pipe"] ["crew", "pipe"] (defScope (top 45)) := ⟨rfl, rfl, rfl, by decide +kernel, rfl, by decide +kernel, by decide +kernel⟩
theorem ok_np (B : Blt mg) (T : CrewT K mg CC) (c2 : Cst mg "NO_PIPE" (-2)) (D : Dn K mg "need_pipe" (top 45) ["crew", "pipe"]) (C : Cal P w K mg base (L2.CX P w) 3 "need" ["fulfilled", "number"] (spNeed CR)) :
    Cal P w K mg base (L2.CX P w) 4 "need_pipe" ["crew", "pipe"] (spNP CC CR) := by
  refine D.okX scNP (fun vs H Q E h => ?_) (fun f cdv A outer s H vs Q E hr h => ?_)
  · obtain ⟨z, a, pl, al, p, i, rfl, _⟩ := h
    rfl
  · refine ⟨_, pss_one (ps_expr (pe_cal C hr (passE (takes_of rfl rfl rfl rfl)) (pa_cons (pe_cmpR op_lt (pv 1) (pe_callB call_len_seq (by rfl) B.len PySem.boot_len (pa_cons (pe_fld (pv 0) rfl) pa_nil)) (nomark _)) (pa_cons (pe_cst c2) pa_nil)))), ?_⟩
    obtain ⟨z, a, pl, al, p, i, rfl, hc, kT, kF⟩ := h
    obtain ⟨dx, h1⟩ := hc.obj
    obtain ⟨ys, hy, hyl⟩ := hc.plen K
    refine ⟨_, rfl, _, rfl, a, CC, dx, _, _, rfl, h1, T.cl, T.nP, cF_pipes, pl, _, rfl, .inl hy, _, _, rfl, rfl, _, _, rfl, fun e => ?_, fun e => ?_⟩
    · have e' : (i : Int) < (ys.length : Int) := decT e
      exact kT (by omega)
    · have e' : ¬ (i : Int) < (ys.length : Int) := decF e
      exact kF (by omega)
/-! ### need_choices -/
def spNC (K : PySem.W.Frag) (CC CR : Addr) : Sp := fun vs H Q E => ∃ (z a pl al g : Addr) (p : Kqk6.PipeSystem) (cs : List Nat), vs = [.ref a, .ref g] ∧ CrewAt CC z H a pl al p ∧ NatsL K H g cs ∧
  ((∀ c, c ∈ cs → c ≤ p.pipes.length) → Q .non H) ∧ ((∃ c, c ∈ cs ∧ p.pipes.length < c) → Rz CR E H (-2))
theorem scNC : FnScope ["crew", "choices", "choice"] ["crew", "choices"] (defScope (top 46)) := ⟨rfl, rfl, rfl, by decide +kernel, rfl, by decide +kernel, by decide +kernel⟩
theorem ok_nc (B : Blt mg) (T : CrewT K mg CC) (c2 : Cst mg "NO_PIPE" (-2)) (D : Dn K mg "need_choices" (top 46) ["crew", "choices"]) (C : Cal P w K mg base (L2.CX P w) 3 "need" ["fulfilled", "number"] (spNeed CR)) :
    Cal P w K mg base (L2.CX P w) 4 "need_choices" ["crew", "choices"] (spNC K CC CR) := by
  refine D.okX scNC (fun vs H Q E h => ?_) (fun f cdv A outer s H vs Q E hr h => ?_)
  · obtain ⟨z, a, pl, al, g, p, cs, rfl, _⟩ := h
    rfl
  · refine ⟨_, pss_one (ps_for (passes_of rfl) rfl (pi_list (pv 1)) (pg_name (i := 2) scNC.nd rfl (.inl rfl))
      (pss_one (ps_expr (pe_cal C hr (passE (takes_of rfl rfl rfl rfl)) (pa_cons (pe_cmpR op_le (pv 2) (pe_callB call_len_seq (by rfl) B.len PySem.boot_len (pa_cons (pe_fld (pv 0) rfl) pa_nil)) (nomark _)) (pa_cons (pe_cst c2) pa_nil)))))), ?_⟩
    obtain ⟨z, a, pl, al, g, p, cs, rfl, hc, hg, kT, kF⟩ := h
    obtain ⟨dx, h1⟩ := hc.obj
    obtain ⟨ys, hy, hyl⟩ := hc.plen K
    refine ⟨_, rfl, g, rfl, ⟨_, hg⟩, for_list (K := K) (a := g) (xs := cs.map iv) (fun i σ H' => ∃ v, σ = [some (.ref a), some (.ref g), v] ∧ H' = H ∧ ∀ c, c ∈ cs.take i → c ≤ p.pipes.length) ⟨_, rfl, rfl, fun c h => by simp at h⟩ (fun i σ H' _ ⟨_, _, e, _⟩ => e ▸ hg) ?_ ?_⟩
    · rintro i y σ H' hi ⟨v, rfl, rfl, hall⟩
      obtain ⟨c, hcs, rfl⟩ := map_at hi
      refine ⟨_, rfl, _, rfl, a, CC, dx, _, _, rfl, h1, T.cl, T.nP, cF_pipes, pl, _, rfl, .inl hy, _, _, rfl, rfl, _, _, rfl, fun e => ?_, fun e => ?_⟩
      · have e' : (c : Int) ≤ (ys.length : Int) := decT e
        refine ⟨_, rfl, rfl, fun d hd => ?_⟩
        rw [take_snoc hcs] at hd
        rcases List.mem_append.mp hd with hd | hd
        · exact hall d hd
        · rw [List.mem_singleton.mp hd]
          omega
      · have e' : ¬ (c : Int) ≤ (ys.length : Int) := decF e
        exact kF ⟨c, List.mem_of_getElem? hcs, by omega⟩
    · rintro σ H' ⟨v, rfl, rfl, hall⟩
      rw [List.length_map, List.take_length] at hall
      exact kT hall
/-! ### need_some_pipes -/
def spNS (CC CR : Addr) : Sp := fun vs H Q E => ∃ (z a pl al : Addr) (p : Kqk6.PipeSystem), vs = [.ref a] ∧ CrewAt CC z H a pl al p ∧ (p.pipes ≠ [] → ∀ H', Same H H' → Q .non H') ∧ (p.pipes = [] → Rz CR E H (-6))
theorem scNS : FnScope ["crew"] ["crew"] (defScope (top 47)) := ⟨rfl, rfl, rfl, by decide +kernel, rfl, by decide +kernel, by decide +kernel⟩
theorem ok_ns (T : CrewT K mg CC) (c6 : Cst mg "NO_PIPES" (-6)) (D : Dn K mg "need_some_pipes" (top 47) ["crew"]) (C : Cal P w K mg base (L2.CX P w) 3 "need" ["fulfilled", "number"] (spNeed CR)) :
    Cal P w K mg base (L2.CX P w) 4 "need_some_pipes" ["crew"] (spNS CC CR) := by
  refine D.okX scNS (fun vs H Q E h => ?_) (fun f cdv A outer s H vs Q E hr h => ?_)
  · obtain ⟨z, a, pl, al, p, rfl, _⟩ := h
    rfl
  · refine ⟨_, pss_one (ps_expr (pe_cal C hr (passE (takes_of rfl rfl rfl rfl)) (pa_cons (pe_cmpR (op_neD hr.units) (pe_fld (pv 0) rfl) (pe_lst pa_nil) (nomark _)) (pa_cons (pe_cst c6) pa_nil)))), ?_⟩
    obtain ⟨z, a, pl, al, p, rfl, hc, kT, kF⟩ := h
    obtain ⟨dx, h1⟩ := hc.obj
    refine ⟨_, rfl, a, CC, dx, _, _, rfl, h1, T.cl, T.nP, cF_pipes, (by show 0 ≤ sizeLine; decide), fun q hq => ?_⟩
    have s1 := same_upd (o := .lst []) hq
    refine ⟨datP p.pipes, .list [], dpP ((hc.pipes K).same s1), .lst (SqL.of upd_same) .nil, shapedP _, by decide, ?_⟩
    rw [eqvP]
    refine ⟨_, _, rfl, fun e => ?_, fun e => ?_⟩
    · refine kT (fun z => ?_) _ s1
      rw [z] at e
      simp at e
    · exact (kF (by simpa using e)).mono s1
end
end Pc
namespace Pc
open PySem PySem.Spec PyProof.Rows L2 Crewm
/-! ### what a deed leaves -/
def Done (CC CR z : Addr) (H : Hp) (a pl al : Addr) (p : Kqk6.PipeSystem) (r : Option Kqk6.PipeSystem × Kqk6.Result) (Q : VK) (E : XK) : Prop :=
  (∀ (H' : Hp) (t pl' al' : Addr) (p' : Kqk6.PipeSystem), r.1 = some p' → (∀ b o, H b = some o → b ≠ a → b ≠ pl → b ≠ al → H' b = some o) → CrewAt CC z H' a pl' al' p' → H' t = some (.lst ((Kqk6Neutral.fields r.2).map V.int)) → H t = none → Q (.ref t) H') ∧
  (∀ n, r = (some p, .value n) → Rz CR E H n)
def ofN (l : List Nat) : List Int := l.map fun (n : Nat) => (n : Int)
/-- what a call hands over, and what it asks -/
def Enc : Nat → List Int → Kqk6.Request → Prop
  | 1, g, q => ∃ l : List Nat, g = ofN l ∧ l.length ≤ 60 ∧ q = .addPipe l
  | 2, g, q => ∃ i : Nat, g = ofN [i] ∧ q = .removePipe i
  | 3, g, q => ∃ c : Nat, g = ofN [c] ∧ q = .operate c
  | 4, g, q => ∃ l : List Nat, g = ofN l ∧ l.length ≤ 60 ∧ q = .operateDays l
  | 5, g, q => g = [] ∧ q = .ages
  | 6, g, q => ∃ c : Nat, g = ofN [c] ∧ q = .outputIf c
  | 7, g, q => ∃ d : Nat, g = ofN [d] ∧ q = .bestTotal d
  | 8, g, q => ∃ d : Nat, g = ofN [d] ∧ q = .bestChoice d
  | 9, g, q => g = [] ∧ q = .bestMean
  | 10, g, q => ∃ l : List Nat, g = ofN l ∧ l.length ≤ 60 ∧ q = .cycleMean l
  | 11, g, q => ∃ l : List Nat, g = ofN l ∧ l.length ≤ 60 ∧ q = .attainsBestMean l
  | 12, g, q => ∃ (a b : Nat) (r : List Int), g = (a : Int) :: (b : Int) :: r ∧ r.length ≤ 60 ∧ q = .provesBound a b r
  | 13, g, q => ∃ i k : Nat, g = ofN [i, k] ∧ q = .meanWithInterval i k
  | 14, g, q => ∃ i : Nat, g = ofN [i] ∧ q = .bestMeanAlone i
  | 15, g, q => g = [] ∧ q = .outputWithoutCleaning
  | 16, g, q => g = [] ∧ q = .cleanAll
  | 17, g, q => g = [] ∧ q = .mostDegraded
  | 18, g, q => g = [] ∧ q = .countStates
  | 19, g, q => g = [] ∧ q = .summary
  | _, _, _ => False
theorem intsN {K : PySem.W.Frag} {H : Hp} {g : Addr} {l : List Nat} (h : IntsL K H g (ofN l)) : NatsL K H g l := by
  have e : (ofN l).map V.int = l.map iv := by
    unfold ofN
    rw [List.map_map]
    rfl
  unfold IntsL at h
  rw [e] at h
  exact h
def spDeed (K : PySem.W.Frag) (CC CR : Addr) (n : Nat) : Sp := fun vs H Q E => ∃ (z a g pl al : Addr) (p : Kqk6.PipeSystem) (given : List Int) (q : Kqk6.Request), vs = [.ref a, .ref g] ∧ (∃ xs, H z = some (.lst xs)) ∧ CrewAt CC z H a pl al p ∧
  IntsL K H g given ∧ Enc n given q ∧ Done CC CR z H a pl al p (Kqk6.step (some p) q) Q E
theorem spDeed_len {K : PySem.W.Frag} {CC CR : Addr} {n : Nat} (vs : List V) (H : Hp) (Q : VK) (E : XK) (h : spDeed K CC CR n vs H Q E) : vs.length = (["crew", "given"] : List Str).length := by
  obtain ⟨z, a, g, pl, al, p, given, q, rfl, _⟩ := h
  rfl
section
variable {CC CR z a pl al : Addr} {H H' : Hp} {p : Kqk6.PipeSystem} {r : Option Kqk6.PipeSystem × Kqk6.Result} {Q : VK} {E : XK}
/-- nothing has changed -/
theorem Done.same {t : Addr} {x : Kqk6.Result} (hd : Done CC CR z H a pl al p r Q E) (e : r = (some p, x)) (hc : CrewAt CC z H a pl al p) (s : Same H H') (h0 : H t = none) (h : H' t = some (.lst ((Kqk6Neutral.fields x).map V.int))) : Q (.ref t) H' := by
  subst e
  exact hd.1 H' t pl al p rfl (fun b o e _ _ _ => s b o e) (hc.mono s) h h0
theorem Done.no {n : Int} (hd : Done CC CR z H a pl al p r Q E) (e : r = (some p, .value n)) : Rz CR E H n := hd.2 n e
end
/-! ### the outputs that add_pipe takes -/
theorem noninc_iff : ∀ l : List Nat, Kqk6.isNonincreasing l = true ↔ ∀ j, j + 1 < l.length → l.getD (j + 1) 0 ≤ l.getD j 0
  | [] => by simp [Kqk6.isNonincreasing]
  | [x] => by simp [Kqk6.isNonincreasing]
  | x :: y :: r => by
    have ih := noninc_iff (y :: r)
    show (decide (y ≤ x) && Kqk6.isNonincreasing (y :: r)) = true ↔ _
    rw [Bool.and_eq_true, ih, decide_eq_true_eq]
    constructor
    · rintro ⟨h1, h2⟩ j hj
      cases j with
      | zero => simpa using h1
      | succ j =>
        have := h2 j (by simpa using hj)
        simpa using this
    · intro h
      refine ⟨by simpa using h 0 (by simp), fun j hj => ?_⟩
      have := h (j + 1) (by simpa using hj)
      simpa using this
theorem le_first {l : List Nat} (h : ∀ j, j + 1 < l.length → l.getD (j + 1) 0 ≤ l.getD j 0) : ∀ i, i < l.length → l.getD i 0 ≤ l.getD 0 0
  | 0, _ => Nat.le_refl _
  | i + 1, hi => Nat.le_trans (h i hi) (le_first h i (by omega))
theorem outs_iff (l : List Nat) : Kqk6.areOutputs l = true ↔ (1 ≤ l.length ∧ l.length ≤ 4) ∧ l.getD 0 0 ≤ 100 ∧ ∀ j, j + 1 < l.length → l.getD (j + 1) 0 ≤ l.getD j 0 := by
  unfold Kqk6.areOutputs
  rw [Bool.and_eq_true, Bool.and_eq_true, Bool.and_eq_true, noninc_iff, decide_eq_true_eq, decide_eq_true_eq, List.all_eq_true]
  show ((1 ≤ l.length ∧ l.length ≤ 4) ∧ _) ∧ _ ↔ _
  constructor
  · rintro ⟨⟨h1, h2⟩, h3⟩
    refine ⟨h1, ?_, h2⟩
    have hm : l.getD 0 0 ∈ l := by
      rw [List.getD_eq_getElem?_getD, List.getElem?_eq_getElem (show 0 < l.length by omega)]
      exact List.getElem_mem _
    simpa using h3 _ hm
  · rintro ⟨h1, h2, h3⟩
    refine ⟨⟨h1, h3⟩, fun x hx => ?_⟩
    obtain ⟨i, hi, e⟩ := List.getElem_of_mem hx
    have := le_first h3 i hi
    rw [List.getD_eq_getElem?_getD, List.getElem?_eq_getElem hi] at this
    have e2 : (some l[i]).getD 0 = x := e
    rw [e2] at this
    exact decide_eq_true (by omega)
theorem cutV_take (xs : List V) (i : Nat) : cutV xs none (some (i : Int)) = xs.take i := by
  unfold cutV
  rw [HT.sIx_none, HT.sIx_nat, Nat.sub_zero, List.drop_zero]
  by_cases h : i ≤ xs.length
  · rw [Nat.min_eq_left h]
  · rw [Nat.min_eq_right (by omega), List.take_length, List.take_of_length_le (by omega)]
theorem cutV_drop (xs : List V) (i : Nat) : cutV xs (some (i : Int)) none = xs.drop i := by
  unfold cutV
  rw [HT.sIx_none, HT.sIx_nat]
  by_cases h : i ≤ xs.length
  · rw [Nat.min_eq_left h, List.take_of_length_le (by rw [List.length_drop]; omega)]
  · rw [Nat.min_eq_right (by omega), List.drop_of_length_le (Nat.le_refl _), List.drop_of_length_le (by omega), Nat.sub_self]
    rfl
section
variable {P : Program} {w : World} {K : PySem.W.Frag} {mg : Str → Option Value} {base : Heap} {CC CR : Addr}
/-! ### are_outputs -/
def spAO (K : PySem.W.Frag) : Sp := fun vs H Q _ => ∃ (g : Addr) (l : List Nat), vs = [.ref g] ∧ NatsL K H g l ∧ Q (.bl (Kqk6.areOutputs l)) H
theorem scAO : FnScope ["outputs", "age"] ["outputs"] (defScope (top 48)) := ⟨rfl, rfl, rfl, by decide +kernel, rfl, by decide +kernel, by decide +kernel⟩
theorem ok_ao (B : Blt mg) (c4 : Cst mg "MOST_OUTPUTS" 4) (c100 : Cst mg "MOST_OUTPUT" 100) (D : Dn K mg "are_outputs" (top 48) ["outputs"]) : Cal P w K mg base CX0 1 "are_outputs" ["outputs"] (spAO K) := by
  refine D.ok scAO (fun vs H Q E h => ?_) (fun f cdv A outer s H vs Q E hr h => ?_)
  · obtain ⟨g, l, rfl, _⟩ := h
    rfl
  · refine ⟨_, pss_cons (ps_if (PW.pt (pw_or (pt_not (pt_chain op_le op_le pe_int (pe_callB call_len_seq (by rfl) B.len PySem.boot_len (pa_cons (pv 0) pa_nil)) (pe_cst c4)))
        (pw_or1 (pt_cmpR op_gt (pe_ix ix_list (pv 0) pe_int (fun _ _ => rfl)) (pe_cst c100) (nomark _))))) (pss_one (ps_ret pe_bl)) pss_nil)
      (pss_cons (ps_for PassesOwn.never rfl (pi_range2 (by rfl) B.range (pa_cons pe_int (pa_cons (pe_callB call_len_seq (by rfl) B.len PySem.boot_len (pa_cons (pv 0) pa_nil)) pa_nil))) (pg_name (i := 1) scAO.nd rfl (.inl rfl))
        (pss_one (ps_if (pt_cmpR op_gt (pe_ix ix_list (pv 0) (pv 1) (fun _ _ => rfl)) (pe_ix ix_list (pv 0) (pe_op op_sub (pv 1) pe_int) (fun _ _ => rfl)) (nomark _)) (pss_one (ps_ret pe_bl)) pss_nil)))
      (pss_one (ps_ret pe_bl))), ?_⟩
    obtain ⟨g, l, rfl, hg, q⟩ := h
    have hlen : (l.map iv).length = l.length := List.length_map _
    have bad : ¬ Kqk6.areOutputs l = true → Q (.bl false) H := fun h => by
      have e : Kqk6.areOutputs l = false := by simpa using h
      rw [e] at q
      exact q
    have rest : (1 ≤ l.length ∧ l.length ≤ 4) → l.getD 0 0 ≤ 100 → tSeq (tFor (iRng2 (tCons (tC (.int 1)) (tCons (tCB (fun xs H Q => ∃ p ys, xs = [.ref p] ∧ (SqL K H p ys ∨ SqT K H p ys) ∧ Q (.int ys.length) H) (tCons (tVar 0) tNil)) tNil))) (gName 1)
        (tIfS (tTest (tOp (rI0 fun i j => .bl (decide (j < i))) (tOp (rIxL K) (tVar 0) (tVar 1)) (tOp (rIxL K) (tVar 0) (tOp (rI0 fun i j => .int (i - j)) (tVar 1) (tC (.int 1)))))) (tRet (tC (.bl false))) tNext)) (tRet (tC (.bl true)))
        { nx := fun _ H' => Q .non H', rt := Q } [some (.ref g), none] H := by
      intro h1 h2
      refine ⟨_, rfl, g, _, rfl, .inl hg, ?_⟩
      rw [hlen]
      refine ⟨_, _, rfl, ⟨by omega, by omega, by omega, by omega⟩, for_r1 (n := ((l.length : Int) - 1).toNat) (fun i σ H' => ∃ v, σ = [some (.ref g), v] ∧ H' = H ∧ ∀ j, j < i → l.getD (j + 1) 0 ≤ l.getD j 0) ⟨_, rfl, rfl, fun j h => absurd h (Nat.not_lt_zero _)⟩ ?_ ?_⟩
      · rintro i σ H' hi ⟨v, rfl, rfl, hall⟩
        have e1 : ((1 + i : Nat) : Int) - 1 = ((i : Nat) : Int) := by omega
        refine ⟨_, rfl, _, rfl, g, _, _, _, rfl, rfl, hg, at_nat (by omega), _, rfl, _, rfl, _, _, rfl, rfl, g, _, _, _, rfl, rfl, hg, (by rw [e1]; exact at_nat (by omega)), _, _, rfl, rfl, _, rfl, ifB (fun e => ?_) (fun e => ?_)⟩
        · have e' : ((l.getD i 0 : Nat) : Int) < ((l.getD (1 + i) 0 : Nat) : Int) := decT e
          refine bad fun h => ?_
          have := ((outs_iff l).1 h).2.2 i (by omega)
          rw [Nat.add_comm] at this
          omega
        · have e' : ¬ ((l.getD i 0 : Nat) : Int) < ((l.getD (1 + i) 0 : Nat) : Int) := decF e
          refine ⟨_, rfl, rfl, fun j hj => ?_⟩
          by_cases z : j = i
          · rw [z, Nat.add_comm]
            omega
          · exact hall j (by omega)
      · rintro σ H' ⟨v, rfl, rfl, hall⟩
        have e : Kqk6.areOutputs l = true := (outs_iff l).2 ⟨h1, h2, fun j hj => hall j (by omega)⟩
        rw [e] at q
        exact q
    refine ⟨_, rfl, g, _, rfl, .inl hg, ?_⟩
    rw [hlen]
    refine ⟨_, _, rfl, rfl, _, rfl, ifB (fun e => ?_) (fun e => ?_)⟩
    · have e1 : (1 : Int) ≤ (l.length : Int) := decT e
      refine ⟨_, _, rfl, rfl, _, rfl, ifB (fun e2 => ?_) (fun e2 => ?_)⟩
      · have e3 : ¬ (l.length : Int) ≤ 4 := by simpa using e2
        exact iteT (bad fun h => by have := ((outs_iff l).1 h).1; omega)
      · have e3 : (l.length : Int) ≤ 4 := by simpa using e2
        refine ⟨_, rfl, g, _, _, _, rfl, rfl, hg, at_nat (i := 0) (by omega), _, _, rfl, rfl, _, rfl, ifB (fun e4 => ?_) (fun e4 => ?_)⟩
        · have e5 : (100 : Int) < ((l.getD 0 0 : Nat) : Int) := decT e4
          exact bad fun h => by have := ((outs_iff l).1 h).2.1; omega
        · have e5 : ¬ (100 : Int) < ((l.getD 0 0 : Nat) : Int) := decF e4
          exact rest ⟨by omega, by omega⟩ (by omega)
    · have e1 : ¬ (1 : Int) ≤ (l.length : Int) := decF e
      exact ⟨_, rfl, iteT (bad fun h => by have := ((outs_iff l).1 h).1; omega)⟩
end
end Pc
namespace Pc
open PySem PySem.Spec PyProof.Rows L2 Crewm
theorem ins_ne {H : Hp} {a b C dx : Addr} {fs : List (Str × V)} {xs : List V} (h : H a = some (.ins C dx fs)) (h' : H b = some (.lst xs)) : a ≠ b := fun z => by
  rw [z, h'] at h
  cases h
theorem good_snoc {ps : List (List Nat)} {l : List Nat} (g : Good ps) (h : ps.length < 3) (o : Kqk6.areOutputs l = true) : Good (ps ++ [l]) := by
  obtain ⟨h1, h2, h3⟩ := (outs_iff l).1 o
  refine ⟨by rw [List.length_append]; show ps.length + 1 ≤ 3; omega, fun x hx => ?_, fun x hx => ?_, fun x hx y hy => ?_⟩
  · rcases List.mem_append.mp hx with hx | hx
    · exact g.len x hx
    · rw [List.mem_singleton.mp hx]; exact h1
  · rcases List.mem_append.mp hx with hx | hx
    · exact g.dec x hx
    · rw [List.mem_singleton.mp hx]; exact (noninc_iff l).2 h3
  · rcases List.mem_append.mp hx with hx | hx
    · exact g.most x hx y hy
    · rw [List.mem_singleton.mp hx] at hy
      obtain ⟨i, hi, e⟩ := List.getElem_of_mem hy
      have := le_first h3 i hi
      rw [List.getD_eq_getElem?_getD, List.getElem?_eq_getElem hi] at this
      have e2 : (some l[i]).getD 0 = y := e
      rw [e2] at this
      omega
theorem va_snoc : ∀ {ps : List (List Nat)} {as : List Nat} {l : List Nat}, VA ps as → 0 < l.length → VA (ps ++ [l]) (as ++ [0])
  | [], [], _, _, h => ⟨h, trivial⟩
  | _ :: _, _ :: _, _, h, h2 => ⟨h.1, va_snoc h.2 h2⟩
  | [], _ :: _, _, h, _ => h.elim
  | _ :: _, [], _, h, _ => h.elim
theorem va_erase : ∀ {ps : List (List Nat)} {as : List Nat} (i : Nat), VA ps as → VA (ps.eraseIdx i) (as.eraseIdx i)
  | [], [], _, _ => trivial
  | _ :: _, _ :: _, 0, h => h.2
  | _ :: _, _ :: _, i + 1, h => ⟨h.1, va_erase i h.2⟩
  | [], _ :: _, _, h => h.elim
  | _ :: _, [], _, h => h.elim
theorem good_erase {ps : List (List Nat)} (g : Good ps) (i : Nat) : Good (ps.eraseIdx i) := by
  have s : ∀ x, x ∈ ps.eraseIdx i → x ∈ ps := fun x hx => List.mem_of_mem_eraseIdx hx
  refine ⟨Nat.le_trans (by rw [List.length_eraseIdx]; split <;> omega) g.n, fun x hx => g.len x (s x hx), fun x hx => g.dec x (s x hx), fun x hx => g.most x (s x hx)⟩
theorem Al.cut {α β : Type} {R : α → β → Prop} {as : List α} {xs : List β} (h : Al R as xs) (i : Nat) : Al R (as.eraseIdx i) (xs.eraseIdx i) := by
  refine ⟨by rw [List.length_eraseIdx, List.length_eraseIdx, h.1], fun j b x e1 e2 => ?_⟩
  rw [List.getElem?_eraseIdx] at e1 e2
  split at e1
  · rename_i hj
    rw [if_pos hj] at e2
    exact h.2 j b x e1 e2
  · rename_i hj
    rw [if_neg hj] at e2
    exact h.2 (j + 1) b x e1 e2
section
variable {P : Program} {w : World} {K : PySem.W.Frag} {mg : Str → Option Value} {base : Heap} {CC CR : Addr}
/-! ### add_pipe -/
theorem scAdd : FnScope ["crew", "given"] ["crew", "given"] (defScope (top 49)) := ⟨rfl, rfl, rfl, by decide +kernel, rfl, by decide +kernel, by decide +kernel⟩
theorem ok_add (B : Blt mg) (T : CrewT K mg CC) (c3 : Cst mg "MOST_PIPES" 3) (c22 : Cst mg "OUT_OF_RANGE" (-22)) (c28 : Cst mg "TOO_MANY" (-28)) (D : Dn K mg "add_pipe" (top 49) ["crew", "given"])
    (C : Cal P w K mg base (L2.CX P w) 3 "need" ["fulfilled", "number"] (spNeed CR)) (C1 : Cal P w K mg base CX0 1 "are_outputs" ["outputs"] (spAO K)) : Cal P w K mg base (L2.CX P w) 5 "add_pipe" ["crew", "given"] (spDeed K CC CR 1) := by
  refine D.okX scAdd spDeed_len (fun f cdv A outer s H vs Q E hr h => ?_)
  have hr3 : Room 3 _ := hr.mono (by decide)
  have hr1 : Room 1 _ := hr.mono (by decide)
  refine ⟨_, pss_cons (ps_expr (pe_cal C hr3 (passE (takes_of rfl rfl rfl rfl)) (pa_cons (pe_cal (E := E1) C1 hr1 pass1 (pa_cons (pv 1) pa_nil)) (pa_cons (pe_cst c22) pa_nil))))
    (pss_cons (ps_expr (pe_cal C hr3 (passE (takes_of rfl rfl rfl rfl)) (pa_cons (pe_cmpR op_lt (pe_callB call_len_seq (by rfl) B.len PySem.boot_len (pa_cons (pe_fld (pv 0) rfl) pa_nil)) (pe_cst c3) (nomark _)) (pa_cons (pe_cst c28) pa_nil))))
    (pss_cons (ps_expr (pe_bm PySem.F.plainAttrs_list PySem.F.slot_list_append PySem.F.type_list_append mt_append (pe_fld (pv 0) rfl) (pa_cons (pe_callTy call_list_of (by rfl) B.list (by decide +kernel) (pa_cons (pv 1) pa_nil)) pa_nil)))
    (pss_cons (ps_expr (pe_bm PySem.F.plainAttrs_list PySem.F.slot_list_append PySem.F.type_list_append mt_append (pe_fld (pv 0) rfl) (pa_cons pe_int pa_nil)))
    (pss_one (ps_ret (pe_lst (pa_cons (pe_op op_sub (pe_callB call_len_seq (by rfl) B.len PySem.boot_len (pa_cons (pe_fld (pv 0) rfl) pa_nil)) pe_int) pa_nil))))))), ?_⟩
  obtain ⟨z, a, g, pl, al, p, given, q, rfl, ⟨zs, hz⟩, hc, hg, ⟨l, rfl, hl60, rfl⟩, hd⟩ := h
  have hgN := intsN hg
  obtain ⟨dx, h1⟩ := hc.obj
  obtain ⟨as, hpl, hA⟩ := hc.rows
  have hal := hc.ages
  have hasl : as.length = p.pipes.length := hA.1
  have hn3 := hc.good.n
  refine ⟨_, rfl, g, l, rfl, hgN, _, _, rfl, fun e => ?_, fun e => ?_⟩
  · refine ⟨_, rfl, a, CC, dx, _, _, rfl, h1, T.cl, T.nP, cF_pipes, pl, _, rfl, .inl (SqL.of hpl), _, _, rfl, rfl, _, _, rfl, fun e2 => ?_, fun e2 => ?_⟩
    · have e3 : ((as.map V.ref).length : Int) < 3 := decT e2
      rw [List.length_map] at e3
      have hst : Kqk6.step (some p) (.addPipe l) = (some { p with pipes := p.pipes ++ [l], ages := p.ages ++ [0] }, .value p.pipes.length) := by
        show (if Kqk6.areOutputs l = false then _ else if 3 ≤ p.pipes.length then _ else _) = _
        rw [if_neg (by rw [e]; exact Bool.noConfusion), if_neg (by omega)]
      rw [hst] at hd
      have nap : a ≠ pl := ins_ne h1 hpl
      have naa : a ≠ al := ins_ne h1 hal
      refine ⟨_, rfl, a, CC, dx, _, _, rfl, h1, T.cl, T.nP, cF_pipes, .inl ⟨rfl, _, SqL.of hpl⟩, _, rfl, g, _, rfl, .inl hgN, fun r hr0 => ?_⟩
      have nrp : pl ≠ r := ne_of_none hpl hr0
      have nra : al ≠ r := ne_of_none hal hr0
      have naR : a ≠ r := ne_of_none h1 hr0
      refine ⟨pl, _, _, rfl, rfl, by rw [upd_ne nrp]; exact hpl, by rw [List.length_map]; exact small1000 (by omega), ?_⟩
      refine ⟨_, rfl, a, CC, dx, _, _, rfl, by rw [upd_ne nap, upd_ne naR]; exact h1, T.cl, T.nA, cF_ages, ?_⟩
      have h2al : upd (upd H r (.lst (l.map iv))) pl (.lst (as.map V.ref ++ [.ref r])) al = some (.lst (p.ages.map iv)) := by rw [upd_ne (Ne.symm hc.ne), upd_ne nra]; exact hal
      refine ⟨.inl ⟨rfl, _, SqL.of h2al⟩, al, _, _, rfl, rfl, h2al, by rw [List.length_map, hc.len]; exact small1000 (by omega), ?_⟩
      have h3pl : upd (upd (upd H r (.lst (l.map iv))) pl (.lst (as.map V.ref ++ [.ref r]))) al (.lst (p.ages.map iv ++ [.int 0])) pl = some (.lst (as.map V.ref ++ [.ref r])) := by rw [upd_ne hc.ne, upd_same]
      refine ⟨_, rfl, a, CC, dx, _, _, rfl, by rw [upd_ne naa, upd_ne nap, upd_ne naR]; exact h1, T.cl, T.nP, cF_pipes, pl, _, rfl, .inl (SqL.of h3pl), _, _, rfl, rfl, (by show 1 ≤ sizeLine; decide), fun t ht => ?_⟩
      have old : ∀ b o, H b = some o → b ≠ pl → b ≠ al → upd (upd (upd (upd H r (.lst (l.map iv))) pl (.lst (as.map V.ref ++ [.ref r]))) al (.lst (p.ages.map iv ++ [.int 0]))) t (.lst [.int ((((as.map V.ref ++ [V.ref r]).length : Nat) : Int) - 1)]) b = some o := fun b o e n1 n2 => by
        have e4 : upd (upd (upd H r (.lst (l.map iv))) pl (.lst (as.map V.ref ++ [.ref r]))) al (.lst (p.ages.map iv ++ [.int 0])) b = some o := by
          rw [upd_ne n2, upd_ne n1, upd_ne (ne_of_none e hr0)]
          exact e
        rw [upd_ne (ne_of_none e4 ht)]
        exact e4
      have ntp : pl ≠ t := ne_of_none h3pl ht
      have nta : al ≠ t := ne_of_none (upd_same (o := HO.lst (p.ages.map iv ++ [.int 0]))) ht
      have ntr : r ≠ t := fun z => by
        rw [← z, upd_ne (Ne.symm nra), upd_ne (Ne.symm nrp), upd_same] at ht
        cases ht
      have ht0 : H t = none := by
        rw [upd_ne (Ne.symm nta), upd_ne (Ne.symm ntp), upd_ne (Ne.symm ntr)] at ht
        exact ht
      have nrz : r ≠ z := fun e => by rw [e, hz] at hr0; cases hr0
      refine hd.1 _ t pl al _ rfl (fun b o e _ n1 n2 => old b o e n1 n2) ⟨⟨dx, old _ _ h1 nap naa⟩, ⟨as ++ [r], ?_, ?_⟩, ?_, hc.ne, hc.z1, hc.z2, good_snoc hc.good (by omega) e, va_snoc hc.va (((outs_iff l).1 e).1.1)⟩ ?_ ht0
      · rw [upd_ne ntp, h3pl, List.map_append]
        rfl
      · refine Al.snoc (hA.mono fun b m q => ⟨q.1, q.2.1, q.2.2.1, old _ _ q.2.2.2 q.2.2.1 q.2.1⟩) ⟨nrz, Ne.symm nra, Ne.symm nrp, ?_⟩
        show upd _ t _ r = _
        rw [upd_ne ntr, upd_ne (Ne.symm nra), upd_ne (Ne.symm nrp), upd_same]
      · rw [upd_ne nta, upd_same, List.map_append]
        rfl
      · rw [upd_same]
        show some (HO.lst [V.int (((as.map V.ref ++ [V.ref r]).length : Int) - 1)]) = some (HO.lst [V.int (p.pipes.length : Int)])
        rw [List.length_append, List.length_map]
        have e5 : ((as.length + [V.ref r].length : Nat) : Int) - 1 = (p.pipes.length : Int) := by
          show ((as.length + 1 : Nat) : Int) - 1 = _
          omega
        rw [e5]
    · have e3 : ¬ ((as.map V.ref).length : Int) < 3 := decF e2
      rw [List.length_map] at e3
      refine hd.no ?_
      show (if Kqk6.areOutputs l = false then _ else if 3 ≤ p.pipes.length then _ else _) = _
      rw [if_neg (by rw [e]; exact Bool.noConfusion), if_pos (by omega)]
  · refine hd.no ?_
    show (if Kqk6.areOutputs l = false then _ else if 3 ≤ p.pipes.length then _ else _) = _
    rw [if_pos e]
end
end Pc
namespace Pc
open PySem PySem.Spec PyProof.Rows L2 Crewm
theorem map_erase {α β : Type} (f : α → β) (l : List α) (i : Nat) : (l.map f).eraseIdx i = (l.eraseIdx i).map f := by
  rw [List.eraseIdx_eq_take_drop_succ, List.eraseIdx_eq_take_drop_succ, List.map_append, List.map_take, List.map_drop]
section
variable {P : Program} {w : World} {K : PySem.W.Frag} {mg : Str → Option Value} {base : Heap} {CC CR : Addr}
/-- o.f[:i] + o.f[i + 1:] -/
theorem cut_ok {H : Hp} {a dx l : Addr} {fs : List (Str × V)} {f : Str} {xs : List V} {i : Nat} {σ : L2.St} {Q : VK} (h1 : H a = some (.ins CC dx fs)) (cl : Cls K CC) (nf : NoAttr K CC f) (hf : fs.lookup f = some (.ref l)) (hl : H l = some (.lst xs))
    (s0 : σ[0]? = some (some (.ref a))) (s2 : σ[2]? = some (some (iv i))) (hz : xs.length ≤ 100) (hq : ∀ (H' : Hp) (r : Addr), Same H H' → H r = none → H' r = some (.lst (xs.eraseIdx i)) → Q (.ref r) H') :
    tOp rCat (tSl (rSlL K) (tFld K (tVar 0) f) tNoPart (tPart (tVar 2))) (tSl (rSlL K) (tFld K (tVar 0) f) (tPart (tOp (rI0 fun i j => .int (i + j)) (tVar 2) (tC (.int 1)))) tNoPart) σ H Q := by
  refine ⟨_, s0, a, CC, dx, _, _, rfl, h1, cl, nf, hf, _, s2, _, rfl, l, _, rfl, SqL.of hl, fun q1 hq1 => ?_⟩
  rw [cutV_take]
  have u1 := same_upd (o := .lst (xs.take i)) hq1
  refine ⟨_, s0, a, CC, dx, _, _, rfl, u1 _ _ h1, cl, nf, hf, _, s2, _, _, rfl, rfl, _, rfl, l, _, rfl, SqL.of (u1 _ _ hl), fun q2 hq2 => ?_⟩
  have e1 : ((i : Nat) : Int) + 1 = ((i + 1 : Nat) : Int) := by omega
  dsimp only
  rw [e1, cutV_drop]
  have u2 := same_upd (o := .lst (xs.drop (i + 1))) hq2
  have n12 : q1 ≠ q2 := fun z => by rw [← z, upd_same] at hq2; cases hq2
  refine ⟨q1, q2, _, _, rfl, rfl, by rw [upd_ne n12, upd_same], upd_same, ?_, fun q3 hq3 => ?_⟩
  · rw [List.length_take, List.length_drop]
    exact Nat.le_of_lt (small1000 (by omega))
  · refine hq _ q3 ((u1.trans u2).trans (same_upd hq3)) ((u1.trans u2).free hq3) ?_
    rw [upd_same, List.eraseIdx_eq_take_drop_succ]
/-! ### remove_pipe -/
theorem scRem : FnScope ["crew", "given", "pipe"] ["crew", "given"] (defScope (top 50)) := ⟨rfl, rfl, rfl, by decide +kernel, rfl, by decide +kernel, by decide +kernel⟩
theorem ok_rem (B : Blt mg) (T : CrewT K mg CC) (D : Dn K mg "remove_pipe" (top 50) ["crew", "given"]) (C : Cal P w K mg base (L2.CX P w) 4 "need_pipe" ["crew", "pipe"] (spNP CC CR)) : Cal P w K mg base (L2.CX P w) 5 "remove_pipe" ["crew", "given"] (spDeed K CC CR 2) := by
  refine D.okX scRem spDeed_len (fun f cdv A outer s H vs Q E hr h => ?_)
  refine ⟨_, pss_cons (ps_set (i := 2) scRem.nd rfl (.inl rfl) (pe_ix ix_list (pv 1) pe_int (fun _ _ => rfl)))
    (pss_cons (ps_expr (pe_cal C hr (passE (takes_of rfl rfl rfl rfl)) (pa_cons (pv 0) (pa_cons (pv 2) pa_nil))))
    (pss_cons (ps_fld (pv 0) (pe_op op_cat (pe_slice sl_list (pe_fld (pv 0) rfl) po_none (po_some (pv 2))) (pe_slice sl_list (pe_fld (pv 0) rfl) (po_some (pe_op op_add (pv 2) pe_int)) po_none)) rfl)
    (pss_cons (ps_fld (pv 0) (pe_op op_cat (pe_slice sl_list (pe_fld (pv 0) rfl) po_none (po_some (pv 2))) (pe_slice sl_list (pe_fld (pv 0) rfl) (po_some (pe_op op_add (pv 2) pe_int)) po_none)) rfl)
    (pss_one (ps_ret (pe_lst (pa_cons (pe_callB call_len_seq (by rfl) B.len PySem.boot_len (pa_cons (pe_fld (pv 0) rfl) pa_nil)) pa_nil))))))), ?_⟩
  obtain ⟨z, a, g, pl, al, p, given, q, rfl, ⟨zs, hz⟩, hc, hg, ⟨i, rfl, rfl⟩, hd⟩ := h
  have hgN := intsN hg
  obtain ⟨dx, h1⟩ := hc.obj
  obtain ⟨as, hpl, hA⟩ := hc.rows
  have hal := hc.ages
  have hasl : as.length = p.pipes.length := hA.1
  have hn3 := hc.good.n
  have nap : a ≠ pl := ins_ne h1 hpl
  have naa : a ≠ al := ins_ne h1 hal
  refine ⟨_, rfl, g, _, _, _, rfl, rfl, hgN, at_nat (i := 0) (by show 0 < 1; decide), ?_⟩
  refine ⟨_, rfl, _, rfl, z, a, pl, al, p, i, rfl, hc, fun e => ?_, fun e => ?_⟩
  · have hst : Kqk6.step (some p) (.removePipe i) = (some { p with pipes := p.pipes.eraseIdx i, ages := p.ages.eraseIdx i }, .value (p.pipes.length - 1 : Nat)) := by
      show (if p.pipes.length ≤ i then _ else _) = _
      rw [if_neg (by omega)]
    rw [hst] at hd
    refine cut_ok h1 T.cl T.nP cF_pipes hpl rfl rfl (by rw [List.length_map]; omega) fun H1 r1 s1 hr1 h2 => ?_
    refine ⟨_, rfl, a, CC, dx, _, rfl, s1 _ _ h1, T.cl, T.nP, (by show 4 < 1000; decide), ?_⟩
    rw [cP_pipes]
    have na1 : a ≠ r1 := ne_of_none h1 hr1
    have k1 : ∀ b o, H b = some o → b ≠ a → upd H1 a (.ins CC dx (crewF r1 al p.dayCount p.total)) b = some o := fun b o e n => by rw [upd_ne n]; exact s1 b o e
    refine cut_ok (H := upd H1 a (.ins CC dx (crewF r1 al p.dayCount p.total))) upd_same T.cl T.nA cF_ages (k1 _ _ hal (Ne.symm naa)) rfl rfl (by rw [List.length_map, hc.len]; omega) fun H2 r2 s2 hr2 h3 => ?_
    refine ⟨_, rfl, a, CC, dx, _, rfl, s2 _ _ upd_same, T.cl, T.nA, (by show 4 < 1000; decide), ?_⟩
    rw [cP_ages]
    have k2 : ∀ b o, H b = some o → b ≠ a → upd H2 a (.ins CC dx (crewF r1 r2 p.dayCount p.total)) b = some o := fun b o e n => by rw [upd_ne n]; exact s2 b o (k1 b o e n)
    have hr2a : a ≠ r2 := ne_of_none upd_same hr2
    have h2' : upd H1 a (.ins CC dx (crewF r1 al p.dayCount p.total)) r1 = some (.lst ((as.map V.ref).eraseIdx i)) := by rw [upd_ne (Ne.symm na1)]; exact h2
    have n12 : r1 ≠ r2 := ne_of_none h2' hr2
    have hr20 : H r2 = none := by
      rw [upd_ne (Ne.symm hr2a)] at hr2
      exact s1.free hr2
    have h4 : upd H2 a (.ins CC dx (crewF r1 r2 p.dayCount p.total)) r1 = some (.lst ((as.map V.ref).eraseIdx i)) := by rw [upd_ne (Ne.symm na1)]; exact s2 _ _ h2'
    refine ⟨_, rfl, a, CC, dx, _, _, rfl, upd_same, T.cl, T.nP, cF_pipes, r1, _, rfl, .inl (SqL.of h4), (by show 1 ≤ sizeLine; decide), fun t ht => ?_⟩
    have u := same_upd (o := .lst [V.int ((((as.map V.ref).eraseIdx i).length : Nat) : Int)]) ht
    have ht0 : H t = none := by
      have nta : a ≠ t := ne_of_none upd_same ht
      rw [upd_ne (Ne.symm nta)] at ht
      have := s2.free ht
      rw [upd_ne (Ne.symm nta)] at this
      exact s1.free this
    refine hd.1 _ t r1 r2 _ rfl (fun b o e n _ _ => u b o (k2 b o e n)) ⟨⟨dx, u _ _ upd_same⟩, ⟨as.eraseIdx i, ?_, ?_⟩, ?_, n12, fun z1 => ?_, fun z1 => ?_, good_erase hc.good i, va_erase i hc.va⟩ ?_ ht0
    · rw [← map_erase]
      exact u _ _ h4
    · refine (hA.cut i).mono fun b m q => ?_
      have qb : H b = some (.lst (m.map iv)) := q.2.2.2
      exact ⟨q.1, ne_of_none qb hr20, ne_of_none qb hr1, u _ _ (k2 _ _ qb fun e => by rw [e, h1] at qb; cases qb)⟩
    · refine u _ _ ?_
      rw [upd_ne (Ne.symm hr2a)]
      show H2 r2 = some (.lst ((p.ages.eraseIdx i).map iv))
      rw [← map_erase]
      exact h3
    · rw [z1, hz] at hr1; cases hr1
    · rw [z1, hz] at hr20; cases hr20
    · rw [upd_same]
      show some (HO.lst [V.int ((((as.map V.ref).eraseIdx i).length : Nat) : Int)]) = some (HO.lst [V.int ((p.pipes.length - 1 : Nat) : Int)])
      rw [List.length_eraseIdx, if_pos (by rw [List.length_map]; omega), List.length_map, hasl]
  · refine hd.no ?_
    show (if p.pipes.length ≤ i then _ else _) = _
    rw [if_pos e]
/-! ### pass_days -/
def afterDays (p : Kqk6.PipeSystem) (cs : List Nat) : Kqk6.PipeSystem := { p with ages := (Kqk6.runDays p.pipes p.ages cs).1, dayCount := p.dayCount + cs.length, total := p.total + (Kqk6.runDays p.pipes p.ages cs).2 }
def spPD (K : PySem.W.Frag) (CC : Addr) : Sp := fun vs H Q _ => ∃ (z a pl al g : Addr) (p : Kqk6.PipeSystem) (cs : List Nat), vs = [.ref a, .ref g] ∧ (∃ xs, H z = some (.lst xs)) ∧ CrewAt CC z H a pl al p ∧ NatsL K H g cs ∧
  ∀ (H' : Hp) (al' : Addr), (∀ b o, H b = some o → b ≠ a → H' b = some o) → (∀ b, H' b = none → H b = none) → CrewAt CC z H' a pl al' (afterDays p cs) → Q (iv (Kqk6.runDays p.pipes p.ages cs).2) H'
theorem scPD : FnScope ["crew", "choices", "total", "ages"] ["crew", "choices"] (defScope (top 51)) := ⟨rfl, rfl, rfl, by decide +kernel, rfl, by decide +kernel, by decide +kernel⟩
theorem ok_pd (B : Blt mg) (T : CrewT K mg CC) (D : Dn K mg "pass_days" (top 51) ["crew", "choices"]) (C : Cal P w K mg base CX0 2 "run_through" ["pipes", "ages", "choices"] (spRun K)) : Cal P w K mg base CX0 3 "pass_days" ["crew", "choices"] (spPD K CC) := by
  refine D.ok scPD (fun vs H Q E h => ?_) (fun f cdv A outer s H vs Q E hr h => ?_)
  · obtain ⟨z, a, pl, al, g, p, cs, rfl, _⟩ := h
    rfl
  · refine ⟨_, pss_cons (ps_asg (pe_cal (E := E1) C hr pass1 (pa_cons (pe_fld (pv 0) rfl) (pa_cons (pe_fld (pv 0) rfl) (pa_cons (pv 1) pa_nil)))) (pg_tup (by rfl) (pgs_cons (pg_name (i := 2) scPD.nd rfl (.inl rfl)) (pgs_cons (pg_name (i := 3) scPD.nd rfl (.inl rfl)) pgs_nil))))
      (pss_cons (ps_fld (pv 0) (pv 3) rfl)
      (pss_cons (ps_fldaug (pv 0) (pe_callB call_len_seq (by rfl) B.len PySem.boot_len (pa_cons (pv 1) pa_nil)) in_add)
      (pss_cons (ps_fldaug (pv 0) (pv 2) in_add)
      (pss_one (ps_ret (pv 2)))))), ?_⟩
    obtain ⟨z, a, pl, al, g, p, cs, rfl, ⟨zs, hz⟩, hc, hg, q⟩ := h
    obtain ⟨dx, h1⟩ := hc.obj
    obtain ⟨as, hpl, hA⟩ := hc.rows
    have hal := hc.ages
    have nap : a ≠ pl := ins_ne h1 hpl
    have naa : a ≠ al := ins_ne h1 hal
    refine ⟨_, rfl, a, CC, dx, _, _, rfl, h1, T.cl, T.nP, cF_pipes, _, rfl, a, CC, dx, _, _, rfl, h1, T.cl, T.nA, cF_ages, _, rfl, pl, al, g, p.pipes, p.ages, cs, rfl, hc.pipes K, hc.agesL K, hg, hc.good, hc.va, fun H1 t r s1 hr0 ht0 ntr ht hr1 => ?_⟩
    have nar : a ≠ r := ne_of_none h1 hr0
    refine ⟨t, _, rfl, SqT.of ht, rfl, _, _, rfl, _, _, rfl, rfl, ?_⟩
    refine ⟨_, rfl, _, rfl, a, CC, dx, _, rfl, s1 _ _ h1, T.cl, T.nA, (by show 4 < 1000; decide), ?_⟩
    rw [cP_ages]
    have k1 : ∀ b o, H1 b = some o → b ≠ a → upd H1 a (.ins CC dx (crewF pl r p.dayCount p.total)) b = some o := fun b o e n => by rw [upd_ne n]; exact e
    have hg1 : ∃ ys : List V, SqL K (upd H1 a (.ins CC dx (crewF pl r p.dayCount p.total))) g ys ∧ ys.length = cs.length := by
      refine ⟨cs.map iv, ?_, List.length_map _⟩
      rcases s1.seq hg with (h | ⟨o, h⟩) | h
      · exact .inl (.inl (k1 _ _ h fun e => by rw [e, s1 _ _ h1] at h; cases h))
      · exact .inl (.inr ⟨o, k1 _ _ h fun e => by rw [e, s1 _ _ h1] at h; cases h⟩)
      · exact .inr h
    obtain ⟨ys, hy, hyl⟩ := hg1
    refine ⟨_, rfl, a, CC, dx, _, _, rfl, upd_same, T.cl, T.nD, cF_past, _, rfl, g, _, rfl, .inl hy, _, _, rfl, rfl, dx, _, upd_same, (by show 4 < 1000; decide), ?_⟩
    rw [cP_past, upd_upd]
    refine ⟨_, rfl, a, CC, dx, _, _, rfl, upd_same, T.cl, T.nT, cF_total, _, rfl, _, _, rfl, rfl, dx, _, upd_same, (by show 4 < 1000; decide), ?_⟩
    rw [cP_total, upd_upd]
    refine ⟨_, rfl, ?_⟩
    have k2 : ∀ b o, H b = some o → b ≠ a → upd H1 a (.ins CC dx (crewF pl r (((p.dayCount : Int)) + (ys.length : Int)) ((p.total : Int) + ((Kqk6.runDays p.pipes p.ages cs).2 : Int)))) b = some o := fun b o e n => by rw [upd_ne n]; exact s1 b o e
    refine q _ r k2 (fun b hb => ?_) ⟨⟨dx, ?_⟩, ⟨as, k2 _ _ hpl (Ne.symm nap), hA.mono fun b m q => ?_⟩, ?_, ne_of_none hpl hr0, hc.z1, fun z1 => ?_, hc.good, run_va cs hc.va⟩
    · have nb : b ≠ a := fun e => by rw [e, upd_same] at hb; cases hb
      rw [upd_ne nb] at hb
      exact s1.free hb
    · rw [upd_same, hyl]
      rfl
    · have qb : H b = some (.lst (m.map iv)) := q.2.2.2
      exact ⟨q.1, ne_of_none qb hr0, q.2.2.1, k2 _ _ qb fun e => by rw [e, h1] at qb; cases qb⟩
    · rw [upd_ne (Ne.symm nar)]
      exact hr1
    · rw [z1, hz] at hr0; cases hr0
end
end Pc
namespace Pc
open PySem PySem.Spec PyProof.Rows L2 Crewm
theorem choices_iff {p : Kqk6.PipeSystem} {l : List Nat} : Kqk6.areChoices p l = true ↔ ∀ c, c ∈ l → c ≤ p.pipes.length := by
  unfold Kqk6.areChoices
  rw [List.all_eq_true]
  exact ⟨fun h c hc => by simpa using h c hc, fun h c hc => by simpa using h c hc⟩
theorem choices_no {p : Kqk6.PipeSystem} {l : List Nat} (h : ∃ c, c ∈ l ∧ p.pipes.length < c) : Kqk6.areChoices p l = false := by
  cases e : Kqk6.areChoices p l with
  | false => rfl
  | true =>
    obtain ⟨c, hc, hl⟩ := h
    have := choices_iff.1 e c hc
    omega
section
variable {CC CR z a pl al : Addr} {H H' : Hp} {p p' : Kqk6.PipeSystem} {r : Option Kqk6.PipeSystem × Kqk6.Result} {Q : VK} {E : XK}
/-- days have passed, the answer is a new list -/
theorem Done.days {t al' : Addr} {x : Int} (hd : Done CC CR z H a pl al p r Q E) (e : r = (some p', .value x)) (k : ∀ b o, H b = some o → b ≠ a → H' b = some o) (f : ∀ b, H' b = none → H b = none) (hc : CrewAt CC z H' a pl al' p') (h0 : H' t = none) : Q (.ref t) (upd H' t (.lst [.int x])) := by
  subst e
  exact hd.1 _ t pl al' p' rfl (fun b o e n _ _ => same_upd h0 b o (k b o e n)) (hc.mono (same_upd h0)) upd_same (f t h0)
end
section
variable {P : Program} {w : World} {K : PySem.W.Frag} {mg : Str → Option Value} {base : Heap} {CC CR : Addr}
/-! ### operate -/
theorem scOp : FnScope ["crew", "given"] ["crew", "given"] (defScope (top 52)) := ⟨rfl, rfl, rfl, by decide +kernel, rfl, by decide +kernel, by decide +kernel⟩
theorem ok_op (D : Dn K mg "operate" (top 52) ["crew", "given"]) (C : Cal P w K mg base (L2.CX P w) 4 "need_choices" ["crew", "choices"] (spNC K CC CR)) (C1 : Cal P w K mg base CX0 3 "pass_days" ["crew", "choices"] (spPD K CC)) :
    Cal P w K mg base (L2.CX P w) 5 "operate" ["crew", "given"] (spDeed K CC CR 3) := by
  refine D.okX scOp spDeed_len (fun f cdv A outer s H vs Q E hr h => ?_)
  have hr3 : Room 3 _ := hr.mono (by decide)
  refine ⟨_, pss_cons (ps_expr (pe_cal C hr (passE (takes_of rfl rfl rfl rfl)) (pa_cons (pv 0) (pa_cons (pv 1) pa_nil))))
    (pss_one (ps_ret (pe_lst (pa_cons (pe_cal (E := E1) C1 hr3 pass1 (pa_cons (pv 0) (pa_cons (pv 1) pa_nil))) pa_nil)))), ?_⟩
  obtain ⟨z, a, g, pl, al, p, given, q, rfl, hz, hc, hg, ⟨c, rfl, rfl⟩, hd⟩ := h
  have hgN := intsN hg
  refine ⟨_, rfl, _, rfl, z, a, pl, al, g, p, [c], rfl, hc, hgN, fun hall => ?_, fun hno => ?_⟩
  · have hcl := hall c (List.Mem.head _)
    have hst : Kqk6.step (some p) (.operate c) = (some (afterDays p [c]), .value ((Kqk6.runDays p.pipes p.ages [c]).2 : Nat)) := by
      show (if p.pipes.length < c then _ else _) = _
      rw [if_neg (by omega)]
      rfl
    refine ⟨_, rfl, _, rfl, z, a, pl, al, g, p, [c], rfl, hz, hc, hgN, fun H' al' k f hc' => ⟨(by show 1 ≤ sizeLine; decide), fun t ht => ?_⟩⟩
    exact hd.days hst k f hc' ht
  · refine hd.no ?_
    obtain ⟨d, hdm, hl⟩ := hno
    rw [List.mem_singleton.mp hdm] at hl
    show (if p.pipes.length < c then _ else _) = _
    rw [if_pos hl]
/-! ### operate_days -/
theorem scOds : FnScope ["crew", "given"] ["crew", "given"] (defScope (top 53)) := ⟨rfl, rfl, rfl, by decide +kernel, rfl, by decide +kernel, by decide +kernel⟩
theorem ok_ods (B : Blt mg) (c20 : Cst mg "MOST_CHOICES" 20) (c22 : Cst mg "OUT_OF_RANGE" (-22)) (D : Dn K mg "operate_days" (top 53) ["crew", "given"]) (C0 : Cal P w K mg base (L2.CX P w) 3 "need" ["fulfilled", "number"] (spNeed CR))
    (C : Cal P w K mg base (L2.CX P w) 4 "need_choices" ["crew", "choices"] (spNC K CC CR)) (C1 : Cal P w K mg base CX0 3 "pass_days" ["crew", "choices"] (spPD K CC)) :
    Cal P w K mg base (L2.CX P w) 5 "operate_days" ["crew", "given"] (spDeed K CC CR 4) := by
  refine D.okX scOds spDeed_len (fun f cdv A outer s H vs Q E hr h => ?_)
  have hr3 : Room 3 _ := hr.mono (by decide)
  refine ⟨_, pss_cons (ps_expr (pe_cal C hr (passE (takes_of rfl rfl rfl rfl)) (pa_cons (pv 0) (pa_cons (pv 1) pa_nil))))
    (pss_cons (ps_expr (pe_cal C0 hr3 (passE (takes_of rfl rfl rfl rfl)) (pa_cons (pe_cmpR op_le (pe_callB call_len_seq (by rfl) B.len PySem.boot_len (pa_cons (pv 1) pa_nil)) (pe_cst c20) (nomark _)) (pa_cons (pe_cst c22) pa_nil))))
    (pss_one (ps_ret (pe_lst (pa_cons (pe_cal (E := E1) C1 hr3 pass1 (pa_cons (pv 0) (pa_cons (pv 1) pa_nil))) pa_nil))))), ?_⟩
  obtain ⟨z, a, g, pl, al, p, given, q, rfl, hz, hc, hg, ⟨l, rfl, hl60, rfl⟩, hd⟩ := h
  have hgN := intsN hg
  refine ⟨_, rfl, _, rfl, z, a, pl, al, g, p, l, rfl, hc, hgN, fun hall => ?_, fun hno => ?_⟩
  · have hch := choices_iff.2 hall
    refine ⟨_, rfl, g, _, rfl, .inl hgN, _, _, rfl, rfl, _, _, rfl, fun e => ?_, fun e => ?_⟩
    · have e1 : ((l.map iv).length : Int) ≤ 20 := decT e
      rw [List.length_map] at e1
      have hst : Kqk6.step (some p) (.operateDays l) = (some (afterDays p l), .value ((Kqk6.runDays p.pipes p.ages l).2 : Nat)) := by
        show (if Kqk6.areChoices p l = false then _ else if 20 < l.length then _ else _) = _
        rw [if_neg (by rw [hch]; exact Bool.noConfusion), if_neg (by omega)]
        rfl
      refine ⟨_, rfl, _, rfl, z, a, pl, al, g, p, l, rfl, hz, hc, hgN, fun H' al' k f hc' => ⟨(by show 1 ≤ sizeLine; decide), fun t ht => ?_⟩⟩
      exact hd.days hst k f hc' ht
    · have e1 : ¬ ((l.map iv).length : Int) ≤ 20 := decF e
      rw [List.length_map] at e1
      refine hd.no ?_
      show (if Kqk6.areChoices p l = false then _ else if 20 < l.length then _ else _) = _
      rw [if_neg (by rw [hch]; exact Bool.noConfusion), if_pos (by omega)]
  · refine hd.no ?_
    show (if Kqk6.areChoices p l = false then _ else if 20 < l.length then _ else _) = _
    rw [if_pos (choices_no hno)]
/-! ### clean_all -/
theorem scCl : FnScope ["crew", "given"] ["crew", "given"] (defScope (top 67)) := ⟨rfl, rfl, rfl, by decide +kernel, rfl, by decide +kernel, by decide +kernel⟩
theorem ok_cl (B : Blt mg) (T : CrewT K mg CC) (D : Dn K mg "clean_all" (top 67) ["crew", "given"]) : Cal P w K mg base (L2.CX P w) 5 "clean_all" ["crew", "given"] (spDeed K CC CR 16) := by
  refine Cal.mono (j := 1) (D.okX scCl spDeed_len (fun f cdv A outer s H vs Q E hr h => ?_)) (by decide)
  refine ⟨_, pss_cons (ps_fld (pv 0) (pe_op op_rep (pe_lst (pa_cons pe_int pa_nil)) (pe_callB call_len_seq (by rfl) B.len PySem.boot_len (pa_cons (pe_fld (pv 0) rfl) pa_nil))) rfl)
    (pss_one (ps_ret (pe_lst (pa_cons (pe_callB call_len_seq (by rfl) B.len PySem.boot_len (pa_cons (pe_fld (pv 0) rfl) pa_nil)) pa_nil)))), ?_⟩
  obtain ⟨z, a, g, pl, al, p, given, q, rfl, ⟨zs, hz⟩, hc, hg, ⟨rfl, rfl⟩, hd⟩ := h
  obtain ⟨dx, h1⟩ := hc.obj
  obtain ⟨as, hpl, hA⟩ := hc.rows
  have hn3 := hc.good.n
  have nap : a ≠ pl := ins_ne h1 hpl
  have hl : (as.map V.ref).length = p.pipes.length := by rw [List.length_map, hA.1]
  refine ⟨(by show 1 ≤ sizeLine; decide), fun q1 hq1 => ?_⟩
  have u1 := same_upd (o := .lst [V.int 0]) hq1
  refine ⟨_, rfl, a, CC, dx, _, _, rfl, u1 _ _ h1, T.cl, T.nP, cF_pipes, pl, _, rfl, .inl (SqL.of (u1 _ _ hpl)), q1, _, _, rfl, rfl, upd_same, ?_⟩
  rw [hl]
  refine ⟨by omega, by omega, ?_, fun r hr0 => ?_⟩
  · show 1 * ((p.pipes.length : Nat) : Int).toNat ≤ sizeLine
    have : 1 * ((p.pipes.length : Nat) : Int).toNat = p.pipes.length := by omega
    rw [this]
    exact Nat.le_of_lt (small1000 (by omega))
  have u2 := u1.trans (same_upd (o := .lst (List.replicate ((p.pipes.length : Nat) : Int).toNat [V.int 0]).flatten) hr0)
  have hr00 : H r = none := u1.free hr0
  have nar : a ≠ r := ne_of_none h1 hr00
  refine ⟨_, rfl, a, CC, dx, _, rfl, u2 _ _ h1, T.cl, T.nA, (by show 4 < 1000; decide), ?_⟩
  rw [cP_ages]
  have k1 : ∀ b o, H b = some o → b ≠ a → upd (upd (upd H q1 (.lst [V.int 0])) r (.lst (List.replicate ((p.pipes.length : Nat) : Int).toNat [V.int 0]).flatten)) a (.ins CC dx (crewF pl r p.dayCount p.total)) b = some o := fun b o e n => by rw [upd_ne n]; exact u2 b o e
  refine ⟨_, rfl, a, CC, dx, _, _, rfl, upd_same, T.cl, T.nP, cF_pipes, pl, _, rfl, .inl (SqL.of (k1 _ _ hpl (Ne.symm nap))), (by show 1 ≤ sizeLine; decide), fun t ht => ?_⟩
  have u := same_upd (o := .lst [V.int ((((as.map V.ref)).length : Nat) : Int)]) ht
  have ht0 : H t = none := by
    have nta : a ≠ t := ne_of_none upd_same ht
    rw [upd_ne (Ne.symm nta)] at ht
    exact u2.free ht
  refine hd.1 _ t pl r _ rfl (fun b o e n _ _ => u b o (k1 b o e n)) ⟨⟨dx, u _ _ upd_same⟩, ⟨as, u _ _ (k1 _ _ hpl (Ne.symm nap)), hA.mono fun b m q => ?_⟩, ?_, ne_of_none hpl hr00, hc.z1, fun z1 => ?_, hc.good, ?_⟩ ?_ ht0
  · have qb : H b = some (.lst (m.map iv)) := q.2.2.2
    exact ⟨q.1, ne_of_none qb hr00, q.2.2.1, u _ _ (k1 _ _ qb fun e => by rw [e, h1] at qb; cases qb)⟩
  · refine u _ _ ?_
    rw [upd_ne (Ne.symm nar), upd_same, flat_rep]
    show _ = some (HO.lst ((p.ages.map fun _ => 0).map iv))
    have e : ((p.pipes.length : Nat) : Int).toNat = p.pipes.length := by omega
    rw [e, List.map_map]
    show _ = some (HO.lst (p.ages.map fun _ => V.int 0))
    rw [List.map_const', hc.len]
  · rw [z1, hz] at hr00; cases hr00
  · have e : (p.ages.map fun _ => 0) = p.pipes.map fun _ => 0 := by rw [List.map_const', List.map_const', hc.len]
    show VA p.pipes (p.ages.map fun _ => 0)
    rw [e]
    exact va_zero hc.good.ok
  · rw [upd_same, hl]
    show _ = some (HO.lst [V.int (p.ages.length : Int)])
    rw [hc.len]
end
end Pc
namespace Pc
open PySem PySem.Spec PyProof.Rows L2 Crewm
theorem ints_map (l : List Nat) : (Kqk6.ints l).map V.int = l.map iv := by
  unfold Kqk6.ints
  rw [List.map_map]
  rfl
theorem mean_mk (t d : Nat) : Kqk6.meanOf t d = mkRat (t : Int) d := by
  rw [Rat.mkRat_eq_div]
  rfl
/-- the fraction of a mean, answered -/
theorem frac_low (t d : Nat) (h : 0 < d) : (Kqk6Neutral.fields (Kqk6.fraction (Kqk6.meanOf t d))).map V.int = [.int 0, iv (lowM t d).1, iv (lowM t d).2] := by
  obtain ⟨h1, h2⟩ := low_num (a := t) h
  show [V.int 0, V.int (Kqk6.meanOf t d).num, V.int ((Kqk6.meanOf t d).den : Int)] = _
  rw [mean_mk, h1, h2]
  rfl
section
variable {P : Program} {w : World} {K : PySem.W.Frag} {mg : Str → Option Value} {base : Heap} {CC CR : Addr}
/-! ### show_ages -/
theorem scSA : FnScope ["crew", "given"] ["crew", "given"] (defScope (top 54)) := ⟨rfl, rfl, rfl, by decide +kernel, rfl, by decide +kernel, by decide +kernel⟩
theorem ok_sa (B : Blt mg) (T : CrewT K mg CC) (D : Dn K mg "show_ages" (top 54) ["crew", "given"]) : Cal P w K mg base (L2.CX P w) 5 "show_ages" ["crew", "given"] (spDeed K CC CR 5) := by
  refine Cal.mono (j := 1) (D.okX scSA spDeed_len (fun f cdv A outer s H vs Q E hr h => ?_)) (by decide)
  refine ⟨_, pss_one (ps_ret (pe_op op_cat (pe_lst (pa_cons (pe_callB call_len_seq (by rfl) B.len PySem.boot_len (pa_cons (pe_fld (pv 0) rfl) pa_nil)) pa_nil)) (pe_fld (pv 0) rfl))), ?_⟩
  obtain ⟨z, a, g, pl, al, p, given, q, rfl, _, hc, hg, ⟨rfl, rfl⟩, hd⟩ := h
  obtain ⟨dx, h1⟩ := hc.obj
  obtain ⟨ys, hy, hyl⟩ := hc.plen K
  have hn3 := hc.good.n
  refine ⟨_, rfl, a, CC, dx, _, _, rfl, h1, T.cl, T.nP, cF_pipes, pl, _, rfl, .inl hy, (by show 1 ≤ sizeLine; decide), fun q1 hq1 => ?_⟩
  have u1 := same_upd (o := .lst [V.int (ys.length : Int)]) hq1
  refine ⟨_, rfl, a, CC, dx, _, _, rfl, u1 _ _ h1, T.cl, T.nA, cF_ages, q1, al, _, _, rfl, rfl, upd_same, u1 _ _ hc.ages, ?_, fun t ht => ?_⟩
  · rw [List.length_map, hc.len]
    exact Nat.le_of_lt (small1000 (by show 1 + p.pipes.length ≤ 1000; omega))
  · refine hd.same rfl hc (u1.trans (same_upd ht)) (u1.free ht) ?_
    rw [upd_same]
    show _ = some (HO.lst (V.int (p.ages.length : Int) :: (Kqk6.ints p.ages).map V.int))
    rw [ints_map, hyl, hc.len]
    rfl
/-! ### output_if -/
theorem scOI : FnScope ["crew", "given"] ["crew", "given"] (defScope (top 55)) := ⟨rfl, rfl, rfl, by decide +kernel, rfl, by decide +kernel, by decide +kernel⟩
theorem ok_oi (T : CrewT K mg CC) (D : Dn K mg "output_if" (top 55) ["crew", "given"]) (C : Cal P w K mg base (L2.CX P w) 4 "need_choices" ["crew", "choices"] (spNC K CC CR)) (C1 : Cal P w K mg base CX0 1 "day_output" ["pipes", "ages", "choice"] (spDay K)) :
    Cal P w K mg base (L2.CX P w) 5 "output_if" ["crew", "given"] (spDeed K CC CR 6) := by
  refine D.okX scOI spDeed_len (fun f cdv A outer s H vs Q E hr h => ?_)
  have hr1 : Room 1 _ := hr.mono (by decide)
  refine ⟨_, pss_cons (ps_expr (pe_cal C hr (passE (takes_of rfl rfl rfl rfl)) (pa_cons (pv 0) (pa_cons (pv 1) pa_nil))))
    (pss_one (ps_ret (pe_lst (pa_cons (pe_cal (E := E1) C1 hr1 pass1 (pa_cons (pe_fld (pv 0) rfl) (pa_cons (pe_fld (pv 0) rfl) (pa_cons (pe_ix ix_list (pv 1) pe_int (fun _ _ => rfl)) pa_nil)))) pa_nil)))), ?_⟩
  obtain ⟨z, a, g, pl, al, p, given, q, rfl, hz, hc, hg, ⟨c, rfl, rfl⟩, hd⟩ := h
  have hgN := intsN hg
  obtain ⟨dx, h1⟩ := hc.obj
  refine ⟨_, rfl, _, rfl, z, a, pl, al, g, p, [c], rfl, hc, hgN, fun hall => ?_, fun hno => ?_⟩
  · have hcl := hall c (List.Mem.head _)
    refine ⟨_, rfl, a, CC, dx, _, _, rfl, h1, T.cl, T.nP, cF_pipes, _, rfl, a, CC, dx, _, _, rfl, h1, T.cl, T.nA, cF_ages, _, rfl, g, _, _, _, rfl, rfl, hgN, at_nat (i := 0) (by show 0 < 1; decide), pl, al, p.pipes, p.ages, c, rfl, hc.pipes K, hc.agesL K, hc.good, hc.va, (by show 1 ≤ sizeLine; decide), fun t ht => ?_⟩
    refine hd.same (x := .value (Kqk6.dayOutput p.pipes p.ages c)) ?_ hc (same_upd ht) ht upd_same
    show (some p, if p.pipes.length < c then _ else _) = _
    rw [if_neg (by omega)]
  · refine hd.no ?_
    obtain ⟨d, hdm, hl⟩ := hno
    rw [List.mem_singleton.mp hdm] at hl
    show (some p, if p.pipes.length < c then _ else _) = _
    rw [if_pos hl]
/-! ### show_best_total -/
theorem scST : FnScope ["crew", "given", "days"] ["crew", "given"] (defScope (top 56)) := ⟨rfl, rfl, rfl, by decide +kernel, rfl, by decide +kernel, by decide +kernel⟩
theorem ok_st (T : CrewT K mg CC) (c8 : Cst mg "MOST_DAYS" 8) (c22 : Cst mg "OUT_OF_RANGE" (-22)) (D : Dn K mg "show_best_total" (top 56) ["crew", "given"]) (C0 : Cal P w K mg base (L2.CX P w) 3 "need" ["fulfilled", "number"] (spNeed CR))
    (C1 : Cal P w K mg base CX0 3 "best_total" ["pipes", "ages", "days"] (spBT K)) : Cal P w K mg base (L2.CX P w) 5 "show_best_total" ["crew", "given"] (spDeed K CC CR 7) := by
  refine Cal.mono (j := 4) (D.okX scST spDeed_len (fun f cdv A outer s H vs Q E hr h => ?_)) (by decide)
  refine ⟨_, pss_cons (ps_set (i := 2) scST.nd rfl (.inl rfl) (pe_ix ix_list (pv 1) pe_int (fun _ _ => rfl)))
    (pss_cons (ps_expr (pe_cal C0 hr (passE (takes_of rfl rfl rfl rfl)) (pa_cons (pe_cmpR op_le (pv 2) (pe_cst c8) (nomark _)) (pa_cons (pe_cst c22) pa_nil))))
    (pss_one (ps_ret (pe_lst (pa_cons (pe_cal (E := E1) C1 hr pass1 (pa_cons (pe_fld (pv 0) rfl) (pa_cons (pe_fld (pv 0) rfl) (pa_cons (pv 2) pa_nil)))) pa_nil))))), ?_⟩
  obtain ⟨z, a, g, pl, al, p, given, q, rfl, hz, hc, hg, ⟨d, rfl, rfl⟩, hd⟩ := h
  have hgN := intsN hg
  obtain ⟨dx, h1⟩ := hc.obj
  refine ⟨_, rfl, g, _, _, _, rfl, rfl, hgN, at_nat (i := 0) (by show 0 < 1; decide), ?_⟩
  refine ⟨_, rfl, _, _, rfl, rfl, _, _, rfl, fun e => ?_, fun e => ?_⟩
  · have e1 : ((d : Nat) : Int) ≤ 8 := decT e
    refine ⟨_, rfl, a, CC, dx, _, _, rfl, h1, T.cl, T.nP, cF_pipes, _, rfl, a, CC, dx, _, _, rfl, h1, T.cl, T.nA, cF_ages, _, rfl, pl, al, p.pipes, p.ages, d, rfl, hc.pipes K, hc.agesL K, hc.good, hc.va, by omega, fun H1 s1 => ⟨(by show 1 ≤ sizeLine; decide), fun t ht => ?_⟩⟩
    refine hd.same (x := .value (Kqk6.bestTotal p.pipes p.ages d)) ?_ hc (s1.trans (same_upd ht)) (s1.free ht) upd_same
    show (some p, if 8 < d then _ else _) = _
    rw [if_neg (by omega)]
  · have e1 : ¬ ((d : Nat) : Int) ≤ 8 := decF e
    refine hd.no ?_
    show (some p, if 8 < d then _ else _) = _
    rw [if_pos (by omega)]
/-! ### show_best_choice -/
theorem scSC : FnScope ["crew", "given", "days"] ["crew", "given"] (defScope (top 57)) := ⟨rfl, rfl, rfl, by decide +kernel, rfl, by decide +kernel, by decide +kernel⟩
theorem ok_sc (T : CrewT K mg CC) (c8 : Cst mg "MOST_DAYS" 8) (c22 : Cst mg "OUT_OF_RANGE" (-22)) (D : Dn K mg "show_best_choice" (top 57) ["crew", "given"]) (C0 : Cal P w K mg base (L2.CX P w) 3 "need" ["fulfilled", "number"] (spNeed CR))
    (C1 : Cal P w K mg base CX0 3 "best_choice" ["pipes", "ages", "days"] (spBC K)) : Cal P w K mg base (L2.CX P w) 5 "show_best_choice" ["crew", "given"] (spDeed K CC CR 8) := by
  refine Cal.mono (j := 4) (D.okX scSC spDeed_len (fun f cdv A outer s H vs Q E hr h => ?_)) (by decide)
  refine ⟨_, pss_cons (ps_set (i := 2) scSC.nd rfl (.inl rfl) (pe_ix ix_list (pv 1) pe_int (fun _ _ => rfl)))
    (pss_cons (ps_expr (pe_cal C0 hr (passE (takes_of rfl rfl rfl rfl)) (pa_cons (pe_chain op_le op_le pe_int (pv 2) (pe_cst c8)) (pa_cons (pe_cst c22) pa_nil))))
    (pss_one (ps_ret (pe_lst (pa_cons (pe_cal (E := E1) C1 hr pass1 (pa_cons (pe_fld (pv 0) rfl) (pa_cons (pe_fld (pv 0) rfl) (pa_cons (pv 2) pa_nil)))) pa_nil))))), ?_⟩
  obtain ⟨z, a, g, pl, al, p, given, q, rfl, hz, hc, hg, ⟨d, rfl, rfl⟩, hd⟩ := h
  have hgN := intsN hg
  obtain ⟨dx, h1⟩ := hc.obj
  have no : d < 1 ∨ 8 < d → Rz CR E H (-22) := fun h => by
    refine hd.no ?_
    show (some p, if d < 1 ∨ 8 < d then _ else _) = _
    rw [if_pos h]
  refine ⟨_, rfl, g, _, _, _, rfl, rfl, hgN, at_nat (i := 0) (by show 0 < 1; decide), ?_⟩
  refine ⟨_, rfl, _, _, rfl, rfl, _, rfl, ifB (fun e => ?_) (fun e => ?_)⟩
  · have e1 : (1 : Int) ≤ ((d : Nat) : Int) := decT e
    refine ⟨_, _, rfl, rfl, _, _, rfl, fun e2 => ?_, fun e2 => ?_⟩
    · have e3 : ((d : Nat) : Int) ≤ 8 := decT e2
      obtain ⟨d', rfl⟩ : ∃ d', d = d' + 1 := ⟨d - 1, by omega⟩
      refine ⟨_, rfl, a, CC, dx, _, _, rfl, h1, T.cl, T.nP, cF_pipes, _, rfl, a, CC, dx, _, _, rfl, h1, T.cl, T.nA, cF_ages, _, rfl, pl, al, p.pipes, p.ages, d', rfl, hc.pipes K, hc.agesL K, hc.good, hc.va, by omega, fun H1 s1 => ⟨(by show 1 ≤ sizeLine; decide), fun t ht => ?_⟩⟩
      refine hd.same (x := .value (choiceS p.pipes p.ages (d' + 1))) ?_ hc (s1.trans (same_upd ht)) (s1.free ht) upd_same
      show (some p, if d' + 1 < 1 ∨ 8 < d' + 1 then _ else _) = _
      rw [if_neg (by omega)]
      rfl
    · have e3 : ¬ ((d : Nat) : Int) ≤ 8 := decF e2
      exact no (by omega)
  · have e1 : ¬ (1 : Int) ≤ ((d : Nat) : Int) := decF e
    exact ⟨_, _, rfl, fun e2 => Bool.noConfusion e2, fun _ => no (by omega)⟩
/-! ### show_best_mean -/
theorem scSM : FnScope ["crew", "given"] ["crew", "given"] (defScope (top 58)) := ⟨rfl, rfl, rfl, by decide +kernel, rfl, by decide +kernel, by decide +kernel⟩
theorem ok_sm (B : Blt mg) (T : CrewT K mg CC) (D : Dn K mg "show_best_mean" (top 58) ["crew", "given"]) (C : Cal P w K mg base (L2.CX P w) 4 "need_some_pipes" ["crew"] (spNS CC CR)) (C1 : Cal P w K mg base CX0 3 "best_mean" ["pipes"] (spMean K)) :
    Cal P w K mg base (L2.CX P w) 5 "show_best_mean" ["crew", "given"] (spDeed K CC CR 9) := by
  refine D.okX scSM spDeed_len (fun f cdv A outer s H vs Q E hr h => ?_)
  have hr3 : Room 3 _ := hr.mono (by decide)
  refine ⟨_, pss_cons (ps_expr (pe_cal C hr (passE (takes_of rfl rfl rfl rfl)) (pa_cons (pv 0) pa_nil)))
    (pss_one (ps_ret (pe_op op_cat (pe_lst (pa_cons pe_int pa_nil)) (pe_callTy call_list_of (by rfl) B.list (by decide +kernel) (pa_cons (pe_cal (E := E1) C1 hr3 pass1 (pa_cons (pe_fld (pv 0) rfl) pa_nil)) pa_nil))))), ?_⟩
  obtain ⟨z, a, g, pl, al, p, given, q, rfl, hz, hc, hg, ⟨rfl, rfl⟩, hd⟩ := h
  obtain ⟨dx, h1⟩ := hc.obj
  refine ⟨_, rfl, z, a, pl, al, p, rfl, hc, fun hne H1 s1 => ?_, fun he => ?_⟩
  · refine ⟨(by show 1 ≤ sizeLine; decide), fun q1 hq1 => ?_⟩
    have u1 := s1.trans (same_upd (o := .lst [V.int 0]) hq1)
    refine ⟨_, rfl, a, CC, dx, _, _, rfl, u1 _ _ h1, T.cl, T.nP, cF_pipes, pl, p.pipes, rfl, (hc.pipes K).same u1, hc.good, fun H2 t s2 ht0 ht => ⟨t, _, rfl, .inr (SqT.of ht), fun q2 hq2 => ?_⟩⟩
    have s3 := s2.trans (same_upd (o := .lst [.int (Kqk6.bestMean p.pipes).num, iv (Kqk6.bestMean p.pipes).den]) hq2)
    have hq1' := s3 _ _ (upd_same (H := H1) (a := q1) (o := .lst [V.int 0]))
    refine ⟨q1, q2, _, _, rfl, rfl, hq1', upd_same, (by show 1 + 2 ≤ sizeLine; decide), fun r hr0 => ?_⟩
    refine hd.same (x := Kqk6.fraction (Kqk6.bestMean p.pipes)) ?_ hc ((u1.trans s3).trans (same_upd hr0)) ((u1.trans s3).free hr0) upd_same
    show (some p, if p.pipes = [] then _ else _) = _
    rw [if_neg hne]
  · refine hd.no ?_
    show (some p, if p.pipes = [] then _ else _) = _
    rw [if_pos he]
end
end Pc
namespace Pc
open PySem PySem.Spec PyProof.Rows L2 Crewm
def datF (a b : Int) : PyData := .tuple [.int a, .int b]
theorem dpF {K : PySem.W.Frag} {H : Hp} {t : Addr} {a b : Int} (h : SqT K H t [.int a, .int b]) : Dp K H (.ref t) (datF a b) := .tup h (.cons (.int _) (.cons (.int _) .nil))
theorem shapedF (a b : Int) : SeqAt.shaped (datF a b) = true := by
  unfold SeqAt.shaped datF
  simp [PyData.canLay0, PyData.canLayAll0, PyData.depth, PyData.depthAll]
theorem eqvF (a b c d : Int) : PyData.eqv (datF a b) (datF c d) = (decide (a = c) && decide (b = d)) := by
  unfold datF
  simp only [PyData.eqv, PyData.eqvAll, Bool.and_true]
  congr 1
section
variable {P : Program} {w : World} {K : PySem.W.Frag} {mg : Str → Option Value} {base : Heap} {CC CR : Addr}
/-! ### mean_of -/
def spMO (K : PySem.W.Frag) (CC : Addr) : Sp := fun vs H Q _ => ∃ (z a pl al g : Addr) (p : Kqk6.PipeSystem) (cs : List Nat), vs = [.ref a, .ref g] ∧ CrewAt CC z H a pl al p ∧ NatsL K H g cs ∧ 0 < cs.length ∧ cs.length ≤ 1000 ∧
  ((Kqk6.runDays p.pipes p.ages cs).1 = p.ages → ∀ (H' : Hp) (t : Addr), Same H H' → H' t = some (.tup [iv (lowM (Kqk6.runDays p.pipes p.ages cs).2 cs.length).1, iv (lowM (Kqk6.runDays p.pipes p.ages cs).2 cs.length).2]) → Q (.ref t) H') ∧
  ((Kqk6.runDays p.pipes p.ages cs).1 ≠ p.ages → ∀ H', Same H H' → Q .non H')
theorem scMO : FnScope ["crew", "choices", "total", "ages"] ["crew", "choices"] (defScope (top 59)) := ⟨rfl, rfl, rfl, by decide +kernel, rfl, by decide +kernel, by decide +kernel⟩
theorem ok_mo (B : Blt mg) (T : CrewT K mg CC) (D : Dn K mg "mean_of" (top 59) ["crew", "choices"]) (C1 : Cal P w K mg base CX0 2 "run_through" ["pipes", "ages", "choices"] (spRun K)) (C2 : Cal P w K mg base CX0 1 "lowest" ["above", "below"] spLow) :
    Cal P w K mg base CX0 3 "mean_of" ["crew", "choices"] (spMO K CC) := by
  refine D.ok scMO (fun vs H Q E h => ?_) (fun f cdv A outer s H vs Q E hr h => ?_)
  · obtain ⟨z, a, pl, al, g, p, cs, rfl, _⟩ := h
    rfl
  · have hr1 : Room 1 _ := hr.mono (by decide)
    refine ⟨_, pss_cons (ps_asg (pe_cal (E := E1) C1 hr pass1 (pa_cons (pe_fld (pv 0) rfl) (pa_cons (pe_fld (pv 0) rfl) (pa_cons (pv 1) pa_nil)))) (pg_tup (by rfl) (pgs_cons (pg_name (i := 2) scMO.nd rfl (.inl rfl)) (pgs_cons (pg_name (i := 3) scMO.nd rfl (.inl rfl)) pgs_nil))))
      (pss_one (ps_ret (pe_ifExp (pt_cmpR (op_eqD hr.units) (pv 3) (pe_fld (pv 0) rfl) (nomark _)) (pe_cal (E := E1) C2 hr1 pass1 (pa_cons (pv 2) (pa_cons (pe_callB call_len_seq (by rfl) B.len PySem.boot_len (pa_cons (pv 1) pa_nil)) pa_nil))) pe_non))), ?_⟩
    obtain ⟨z, a, pl, al, g, p, cs, rfl, hc, hg, hl0, hl1, qy, qn⟩ := h
    obtain ⟨dx, h1⟩ := hc.obj
    refine ⟨_, rfl, a, CC, dx, _, _, rfl, h1, T.cl, T.nP, cF_pipes, _, rfl, a, CC, dx, _, _, rfl, h1, T.cl, T.nA, cF_ages, _, rfl, pl, al, g, p.pipes, p.ages, cs, rfl, hc.pipes K, hc.agesL K, hg, hc.good, hc.va, fun H1 t r s1 hr0 ht0 ntr ht hr1 => ?_⟩
    refine ⟨t, _, rfl, SqT.of ht, rfl, _, _, rfl, _, _, rfl, rfl, ?_⟩
    refine ⟨_, rfl, _, rfl, a, CC, dx, _, _, rfl, s1 _ _ h1, T.cl, T.nA, cF_ages, datN _, datN _, dpN (SqL.of hr1), dpN ((hc.agesL K).same s1), shapedN _, shapedN _, ?_⟩
    rw [eqvN]
    refine ⟨_, rfl, ifB (fun e => ?_) (fun e => ?_)⟩
    · have e' := decT e
      refine ⟨_, rfl, _, rfl, g, _, rfl, .inl (hg.same s1), _, cs.length, ?_, hl0, by omega, fun H2 t2 s2 _ h2 => qy e' H2 t2 (s1.trans s2) h2⟩
      rw [List.length_map]
    · exact qn (decF e) H1 s1
/-! ### cycle_mean -/
theorem scCM : FnScope ["crew", "given", "mean"] ["crew", "given"] (defScope (top 60)) := ⟨rfl, rfl, rfl, by decide +kernel, rfl, by decide +kernel, by decide +kernel⟩
theorem ok_cm (B : Blt mg) (c20 : Cst mg "MOST_CHOICES" 20) (c22 : Cst mg "OUT_OF_RANGE" (-22)) (c33 : Cst mg "NO_CYCLE" (-33)) (D : Dn K mg "cycle_mean" (top 60) ["crew", "given"]) (C0 : Cal P w K mg base (L2.CX P w) 3 "need" ["fulfilled", "number"] (spNeed CR))
    (C : Cal P w K mg base (L2.CX P w) 4 "need_choices" ["crew", "choices"] (spNC K CC CR)) (C1 : Cal P w K mg base CX0 3 "mean_of" ["crew", "choices"] (spMO K CC)) : Cal P w K mg base (L2.CX P w) 5 "cycle_mean" ["crew", "given"] (spDeed K CC CR 10) := by
  refine D.okX scCM spDeed_len (fun f cdv A outer s H vs Q E hr h => ?_)
  have hr3 : Room 3 _ := hr.mono (by decide)
  refine ⟨_, pss_cons (ps_expr (pe_cal C hr (passE (takes_of rfl rfl rfl rfl)) (pa_cons (pv 0) (pa_cons (pv 1) pa_nil))))
    (pss_cons (ps_expr (pe_cal C0 hr3 (passE (takes_of rfl rfl rfl rfl)) (pa_cons (pe_chain op_le op_le pe_int (pe_callB call_len_seq (by rfl) B.len PySem.boot_len (pa_cons (pv 1) pa_nil)) (pe_cst c20)) (pa_cons (pe_cst c22) pa_nil))))
    (pss_cons (ps_set (i := 2) scCM.nd rfl (.inl rfl) (pe_cal (E := E1) C1 hr3 pass1 (pa_cons (pv 0) (pa_cons (pv 1) pa_nil))))
    (pss_cons (ps_expr (pe_cal C0 hr3 (passE (takes_of rfl rfl rfl rfl)) (pa_cons (pe_cmpR op_notN (pv 2) pe_non (nomark _)) (pa_cons (pe_cst c33) pa_nil))))
    (pss_one (ps_ret (pe_op op_cat (pe_lst (pa_cons pe_int pa_nil)) (pe_callTy call_list_of (by rfl) B.list (by decide +kernel) (pa_cons (pv 2) pa_nil)))))))), ?_⟩
  obtain ⟨z, a, g, pl, al, p, given, q, rfl, hz, hc, hg, ⟨l, rfl, hl60, rfl⟩, hd⟩ := h
  have hgN := intsN hg
  have hll : (l.map iv).length = l.length := List.length_map _
  refine ⟨_, rfl, _, rfl, z, a, pl, al, g, p, l, rfl, hc, hgN, fun hall => ?_, fun hno => ?_⟩
  · have hch := choices_iff.2 hall
    have st : Kqk6.step (some p) (.cycleMean l) = (some p, if l = [] ∨ 20 < l.length then .value (-22) else if (Kqk6.runDays p.pipes p.ages l).1 ≠ p.ages then .value (-33) else Kqk6.fraction (Kqk6.meanOf (Kqk6.runDays p.pipes p.ages l).2 l.length)) := by
      show (some p, if Kqk6.areChoices p l = false then _ else _) = _
      rw [if_neg (by rw [hch]; exact Bool.noConfusion)]
    rw [st] at hd
    have no : l.length < 1 ∨ 20 < l.length → Rz CR E H (-22) := fun h => by
      refine hd.no ?_
      rw [if_pos]
      rcases h with h | h
      · exact .inl (List.length_eq_zero_iff.mp (by omega))
      · exact .inr h
    refine ⟨_, rfl, g, _, rfl, .inl hgN, ?_⟩
    rw [hll]
    refine ⟨_, _, rfl, rfl, _, rfl, ifB (fun e => ?_) (fun e => ?_)⟩
    · have e1 : (1 : Int) ≤ (l.length : Int) := decT e
      refine ⟨_, _, rfl, rfl, _, _, rfl, fun e2 => ?_, fun e2 => ?_⟩
      · have e3 : (l.length : Int) ≤ 20 := decT e2
        have hne : ¬ (l = [] ∨ 20 < l.length) := fun h => by
          rcases h with h | h
          · rw [h] at e1; simp at e1
          · omega
        rw [if_neg hne] at hd
        refine ⟨_, rfl, _, rfl, z, a, pl, al, g, p, l, rfl, hc, hgN, by omega, by omega, fun hcy H1 t s1 ht => ?_, fun hcy H1 s1 => ?_⟩
        · rw [if_neg (fun h => h hcy)] at hd
          refine ⟨_, rfl, rfl, _, _, rfl, fun e4 => ?_, fun e4 => by simp at e4⟩
          refine ⟨(by show 1 ≤ sizeLine; decide), fun q1 hq1 => ?_⟩
          have u1 := same_upd (o := .lst [V.int 0]) hq1
          refine ⟨_, rfl, t, _, rfl, .inr (SqT.of (u1 _ _ ht)), fun q2 hq2 => ?_⟩
          have u2 := same_upd (o := .lst [iv (lowM (Kqk6.runDays p.pipes p.ages l).2 l.length).1, iv (lowM (Kqk6.runDays p.pipes p.ages l).2 l.length).2]) hq2
          refine ⟨q1, q2, _, _, rfl, rfl, u2 _ _ upd_same, upd_same, (by show 1 + 2 ≤ sizeLine; decide), fun r hr0 => ?_⟩
          have u := (s1.trans u1).trans u2
          refine hd.same rfl hc (u.trans (same_upd hr0)) (u.free hr0) ?_
          rw [upd_same, frac_low _ _ (by omega)]
          rfl
        · rw [if_pos hcy] at hd
          exact ⟨_, rfl, rfl, _, _, rfl, fun e4 => by simp at e4, fun _ => (hd.no rfl).mono s1⟩
      · have e3 : ¬ (l.length : Int) ≤ 20 := decF e2
        exact no (by omega)
    · have e1 : ¬ (1 : Int) ≤ (l.length : Int) := decF e
      exact ⟨_, _, rfl, fun e2 => Bool.noConfusion e2, fun _ => no (by omega)⟩
  · refine hd.no ?_
    show (some p, if Kqk6.areChoices p l = false then _ else _) = _
    rw [if_pos (choices_no hno)]
/-! ### attains_best_mean -/
theorem scAB : FnScope ["crew", "given"] ["crew", "given"] (defScope (top 61)) := ⟨rfl, rfl, rfl, by decide +kernel, rfl, by decide +kernel, by decide +kernel⟩
theorem ok_ab (B : Blt mg) (T : CrewT K mg CC) (c20 : Cst mg "MOST_CHOICES" 20) (c22 : Cst mg "OUT_OF_RANGE" (-22)) (D : Dn K mg "attains_best_mean" (top 61) ["crew", "given"]) (C0 : Cal P w K mg base (L2.CX P w) 3 "need" ["fulfilled", "number"] (spNeed CR))
    (C : Cal P w K mg base (L2.CX P w) 4 "need_choices" ["crew", "choices"] (spNC K CC CR)) (C1 : Cal P w K mg base CX0 3 "mean_of" ["crew", "choices"] (spMO K CC)) (C2 : Cal P w K mg base (L2.CX P w) 4 "need_some_pipes" ["crew"] (spNS CC CR))
    (C3 : Cal P w K mg base CX0 3 "best_mean" ["pipes"] (spMean K)) : Cal P w K mg base (L2.CX P w) 5 "attains_best_mean" ["crew", "given"] (spDeed K CC CR 11) := by
  refine D.okX scAB spDeed_len (fun f cdv A outer s H vs Q E hr h => ?_)
  have hr3 : Room 3 _ := hr.mono (by decide)
  refine ⟨_, pss_cons (ps_expr (pe_cal C hr (passE (takes_of rfl rfl rfl rfl)) (pa_cons (pv 0) (pa_cons (pv 1) pa_nil))))
    (pss_cons (ps_expr (pe_cal C0 hr3 (passE (takes_of rfl rfl rfl rfl)) (pa_cons (pe_chain op_le op_le pe_int (pe_callB call_len_seq (by rfl) B.len PySem.boot_len (pa_cons (pv 1) pa_nil)) (pe_cst c20)) (pa_cons (pe_cst c22) pa_nil))))
    (pss_cons (ps_expr (pe_cal C2 hr (passE (takes_of rfl rfl rfl rfl)) (pa_cons (pv 0) pa_nil)))
    (pss_one (ps_ret (pe_lst (pa_cons (pe_callTy call_int1 (by rfl) B.int (by decide +kernel) (pa_cons (pe_cmpR (op_eqD hr.units) (pe_cal (E := E1) C1 hr3 pass1 (pa_cons (pv 0) (pa_cons (pv 1) pa_nil))) (pe_cal (E := E1) C3 hr3 pass1 (pa_cons (pe_fld (pv 0) rfl) pa_nil)) (nomark _)) pa_nil)) pa_nil)))))), ?_⟩
  obtain ⟨z, a, g, pl, al, p, given, q, rfl, hz, hc, hg, ⟨l, rfl, hl60, rfl⟩, hd⟩ := h
  have hgN := intsN hg
  have hll : (l.map iv).length = l.length := List.length_map _
  obtain ⟨dx, h1⟩ := hc.obj
  refine ⟨_, rfl, _, rfl, z, a, pl, al, g, p, l, rfl, hc, hgN, fun hall => ?_, fun hno => ?_⟩
  · have hch := choices_iff.2 hall
    have st : Kqk6.step (some p) (.attainsBestMean l) = (some p, if l = [] ∨ 20 < l.length then .value (-22) else if p.pipes = [] then .value (-6) else Kqk6.flag ((Kqk6.runDays p.pipes p.ages l).1 = p.ages ∧ Kqk6.meanOf (Kqk6.runDays p.pipes p.ages l).2 l.length = Kqk6.bestMean p.pipes)) := by
      show (some p, if Kqk6.areChoices p l = false then _ else _) = _
      rw [if_neg (by rw [hch]; exact Bool.noConfusion)]
    rw [st] at hd
    have no : l.length < 1 ∨ 20 < l.length → Rz CR E H (-22) := fun h => by
      refine hd.no ?_
      rw [if_pos]
      rcases h with h | h
      · exact .inl (List.length_eq_zero_iff.mp (by omega))
      · exact .inr h
    refine ⟨_, rfl, g, _, rfl, .inl hgN, ?_⟩
    rw [hll]
    refine ⟨_, _, rfl, rfl, _, rfl, ifB (fun e => ?_) (fun e => ?_)⟩
    · have e1 : (1 : Int) ≤ (l.length : Int) := decT e
      refine ⟨_, _, rfl, rfl, _, _, rfl, fun e2 => ?_, fun e2 => ?_⟩
      · have e3 : (l.length : Int) ≤ 20 := decT e2
        have hne : ¬ (l = [] ∨ 20 < l.length) := fun h => by
          rcases h with h | h
          · rw [h] at e1; simp at e1
          · omega
        rw [if_neg hne] at hd
        refine ⟨_, rfl, z, a, pl, al, p, rfl, hc, fun hps H1 s1 => ?_, fun hps => ?_⟩
        · rw [if_neg hps] at hd
          refine ⟨_, rfl, _, rfl, z, a, pl, al, g, p, l, rfl, hc.mono s1, hgN.same s1, by omega, by omega, fun hcy H2 t s2 ht => ?_, fun hcy H2 s2 => ?_⟩
          · have s12 := s1.trans s2
            refine ⟨_, rfl, a, CC, dx, _, _, rfl, s12 _ _ h1, T.cl, T.nP, cF_pipes, pl, p.pipes, rfl, (hc.pipes K).same s12, hc.good, fun H3 t3 s3 _ ht3 => ?_⟩
            refine ⟨datF _ _, datF _ _, dpF (SqT.of (s3 _ _ ht)), dpF (SqT.of ht3), shapedF _ _, shapedF _ _, ?_⟩
            rw [eqvF]
            refine .inr ⟨_, rfl, (by show 1 ≤ sizeLine; decide), fun r hr0 => ?_⟩
            have u := s12.trans s3
            refine hd.same rfl hc (u.trans (same_upd hr0)) (u.free hr0) ?_
            obtain ⟨m1, m2⟩ := low_num (a := (Kqk6.runDays p.pipes p.ages l).2) (b := l.length) (by omega)
            rw [← mean_mk] at m1 m2
            have m1' : ((((lowM (Kqk6.runDays p.pipes p.ages l).2 l.length).1 : Nat) : Int)) = (Kqk6.meanOf (Kqk6.runDays p.pipes p.ages l).2 l.length).num := m1.symm
            have m2' : (((lowM (Kqk6.runDays p.pipes p.ages l).2 l.length).2 : Nat) : Int) = ((Kqk6.meanOf (Kqk6.runDays p.pipes p.ages l).2 l.length).den : Int) := by rw [m2]; rfl
            rw [upd_same, m1', m2']
            generalize Kqk6.meanOf (Kqk6.runDays p.pipes p.ages l).2 l.length = x
            generalize Kqk6.bestMean p.pipes = y
            by_cases hxy : x = y
            · subst hxy
              have f1 : Kqk6.flag ((Kqk6.runDays p.pipes p.ages l).1 = p.ages ∧ x = x) = .value 1 := by
                unfold Kqk6.flag
                rw [if_pos ⟨hcy, rfl⟩]
              rw [f1]
              simp [Kqk6Neutral.fields]
            · have f1 : Kqk6.flag ((Kqk6.runDays p.pipes p.ages l).1 = p.ages ∧ x = y) = .value 0 := by
                unfold Kqk6.flag
                rw [if_neg (fun h => hxy h.2)]
              rw [f1]
              have f2 : (decide (x.num = y.num) && decide ((x.den : Int) = (y.den : Int))) = false := by
                rw [Bool.and_eq_false_iff, decide_eq_false_iff_not, decide_eq_false_iff_not]
                by_cases g1 : x.num = y.num
                · right
                  intro g2
                  exact hxy (Rat.ext g1 (by omega))
                · exact .inl g1
              rw [f2]
              rfl
          · have s12 := s1.trans s2
            refine ⟨_, rfl, a, CC, dx, _, _, rfl, s12 _ _ h1, T.cl, T.nP, cF_pipes, pl, p.pipes, rfl, (hc.pipes K).same s12, hc.good, fun H3 t3 s3 _ ht3 => ?_⟩
            refine ⟨.none, datF _ _, .non, dpF (SqT.of ht3), by decide, shapedF _ _, ?_⟩
            refine .inr ⟨_, rfl, (by show 1 ≤ sizeLine; decide), fun r hr0 => ?_⟩
            have u := s12.trans s3
            refine hd.same rfl hc (u.trans (same_upd hr0)) (u.free hr0) ?_
            have f1 : Kqk6.flag ((Kqk6.runDays p.pipes p.ages l).1 = p.ages ∧ Kqk6.meanOf (Kqk6.runDays p.pipes p.ages l).2 l.length = Kqk6.bestMean p.pipes) = .value 0 := by
              unfold Kqk6.flag
              rw [if_neg (fun h => hcy h.1)]
            rw [upd_same, f1]
            simp [PyData.eqv, datF, Kqk6Neutral.fields]
        · rw [if_pos hps] at hd
          exact hd.no rfl
      · have e3 : ¬ (l.length : Int) ≤ 20 := decF e2
        exact no (by omega)
    · have e1 : ¬ (1 : Int) ≤ (l.length : Int) := decF e
      exact ⟨_, _, rfl, fun e2 => Bool.noConfusion e2, fun _ => no (by omega)⟩
  · refine hd.no ?_
    show (some p, if Kqk6.areChoices p l = false then _ else _) = _
    rw [if_pos (choices_no hno)]
end
end Pc
namespace Pc
open PySem PySem.Spec PyProof.Rows L2 Crewm
def potOk (l : List Int) : Bool := l.all fun x => decide (x.natAbs ≤ 10000)
theorem pot_any (l : List Int) : (l.any fun x => decide (10000 < x.natAbs)) = !potOk l := by
  unfold potOk
  induction l with
  | nil => rfl
  | cons x l ih =>
    rw [List.any_cons, List.all_cons, ih, Bool.not_and]
    congr 1
    by_cases h : x.natAbs ≤ 10000
    · rw [decide_eq_true h, decide_eq_false (by omega)]
      rfl
    · rw [decide_eq_false h, decide_eq_true (by omega)]
      rfl
section
variable {P : Program} {w : World} {K : PySem.W.Frag} {mg : Str → Option Value} {base : Heap} {CC CR : Addr}
/-! ### are_potentials -/
def spAP (K : PySem.W.Frag) : Sp := fun vs H Q _ => ∃ (g : Addr) (l : List Int), vs = [.ref g] ∧ IntsL K H g l ∧ Q (.bl (potOk l)) H
theorem scAP : FnScope ["potentials", "potential"] ["potentials"] (defScope (top 62)) := ⟨rfl, rfl, rfl, by decide +kernel, rfl, by decide +kernel, by decide +kernel⟩
theorem ok_ap (cP : Cst mg "MOST_POTENTIAL" 10000) (D : Dn K mg "are_potentials" (top 62) ["potentials"]) : Cal P w K mg base CX0 1 "are_potentials" ["potentials"] (spAP K) := by
  refine D.ok scAP (fun vs H Q E h => ?_) (fun f cdv A outer s H vs Q E hr h => ?_)
  · obtain ⟨g, l, rfl, _⟩ := h
    rfl
  · refine ⟨_, pss_cons (ps_for PassesOwn.never rfl (pi_list (pv 0)) (pg_name (i := 1) scAP.nd rfl (.inl rfl))
        (pss_one (ps_if (pt_not (pt_chain op_le op_le (pe_op op_sub pe_int (pe_cst cP)) (pv 1) (pe_cst cP))) (pss_one (ps_ret pe_bl)) pss_nil)))
      (pss_one (ps_ret pe_bl)), ?_⟩
    obtain ⟨g, l, rfl, hg, q⟩ := h
    refine ⟨_, rfl, g, rfl, ⟨_, hg⟩, for_list (K := K) (a := g) (xs := l.map V.int) (fun i σ H' => ∃ v, σ = [some (.ref g), v] ∧ H' = H ∧ potOk (l.take i) = true) ⟨_, rfl, rfl, rfl⟩ (fun i σ H' _ ⟨_, _, e, _⟩ => e ▸ hg) ?_ ?_⟩
    · rintro i y σ H' hi ⟨v, rfl, rfl, hall⟩
      obtain ⟨x, hx, rfl⟩ := map_at hi
      have bad : ¬ x.natAbs ≤ 10000 → Q (.bl false) H' := fun h => by
        have e : potOk l = false := all_false (List.mem_of_getElem? hx) (decide_eq_false h)
        rw [e] at q
        exact q
      refine ⟨_, _, rfl, rfl, _, rfl, _, _, rfl, rfl, _, rfl, ifB (fun e => ?_) (fun e => ?_)⟩
      · have e1 : (0 : Int) - 10000 ≤ x := decT e
        refine ⟨_, _, rfl, rfl, _, rfl, ifB (fun e2 => ?_) (fun e2 => ?_)⟩
        · have e3 : ¬ x ≤ 10000 := by simpa using e2
          exact bad (by omega)
        · have e3 : x ≤ 10000 := by simpa using e2
          exact ⟨_, rfl, rfl, all_take_succ hx hall (decide_eq_true (by omega))⟩
      · have e1 : ¬ (0 : Int) - 10000 ≤ x := decF e
        exact ⟨_, rfl, iteT (bad (by omega))⟩
    · rintro σ H' ⟨v, rfl, rfl, hall⟩
      rw [List.length_map, List.take_length] at hall
      rw [hall] at q
      exact q
/-! ### proves_bound -/
theorem scPB : FnScope ["crew", "given", "numerator", "denominator", "potentials"] ["crew", "given"] (defScope (top 63)) := ⟨rfl, rfl, rfl, by decide +kernel, rfl, by decide +kernel, by decide +kernel⟩
theorem ok_pb (B : Blt mg) (T : CrewT K mg CC) (cD : Cst mg "MOST_DENOMINATOR" 100) (cN : Cst mg "MOST_NUMERATOR" 100000) (c22 : Cst mg "OUT_OF_RANGE" (-22)) (D : Dn K mg "proves_bound" (top 63) ["crew", "given"])
    (C0 : Cal P w K mg base (L2.CX P w) 3 "need" ["fulfilled", "number"] (spNeed CR)) (C1 : Cal P w K mg base CX0 1 "are_potentials" ["potentials"] (spAP K)) (C2 : Cal P w K mg base (L2.CX P w) 4 "need_some_pipes" ["crew"] (spNS CC CR))
    (C3 : Cal P w K mg base CX0 1 "count_states" ["pipes"] (spCount K)) (C4 : Cal P w K mg base CX0 3 "proves" ["pipes", "numerator", "denominator", "potentials"] (spProves K)) :
    Cal P w K mg base (L2.CX P w) 5 "proves_bound" ["crew", "given"] (spDeed K CC CR 12) := by
  refine D.okX scPB spDeed_len (fun f cdv A outer s H vs Q E hr h => ?_)
  have hr3 : Room 3 _ := hr.mono (by decide)
  have hr1 : Room 1 _ := hr.mono (by decide)
  refine ⟨_, pss_cons (ps_par3 (i := 2) (j := 3) (l := 4) (by rfl) scPB.nd rfl rfl rfl (by decide) (by decide) (by decide) rfl rfl rfl (pa_cons (pe_ix ix_list (pv 1) pe_int (fun _ _ => rfl)) (pa_cons (pe_ix ix_list (pv 1) pe_int (fun _ _ => rfl)) (pa_cons (pe_slice sl_list (pv 1) (po_some pe_int) po_none) pa_nil))) (by rfl))
    (pss_cons (ps_expr (pe_cal C0 hr3 (passE (takes_of rfl rfl rfl rfl)) (pa_cons (pe_and (pe_chain op_le op_le pe_int (pv 3) (pe_cst cD)) (pe_one (pe_cmpR op_le (pv 2) (pe_cst cN) (nomark _)))) (pa_cons (pe_cst c22) pa_nil))))
    (pss_cons (ps_expr (pe_cal C0 hr3 (passE (takes_of rfl rfl rfl rfl)) (pa_cons (pe_cal (E := E1) C1 hr1 pass1 (pa_cons (pv 4) pa_nil)) (pa_cons (pe_cst c22) pa_nil))))
    (pss_cons (ps_expr (pe_cal C2 hr (passE (takes_of rfl rfl rfl rfl)) (pa_cons (pv 0) pa_nil)))
    (pss_cons (ps_if (pt_cmpR op_ne (pe_callB call_len_seq (by rfl) B.len PySem.boot_len (pa_cons (pv 4) pa_nil)) (pe_cal (E := E1) C3 hr1 pass1 (pa_cons (pe_fld (pv 0) rfl) pa_nil)) (nomark _)) (pss_one (ps_ret (pe_lst (pa_cons pe_int pa_nil)))) pss_nil)
    (pss_one (ps_ret (pe_lst (pa_cons (pe_callTy call_int1 (by rfl) B.int (by decide +kernel) (pa_cons (pe_cal (E := E1) C4 hr3 pass1 (pa_cons (pe_fld (pv 0) rfl) (pa_cons (pv 2) (pa_cons (pv 3) (pa_cons (pv 4) pa_nil))))) pa_nil)) pa_nil)))))))), ?_⟩
  obtain ⟨z, a, g, pl, al, p, given, q, rfl, hz, hc, hg, ⟨na, nb, r, rfl, hr60, rfl⟩, hd⟩ := h
  obtain ⟨dx, h1⟩ := hc.obj
  have st : Kqk6.step (some p) (.provesBound na nb r) = (some p, if nb < 1 ∨ 100 < nb ∨ 100000 < na ∨ potOk r = false then .value (-22) else if p.pipes = [] then .value (-6) else Kqk6.flag (Kqk6.provesBound p.pipes r (na : Int) nb = true)) := by
    show (some p, if nb < 1 ∨ 100 < nb ∨ 100000 < na ∨ (r.any fun x => decide (10000 < x.natAbs)) = true then _ else _) = _
    rw [pot_any]
    simp only [Bool.not_eq_true']
  rw [st] at hd
  have no : (nb < 1 ∨ 100 < nb ∨ 100000 < na ∨ potOk r = false) → Rz CR E H (-22) := fun h => by
    refine hd.no ?_
    rw [if_pos h]
  have hgd : SqL K H g (V.int na :: V.int nb :: r.map V.int) := hg
  refine ⟨_, rfl, g, _, _, _, rfl, rfl, hgd, atI_nat (j := 0) rfl, _, rfl, g, _, _, _, rfl, rfl, hgd, atI_nat (j := 1) rfl, _, rfl, _, rfl, g, _, rfl, hgd, fun q1 hq1 => ?_⟩
  have ecut : cutV (V.int na :: V.int nb :: r.map V.int) (some 2) none = r.map V.int := cutV_drop _ 2
  rw [ecut]
  have u1 := same_upd (o := .lst (r.map V.int)) hq1
  have hq : IntsL K (upd H q1 (.lst (r.map V.int))) q1 r := SqL.of upd_same
  refine ⟨_, _, _, rfl, ?_⟩
  have tail : (1 ≤ nb ∧ nb ≤ 100) → na ≤ 100000 → tSeq (tDrop (tCallS (spNeed CR) (fun _ => E) (tCons (tCallS (spAP K) E1 (tCons (tVar 4) tNil)) (tCons (tC (.int (-22))) tNil))))
      (tSeq (tDrop (tCallS (spNS CC CR) (fun _ => E) (tCons (tVar 0) tNil)))
        (tSeq (tIfS (tTest (tOp rNe (tCB (fun xs H Q => ∃ p ys, xs = [.ref p] ∧ (SqL K H p ys ∨ SqT K H p ys) ∧ Q (.int ys.length) H) (tCons (tVar 4) tNil)) (tCallS (spCount K) E1 (tCons (tFld K (tVar 0) "pipes") tNil)))) (tRet (tLst (tCons (tC (.int 0)) tNil))) tNext)
          (tRet (tLst (tCons (tCB (fun xs H Q => (∃ i, xs = [.int i] ∧ Q (.int i) H) ∨ ∃ k, xs = [.bl k] ∧ Q (.int (if k = true then 1 else 0)) H) (tCons (tCallS (spProves K) E1 (tCons (tFld K (tVar 0) "pipes") (tCons (tVar 2) (tCons (tVar 3) (tCons (tVar 4) tNil))))) tNil)) tNil)))))
      { nx := fun _ H' => Q .non H', rt := Q } [some (.ref a), some (.ref g), some (iv na), some (iv nb), some (.ref q1)] (upd H q1 (.lst (r.map V.int))) := by
    intro hb ha
    refine ⟨_, rfl, q1, r, rfl, hq, _, _, rfl, fun e => ?_, fun e => ?_⟩
    · rw [if_neg (by rw [e]; simp; omega)] at hd
      refine ⟨_, rfl, z, a, pl, al, p, rfl, hc.mono u1, fun hps H1 s1 => ?_, fun hps => ?_⟩
      · rw [if_neg hps] at hd
        have s := u1.trans s1
        have hq' : IntsL K H1 q1 r := IntsL.same hq s1
        refine ⟨_, rfl, q1, _, rfl, .inl hq', _, rfl, a, CC, dx, _, _, rfl, s _ _ h1, T.cl, T.nP, cF_pipes, pl, p.pipes, rfl, (hc.pipes K).same s, hc.good, rfl, _, rfl, ifB (fun e2 => ?_) (fun e2 => ?_)⟩
        · have e3 : (((r.map V.int).length : Nat) : Int) ≠ ((cntS p.pipes : Nat) : Int) := neB e2
          rw [List.length_map] at e3
          refine ⟨(by show 1 ≤ sizeLine; decide), fun t ht => ?_⟩
          refine hd.same rfl hc (s.trans (same_upd ht)) (s.free ht) ?_
          have f1 : Kqk6.provesBound p.pipes r (na : Int) nb = false := by
            show (r.length == (Kqk6.allStates p.pipes).length && _) = false
            have : (r.length == (Kqk6.allStates p.pipes).length) = false := by
              rw [states_len]
              simp
              omega
            rw [this]
            rfl
          rw [upd_same, f1]
          unfold Kqk6.flag
          rw [if_neg Bool.false_ne_true]
          rfl
        · have e3 : (((r.map V.int).length : Nat) : Int) = ((cntS p.pipes : Nat) : Int) := neB0 e2
          rw [List.length_map] at e3
          refine ⟨_, rfl, a, CC, dx, _, _, rfl, s _ _ h1, T.cl, T.nP, cF_pipes, _, rfl, _, rfl, _, rfl, pl, q1, p.pipes, na, nb, r, rfl, (hc.pipes K).same s, hq', hc.good, by omega, hb.2, fun H2 s2 => .inr ⟨_, rfl, (by show 1 ≤ sizeLine; decide), fun t ht => ?_⟩⟩
          have s' := s.trans s2
          refine hd.same rfl hc (s'.trans (same_upd ht)) (s'.free ht) ?_
          rw [upd_same]
          unfold Kqk6.flag
          cases Kqk6.provesBound p.pipes r (na : Int) nb <;> rfl
      · rw [if_pos hps] at hd
        exact (hd.no rfl).mono u1
    · exact (no (.inr (.inr (.inr e)))).mono u1
  refine ⟨_, rfl, _, _, rfl, rfl, _, rfl, ifB (fun e => ?_) (fun e => ?_)⟩
  · have e1 : (1 : Int) ≤ (nb : Int) := decT e
    refine ⟨_, _, rfl, rfl, _, rfl, ifB (fun e2 => ?_) (fun e2 => ?_)⟩
    · have e3 : (nb : Int) ≤ 100 := decT e2
      refine ⟨_, rfl, _, _, rfl, rfl, _, _, rfl, fun e4 => ?_, fun e4 => ?_⟩
      · have e5 : (na : Int) ≤ 100000 := decT e4
        exact tail ⟨by omega, by omega⟩ (by omega)
      · have e5 : ¬ (na : Int) ≤ 100000 := decF e4
        exact (no (by omega)).mono u1
    · have e3 : ¬ (nb : Int) ≤ 100 := decF e2
      exact ⟨_, _, rfl, fun e4 => Bool.noConfusion e4, fun _ => (no (by omega)).mono u1⟩
  · have e1 : ¬ (1 : Int) ≤ (nb : Int) := decF e
    exact ⟨_, rfl, iteF ⟨_, _, rfl, fun e4 => Bool.noConfusion e4, fun _ => (no (by omega)).mono u1⟩⟩
end
end Pc
namespace Pc
open PySem PySem.Spec PyProof.Rows L2 Crewm
theorem good_one {ps : List (List Nat)} (g : Good ps) {i : Nat} (h : i < ps.length) : Good [ps.getD i []] := by
  have hm : ps.getD i [] ∈ ps := by
    rw [List.getD_eq_getElem?_getD, List.getElem?_eq_getElem h]
    exact List.getElem_mem h
  exact ⟨(by show 1 ≤ 3; decide), fun l hl => by rw [List.mem_singleton.mp hl]; exact g.len _ hm, fun l hl => by rw [List.mem_singleton.mp hl]; exact g.dec _ hm, fun l hl => by rw [List.mem_singleton.mp hl]; exact g.most _ hm⟩
theorem CrewAt.row {CC z a pl al : Addr} {H : Hp} {p : Kqk6.PipeSystem} (h : CrewAt CC z H a pl al p) (K : PySem.W.Frag) {i : Nat} (hi : i < p.pipes.length) : ∃ (ys : List V) (b : Addr), SqL K H pl ys ∧ atI ys (i : Int) = some (V.ref b) ∧ NatsL K H b (p.pipes.getD i []) := by
  obtain ⟨as, h1, h2⟩ := h.pipes K
  obtain ⟨b, e, r⟩ := PipesL.row h2 hi
  exact ⟨_, b, h1, e, r⟩
/-! the losses -/
def loss (p : Kqk6.PipeSystem) (i : Nat) : Nat := Kqk6.outputAt p.pipes i 0 - Kqk6.outputAt p.pipes i (p.ages.getD i 0)
def degr (p : Kqk6.PipeSystem) (i : Nat) : Nat := (List.range i).foldl (fun (best i : Nat) => if loss p best < loss p i then i else best) 0
theorem degr_succ (p : Kqk6.PipeSystem) (i : Nat) : degr p (i + 1) = if loss p (degr p i) < loss p i then i else degr p i := by
  unfold degr
  rw [List.range_succ, List.foldl_append]
  rfl
theorem degr_lt (p : Kqk6.PipeSystem) : ∀ i, degr p (i + 1) < i + 1
  | 0 => by
    rw [degr_succ]
    split
    · omega
    · exact Nat.one_pos
  | i + 1 => by
    rw [degr_succ]
    have := degr_lt p i
    split <;> omega
theorem degr_spec (p : Kqk6.PipeSystem) : (List.range p.pipes.length).foldl (fun (best : Nat) (i : Nat) => if ((List.range p.pipes.length).map fun i => Kqk6.outputAt p.pipes i 0 - Kqk6.outputAt p.pipes i (p.ages.getD i 0)).getD best 0 < ((List.range p.pipes.length).map fun i => Kqk6.outputAt p.pipes i 0 - Kqk6.outputAt p.pipes i (p.ages.getD i 0)).getD i 0 then i else best) 0 = degr p p.pipes.length := by
  have key : ∀ n, n ≤ p.pipes.length → (List.range n).foldl (fun (best : Nat) (i : Nat) => if ((List.range p.pipes.length).map fun i => Kqk6.outputAt p.pipes i 0 - Kqk6.outputAt p.pipes i (p.ages.getD i 0)).getD best 0 < ((List.range p.pipes.length).map fun i => Kqk6.outputAt p.pipes i 0 - Kqk6.outputAt p.pipes i (p.ages.getD i 0)).getD i 0 then i else best) 0 = degr p n := by
    intro n
    induction n with
    | zero => intro _; rfl
    | succ n ih =>
      intro h
      rw [List.range_succ, List.foldl_append, ih (by omega), List.foldl_cons, List.foldl_nil, degr_succ, getD_map_range (show n < p.pipes.length by omega)]
      have hd : degr p n < p.pipes.length := by
        cases n with
        | zero => exact h
        | succ n => have := degr_lt p n; omega
      rw [getD_map_range hd]
      rfl
  exact key _ (Nat.le_refl _)
theorem sum_cast (l : List Nat) : (l.map fun (n : Nat) => (n : Int)).sum = (Kqk6.sum l : Int) := by
  have h : ∀ (l : List Nat) (a : Nat), (l.map fun (n : Nat) => (n : Int)).sum + (a : Int) = ((l.foldl (fun x y => x + y) a : Nat) : Int) := by
    intro l
    induction l with
    | nil => intro a; simp
    | cons x l ih =>
      intro a
      rw [List.map_cons, List.sum_cons, List.foldl_cons, ← ih (a + x)]
      omega
  have := h l 0
  unfold Kqk6.sum
  rw [← this]
  simp
section
variable {P : Program} {w : World} {K : PySem.W.Frag} {mg : Str → Option Value} {base : Heap} {CC CR : Addr}
/-! ### mean_with_interval -/
theorem scMI : FnScope ["crew", "given", "pipe", "interval"] ["crew", "given"] (defScope (top 64)) := ⟨rfl, rfl, rfl, by decide +kernel, rfl, by decide +kernel, by decide +kernel⟩
theorem ok_mi (B : Blt mg) (T : CrewT K mg CC) (cI : Cst mg "MOST_INTERVAL" 20) (c22 : Cst mg "OUT_OF_RANGE" (-22)) (D : Dn K mg "mean_with_interval" (top 64) ["crew", "given"]) (C0 : Cal P w K mg base (L2.CX P w) 3 "need" ["fulfilled", "number"] (spNeed CR))
    (C : Cal P w K mg base (L2.CX P w) 4 "need_pipe" ["crew", "pipe"] (spNP CC CR)) (C1 : Cal P w K mg base CX0 2 "interval_mean" ["outputs", "interval"] (spInt K)) : Cal P w K mg base (L2.CX P w) 5 "mean_with_interval" ["crew", "given"] (spDeed K CC CR 13) := by
  refine D.okX scMI spDeed_len (fun f cdv A outer s H vs Q E hr h => ?_)
  have hr3 : Room 3 _ := hr.mono (by decide)
  have hr2 : Room 2 _ := hr.mono (by decide)
  refine ⟨_, pss_cons (ps_asg (pv 1) (pg_lst rfl (pgs_cons (pg_name (i := 2) scMI.nd rfl (.inl rfl)) (pgs_cons (pg_name (i := 3) scMI.nd rfl (.inl rfl)) pgs_nil))))
    (pss_cons (ps_expr (pe_cal C hr (passE (takes_of rfl rfl rfl rfl)) (pa_cons (pv 0) (pa_cons (pv 2) pa_nil))))
    (pss_cons (ps_expr (pe_cal C0 hr3 (passE (takes_of rfl rfl rfl rfl)) (pa_cons (pe_chain op_le op_le pe_int (pv 3) (pe_cst cI)) (pa_cons (pe_cst c22) pa_nil))))
    (pss_one (ps_ret (pe_op op_cat (pe_lst (pa_cons pe_int pa_nil)) (pe_callTy call_list_of (by rfl) B.list (by decide +kernel) (pa_cons
      (pe_cal (E := E1) C1 hr2 pass1 (pa_cons (pe_ix ix_list (pe_fld (pv 0) rfl) (pv 2) (fun _ _ => rfl)) (pa_cons (pv 3) pa_nil))) pa_nil))))))), ?_⟩
  obtain ⟨z, a, g, pl, al, p, given, q, rfl, hz, hc, hg, ⟨i, k, rfl, rfl⟩, hd⟩ := h
  have hgN := intsN hg
  obtain ⟨dx, h1⟩ := hc.obj
  refine ⟨_, rfl, g, _, rfl, hgN, rfl, _, _, rfl, _, _, rfl, rfl, ?_⟩
  refine ⟨_, rfl, _, rfl, z, a, pl, al, p, i, rfl, hc, fun hi => ?_, fun hi => ?_⟩
  · have st : Kqk6.step (some p) (.meanWithInterval i k) = (some p, if k < 1 ∨ 20 < k then .value (-22) else Kqk6.fraction (Kqk6.meanOf (Kqk6.intervalOutput (p.pipes.getD i []) k) k)) := by
      show (some p, if p.pipes.length ≤ i then _ else _) = _
      rw [if_neg (by omega)]
    rw [st] at hd
    have no : k < 1 ∨ 20 < k → Rz CR E H (-22) := fun h => by
      refine hd.no ?_
      rw [if_pos h]
    refine ⟨_, rfl, _, _, rfl, rfl, _, rfl, ifB (fun e => ?_) (fun e => ?_)⟩
    · have e1 : (1 : Int) ≤ (k : Int) := decT e
      refine ⟨_, _, rfl, rfl, _, _, rfl, fun e2 => ?_, fun e2 => ?_⟩
      · have e3 : (k : Int) ≤ 20 := decT e2
        rw [if_neg (by omega)] at hd
        obtain ⟨ys, b, hy1, hy2, hy3⟩ := hc.row K hi
        have hlb := hc.good.at_ hi
        refine ⟨(by show 1 ≤ sizeLine; decide), fun q1 hq1 => ?_⟩
        have u1 := same_upd (o := .lst [V.int 0]) hq1
        refine ⟨_, rfl, a, CC, dx, _, _, rfl, u1 _ _ h1, T.cl, T.nP, cF_pipes, _, rfl, pl, _, _, _, rfl, rfl, u1.seq hy1, hy2, _, rfl, b, p.pipes.getD i [], k, rfl, hy3.same u1, by omega, by omega, by omega, by omega, fun H2 t s2 _ ht => ⟨t, _, rfl, .inr (SqT.of ht), fun q2 hq2 => ?_⟩⟩
        have s3 := s2.trans (same_upd (o := .lst [iv (lowM (Kqk6.intervalOutput (p.pipes.getD i []) k) k).1, iv (lowM (Kqk6.intervalOutput (p.pipes.getD i []) k) k).2]) hq2)
        refine ⟨q1, q2, _, _, rfl, rfl, s3 _ _ upd_same, upd_same, (by show 1 + 2 ≤ sizeLine; decide), fun r hr0 => ?_⟩
        have u := u1.trans s3
        refine hd.same rfl hc (u.trans (same_upd hr0)) (u.free hr0) ?_
        rw [upd_same, frac_low _ _ (by omega)]
        rfl
      · have e3 : ¬ (k : Int) ≤ 20 := decF e2
        exact no (by omega)
    · have e1 : ¬ (1 : Int) ≤ (k : Int) := decF e
      exact ⟨_, _, rfl, fun e4 => Bool.noConfusion e4, fun _ => no (by omega)⟩
  · refine hd.no ?_
    show (some p, if p.pipes.length ≤ i then _ else _) = _
    rw [if_pos hi]
/-! ### best_mean_alone -/
theorem scBA : FnScope ["crew", "given", "pipe"] ["crew", "given"] (defScope (top 65)) := ⟨rfl, rfl, rfl, by decide +kernel, rfl, by decide +kernel, by decide +kernel⟩
theorem ok_ba (B : Blt mg) (T : CrewT K mg CC) (D : Dn K mg "best_mean_alone" (top 65) ["crew", "given"]) (C : Cal P w K mg base (L2.CX P w) 4 "need_pipe" ["crew", "pipe"] (spNP CC CR)) (C1 : Cal P w K mg base CX0 3 "best_mean" ["pipes"] (spMean K)) :
    Cal P w K mg base (L2.CX P w) 5 "best_mean_alone" ["crew", "given"] (spDeed K CC CR 14) := by
  refine D.okX scBA spDeed_len (fun f cdv A outer s H vs Q E hr h => ?_)
  have hr3 : Room 3 _ := hr.mono (by decide)
  refine ⟨_, pss_cons (ps_set (i := 2) scBA.nd rfl (.inl rfl) (pe_ix ix_list (pv 1) pe_int (fun _ _ => rfl)))
    (pss_cons (ps_expr (pe_cal C hr (passE (takes_of rfl rfl rfl rfl)) (pa_cons (pv 0) (pa_cons (pv 2) pa_nil))))
    (pss_one (ps_ret (pe_op op_cat (pe_lst (pa_cons pe_int pa_nil)) (pe_callTy call_list_of (by rfl) B.list (by decide +kernel) (pa_cons
      (pe_cal (E := E1) C1 hr3 pass1 (pa_cons (pe_lst (pa_cons (pe_ix ix_list (pe_fld (pv 0) rfl) (pv 2) (fun _ _ => rfl)) pa_nil)) pa_nil)) pa_nil)))))), ?_⟩
  obtain ⟨z, a, g, pl, al, p, given, q, rfl, hz, hc, hg, ⟨i, rfl, rfl⟩, hd⟩ := h
  have hgN := intsN hg
  obtain ⟨dx, h1⟩ := hc.obj
  refine ⟨_, rfl, g, _, _, _, rfl, rfl, hgN, at_nat (i := 0) (by show 0 < 1; decide), ?_⟩
  refine ⟨_, rfl, _, rfl, z, a, pl, al, p, i, rfl, hc, fun hi => ?_, fun hi => ?_⟩
  · obtain ⟨ys, b, hy1, hy2, hy3⟩ := hc.row K hi
    refine ⟨(by show 1 ≤ sizeLine; decide), fun q1 hq1 => ?_⟩
    have u1 := same_upd (o := .lst [V.int 0]) hq1
    refine ⟨_, rfl, a, CC, dx, _, _, rfl, u1 _ _ h1, T.cl, T.nP, cF_pipes, _, rfl, pl, _, _, _, rfl, rfl, u1.seq hy1, hy2, (by show 1 ≤ sizeLine; decide), fun q3 hq3 => ?_⟩
    have u2 := u1.trans (same_upd (o := .lst [V.ref b]) hq3)
    have hP : PipesL K (upd (upd H q1 (.lst [V.int 0])) q3 (.lst [V.ref b])) q3 [p.pipes.getD i []] := ⟨[b], SqL.of upd_same, Al.snoc Al.nil (hy3.same u2)⟩
    have h0q := same_upd (o := .lst [V.ref b]) hq3 _ _ (upd_same (H := H) (a := q1) (o := .lst [V.int 0]))
    refine ⟨q3, _, rfl, hP, good_one hc.good hi, fun H2 t s2 _ ht => ⟨t, _, rfl, .inr (SqT.of ht), fun q2 hq2 => ?_⟩⟩
    have s3 := s2.trans (same_upd (o := .lst [.int (Kqk6.bestMean [p.pipes.getD i []]).num, iv (Kqk6.bestMean [p.pipes.getD i []]).den]) hq2)
    refine ⟨q1, q2, _, _, rfl, rfl, s3 _ _ h0q, upd_same, (by show 1 + 2 ≤ sizeLine; decide), fun r hr0 => ?_⟩
    have u := u2.trans s3
    refine hd.same (x := Kqk6.fraction (Kqk6.bestMean [p.pipes.getD i []])) ?_ hc (u.trans (same_upd hr0)) (u.free hr0) upd_same
    show (some p, if p.pipes.length ≤ i then _ else _) = _
    rw [if_neg (by omega)]
  · refine hd.no ?_
    show (some p, if p.pipes.length ≤ i then _ else _) = _
    rw [if_pos hi]
/-! ### output_without_cleaning -/
theorem scOW : FnScope ["crew", "given", "outputs"] ["crew", "given"] (defScope (top 66)) := ⟨rfl, rfl, rfl, by decide +kernel, rfl, by decide +kernel, by decide +kernel⟩
theorem ok_ow (B : Blt mg) (T : CrewT K mg CC) (D : Dn K mg "output_without_cleaning" (top 66) ["crew", "given"]) : Cal P w K mg base (L2.CX P w) 5 "output_without_cleaning" ["crew", "given"] (spDeed K CC CR 15) := by
  refine Cal.mono (j := 1) (D.okX scOW spDeed_len (fun f cdv A outer s H vs Q E hr h => ?_)) (by decide)
  refine ⟨_, pss_one (ps_ret (pe_lst (pa_cons (pe_callB (cr_sum rfl) (by rfl) B.sum (by decide +kernel) (pa_cons (pe_lc (own := [("outputs", 2)]) (g := gName 2) (tt := tYes) (te := tOp (rIxL K) (tVar 2) (tUn (rU fun i => .int (-i)) (tC (.int 1)))) rfl scOW.nd (pi_list (pe_fld (pv 0) rfl))
      (blkOk_by (N := ["crew", "given", "outputs"]) (sc := defScope (top 66)) (by decide +kernel)) (fun _ _ _ _ _ => pg_name (i := 2) scOW.nd rfl (.inl rfl)) (fun _ _ _ _ _ => pts_nil) (fun _ _ _ _ _ => pe_ix ix_list (pv 2) (pe_un un_neg pe_int) (fun _ _ => rfl))) pa_nil)) pa_nil))), ?_⟩
  obtain ⟨z, a, g, pl, al, p, given, q, rfl, hz, hc, hg, ⟨rfl, rfl⟩, hd⟩ := h
  obtain ⟨dx, h1⟩ := hc.obj
  obtain ⟨as, hpl, hA⟩ := hc.pipes K
  have hn3 := hc.good.n
  refine ⟨_, rfl, a, CC, dx, _, _, rfl, h1, T.cl, T.nP, cF_pipes, pl, rfl, ⟨_, hpl⟩, fun D2 hD2 => lc_list (K := K) (a := pl) (xs := as.map V.ref) (fun j H2 => Same H H2 ∧ H2 D2 = some (.lst (((p.pipes.take j).map fun l => l.getD (l.length - 1) 0).map iv)))
    ⟨same_upd hD2, upd_same⟩ (fun j H2 _ ⟨s4, _⟩ => s4.seq hpl) ?_ ?_⟩
  · rintro j y H2 hj ⟨s4, h4⟩
    obtain ⟨c, hcs, rfl⟩ := map_at hj
    obtain ⟨l, hl, hcl⟩ := hA.of hcs
    have hjl : j < p.pipes.length := (List.getElem?_eq_some_iff.mp hl).1
    have hlen := hc.good.len l (List.mem_of_getElem? hl)
    have hne : l ≠ [] := fun z => by rw [z] at hlen; simp at hlen
    obtain ⟨l', x, rfl⟩ : ∃ l' x, l = l' ++ [x] := ⟨l.dropLast, l.getLast hne, (List.dropLast_concat_getLast hne).symm⟩
    refine ⟨rfl, ?_⟩
    unfold tYes
    refine iteT ?_
    refine ⟨_, rfl, _, rfl, c, _, _, iv x, rfl, rfl, hcl.same s4, ?_, _, h4, ?_, same_upd2 hD2 s4, ?_⟩
    · rw [List.map_append]
      exact atI_last _ _
    · rw [List.length_map, List.length_map, List.length_take]
      exact small1000 (by omega)
    · rw [upd_same, take_snoc hl, List.map_append, List.map_append]
      have e : (l' ++ [x]).getD ((l' ++ [x]).length - 1) 0 = x := by
        rw [List.length_append, List.getD_eq_getElem?_getD]
        simp
      show some (HO.lst (_ ++ [iv x])) = some (HO.lst (_ ++ [iv ((l' ++ [x]).getD ((l' ++ [x]).length - 1) 0)]))
      rw [e]
  · rintro H2 ⟨s4, h4⟩
    rw [List.length_map, hA.1, List.take_length] at h4
    have e : ((p.pipes.map fun l => l.getD (l.length - 1) 0).map iv) = ((p.pipes.map fun l => l.getD (l.length - 1) 0).map fun (n : Nat) => (n : Int)).map V.int := by
      generalize (p.pipes.map fun l => l.getD (l.length - 1) 0) = r
      rw [List.map_map]
      rfl
    rw [e] at h4
    refine ⟨D2, _, rfl, SqL.of h4, (by show 1 ≤ sizeLine; decide), fun t ht => ?_⟩
    refine hd.same (x := .value (Kqk6.sum (p.pipes.map fun l => l.getD (l.length - 1) 0))) rfl hc (s4.trans (same_upd ht)) (s4.free ht) ?_
    rw [upd_same, sum_cast]
    rfl
/-! ### most_degraded -/
theorem scMD : FnScope ["crew", "given", "found", "most", "pipe", "outputs", "fallen"] ["crew", "given"] (defScope (top 68)) := ⟨rfl, rfl, rfl, by decide +kernel, rfl, by decide +kernel, by decide +kernel⟩
theorem ok_md (B : Blt mg) (T : CrewT K mg CC) (D : Dn K mg "most_degraded" (top 68) ["crew", "given"]) (C : Cal P w K mg base (L2.CX P w) 4 "need_some_pipes" ["crew"] (spNS CC CR)) : Cal P w K mg base (L2.CX P w) 5 "most_degraded" ["crew", "given"] (spDeed K CC CR 17) := by
  refine D.okX scMD spDeed_len (fun f cdv A outer s H vs Q E hr h => ?_)
  refine ⟨_, pss_cons (ps_expr (pe_cal C hr (passE (takes_of rfl rfl rfl rfl)) (pa_cons (pv 0) pa_nil)))
    (pss_cons (ps_asg (pe_tup (pa_cons pe_int (pa_cons (pe_un un_neg pe_int) pa_nil))) (pg_tup (by rfl) (pgs_cons (pg_name (i := 2) scMD.nd rfl (.inl rfl)) (pgs_cons (pg_name (i := 3) scMD.nd rfl (.inl rfl)) pgs_nil))))
    (pss_cons (ps_for (passes_of rfl) rfl (pi_range1 rfl B.range (pa_cons (pe_callB call_len_seq (by rfl) B.len PySem.boot_len (pa_cons (pe_fld (pv 0) rfl) pa_nil)) pa_nil)) (pg_name (i := 4) scMD.nd rfl (.inl rfl))
      (pss_cons (ps_set (i := 5) scMD.nd rfl (.inl rfl) (pe_ix ix_list (pe_fld (pv 0) rfl) (pv 4) (fun _ _ => rfl)))
      (pss_cons (ps_set (i := 6) scMD.nd rfl (.inl rfl) (pe_op op_sub (pe_ix ix_list (pv 5) pe_int (fun _ _ => rfl)) (pe_ix ix_list (pv 5) (pe_ix ix_list (pe_fld (pv 0) rfl) (pv 4) (fun _ _ => rfl)) (fun _ _ => rfl))))
      (pss_one (ps_if (pt_cmpR op_gt (pv 6) (pv 3) (nomark _)) (pss_one (ps_par (i := 2) (j := 3) (by rfl) scMD.nd rfl rfl (by decide) rfl rfl (pa_cons (pv 4) (pa_cons (pv 6) pa_nil)) (by rfl))) pss_nil)))))
    (pss_one (ps_ret (pe_lst (pa_cons (pv 2) pa_nil)))))), ?_⟩
  obtain ⟨z, a, g, pl, al, p, given, q, rfl, hz, hc, hg, ⟨rfl, rfl⟩, hd⟩ := h
  obtain ⟨dx, h1⟩ := hc.obj
  have hn3 := hc.good.n
  refine ⟨_, rfl, z, a, pl, al, p, rfl, hc, fun hne H0 s0 => ?_, fun he => ?_⟩
  · refine ⟨_, rfl, (by show 2 ≤ sizeLine; decide), fun tt htt => ?_⟩
    have s1 := s0.trans (same_upd (o := .tup [V.int 0, V.int (-1)]) htt)
    refine ⟨tt, _, rfl, SqT.of upd_same, rfl, _, _, rfl, _, _, rfl, rfl, ?_⟩
    generalize upd H0 tt (.tup [V.int 0, V.int (-1)]) = H1 at s1
    have h1' := s1 _ _ h1
    have hc' := hc.mono s1
    obtain ⟨ys, hy, hyl⟩ := hc'.plen K
    have hb := lt62 (n := p.pipes.length) (by omega)
    refine ⟨_, rfl, a, CC, dx, _, _, rfl, h1', T.cl, T.nP, cF_pipes, pl, _, rfl, .inl hy, ?_⟩
    rw [hyl]
    refine ⟨_, rfl, hb.1, hb.2, for_r0 (n := p.pipes.length) (fun i σ H' => ∃ v4 v5 v6, ∃ m : Int, σ = [some (.ref a), some (.ref g), some (iv (degr p i)), some (.int m), v4, v5, v6] ∧ H' = H1 ∧ ((i = 0 ∧ m = -1) ∨ (0 < i ∧ m = (loss p (degr p i) : Int)))) ⟨_, _, _, _, rfl, rfl, .inl ⟨rfl, rfl⟩⟩ ?_ ?_⟩
    · rintro i σ H' hi ⟨v4, v5, v6, m, rfl, rfl, hm⟩
      obtain ⟨zs, b, hy1, hy2, hy3⟩ := hc'.row K hi
      have hlb := hc.good.at_ hi
      have hva := (va_iff.1 hc.va).2 i hi
      have hal := hc.len
      have hmem : p.pipes.getD i [] ∈ p.pipes := by
        rw [List.getD_eq_getElem?_getD, List.getElem?_eq_getElem hi]
        exact List.getElem_mem hi
      have hdec := le_first ((noninc_iff _).1 (hc.good.dec _ hmem)) _ hva
      refine ⟨_, rfl, a, CC, dx, _, _, rfl, h1', T.cl, T.nP, cF_pipes, _, rfl, pl, _, _, _, rfl, rfl, hy1, hy2, ?_⟩
      refine ⟨_, rfl, b, _, _, _, rfl, rfl, hy3, at_nat (i := 0) (by omega), _, rfl, _, rfl, a, CC, dx, _, _, rfl, h1', T.cl, T.nA, cF_ages, _, rfl, al, _, _, _, rfl, rfl, hc'.agesL K, at_nat (by omega), b, _, _, _, rfl, rfl, hy3, at_nat hva, _, _, rfl, rfl, ?_⟩
      have hls : (((p.pipes.getD i []).getD 0 0 : Nat) : Int) - (((p.pipes.getD i []).getD (p.ages.getD i 0) 0 : Nat) : Int) = ((loss p i : Nat) : Int) := by
        show _ = (((p.pipes.getD i []).getD 0 0 - (p.pipes.getD i []).getD (p.ages.getD i 0) 0 : Nat) : Int)
        omega
      dsimp only
      rw [hls]
      refine ⟨_, rfl, _, rfl, _, _, rfl, rfl, _, rfl, ifB (fun e => ?_) (fun e => ?_)⟩
      · have e1 : m < ((loss p i : Nat) : Int) := decT e
        refine ⟨_, rfl, _, rfl, _, _, rfl, some (iv i), some (.ref b), some (iv (loss p i)), (loss p i : Int), ?_, rfl, .inr ⟨Nat.succ_pos _, ?_⟩⟩
        · have e2 : degr p (i + 1) = i := by
            rw [degr_succ]
            rcases hm with ⟨h0, _⟩ | ⟨h0, h2⟩
            · subst h0
              split <;> rfl
            · rw [if_pos (by omega)]
          rw [e2]
          rfl
        · have e2 : degr p (i + 1) = i := by
            rw [degr_succ]
            rcases hm with ⟨h0, _⟩ | ⟨h0, h2⟩
            · subst h0
              split <;> rfl
            · rw [if_pos (by omega)]
          rw [e2]
      · have e1 : ¬ m < ((loss p i : Nat) : Int) := decF e
        have e2 : 0 < i ∧ m = (loss p (degr p i) : Int) := by
          rcases hm with ⟨h0, h2⟩ | h
          · omega
          · exact h
        have e3 : degr p (i + 1) = degr p i := by
          rw [degr_succ, if_neg (by omega)]
        refine ⟨some (iv i), some (.ref b), some (iv (loss p i)), m, ?_, rfl, .inr ⟨Nat.succ_pos _, ?_⟩⟩
        · rw [e3]
          rfl
        · rw [e3]
          exact e2.2
    · rintro σ H' ⟨v4, v5, v6, m, rfl, rfl, hm⟩
      refine ⟨_, rfl, (by show 1 ≤ sizeLine; decide), fun t ht => ?_⟩
      refine hd.same (x := .value (degr p p.pipes.length : Nat)) ?_ hc (s1.trans (same_upd ht)) (s1.free ht) upd_same
      show (some p, if p.pipes = [] then _ else _) = _
      rw [if_neg hne, ← degr_spec]
  · refine hd.no ?_
    show (some p, if p.pipes = [] then _ else _) = _
    rw [if_pos he]
/-! ### show_state_count -/
theorem scSS : FnScope ["crew", "given"] ["crew", "given"] (defScope (top 69)) := ⟨rfl, rfl, rfl, by decide +kernel, rfl, by decide +kernel, by decide +kernel⟩
theorem ok_ss (T : CrewT K mg CC) (D : Dn K mg "show_state_count" (top 69) ["crew", "given"]) (C : Cal P w K mg base CX0 1 "count_states" ["pipes"] (spCount K)) : Cal P w K mg base (L2.CX P w) 5 "show_state_count" ["crew", "given"] (spDeed K CC CR 18) := by
  refine Cal.mono (j := 2) (D.okX scSS spDeed_len (fun f cdv A outer s H vs Q E hr h => ?_)) (by decide)
  refine ⟨_, pss_one (ps_ret (pe_lst (pa_cons (pe_cal (E := E1) C hr pass1 (pa_cons (pe_fld (pv 0) rfl) pa_nil)) pa_nil))), ?_⟩
  obtain ⟨z, a, g, pl, al, p, given, q, rfl, hz, hc, hg, ⟨rfl, rfl⟩, hd⟩ := h
  obtain ⟨dx, h1⟩ := hc.obj
  refine ⟨_, rfl, a, CC, dx, _, _, rfl, h1, T.cl, T.nP, cF_pipes, pl, p.pipes, rfl, hc.pipes K, hc.good, (by show 1 ≤ sizeLine; decide), fun t ht => ?_⟩
  refine hd.same (x := .value ((Kqk6.allStates p.pipes).length : Nat)) rfl hc (same_upd ht) ht ?_
  rw [upd_same, states_len]
  rfl
/-! ### summary -/
theorem scSu : FnScope ["crew", "given"] ["crew", "given"] (defScope (top 70)) := ⟨rfl, rfl, rfl, by decide +kernel, rfl, by decide +kernel, by decide +kernel⟩
theorem ok_su (B : Blt mg) (T : CrewT K mg CC) (D : Dn K mg "summary" (top 70) ["crew", "given"]) : Cal P w K mg base (L2.CX P w) 5 "summary" ["crew", "given"] (spDeed K CC CR 19) := by
  refine Cal.mono (j := 1) (D.okX scSu spDeed_len (fun f cdv A outer s H vs Q E hr h => ?_)) (by decide)
  refine ⟨_, pss_one (ps_ret (pe_op op_cat (pe_lst (pa_cons (pe_callB call_len_seq (by rfl) B.len PySem.boot_len (pa_cons (pe_fld (pv 0) rfl) pa_nil)) (pa_cons (pe_fld (pv 0) rfl) (pa_cons (pe_fld (pv 0) rfl) pa_nil)))) (pe_fld (pv 0) rfl))), ?_⟩
  obtain ⟨z, a, g, pl, al, p, given, q, rfl, _, hc, hg, ⟨rfl, rfl⟩, hd⟩ := h
  obtain ⟨dx, h1⟩ := hc.obj
  obtain ⟨ys, hy, hyl⟩ := hc.plen K
  have hn3 := hc.good.n
  refine ⟨_, rfl, a, CC, dx, _, _, rfl, h1, T.cl, T.nP, cF_pipes, pl, _, rfl, .inl hy, _, rfl, a, CC, dx, _, _, rfl, h1, T.cl, T.nD, cF_past, _, rfl, a, CC, dx, _, _, rfl, h1, T.cl, T.nT, cF_total, (by show 3 ≤ sizeLine; decide), fun q1 hq1 => ?_⟩
  have u1 := same_upd (o := .lst [V.int (ys.length : Int), V.int (p.dayCount : Int), V.int (p.total : Int)]) hq1
  refine ⟨_, rfl, a, CC, dx, _, _, rfl, u1 _ _ h1, T.cl, T.nA, cF_ages, q1, al, _, _, rfl, rfl, upd_same, u1 _ _ hc.ages, ?_, fun t ht => ?_⟩
  · rw [List.length_map, hc.len]
    exact Nat.le_of_lt (small1000 (by show 3 + p.pipes.length ≤ 1000; omega))
  · refine hd.same rfl hc (u1.trans (same_upd ht)) (u1.free ht) ?_
    rw [upd_same]
    show _ = some (HO.lst (V.int (p.pipes.length : Int) :: ((Kqk6.ints [p.dayCount, p.total] ++ Kqk6.ints p.ages).map V.int)))
    rw [List.map_append, ints_map, ints_map, hyl]
    rfl
end
end Pc
namespace Pc
open PySem PySem.Spec PyProof.Rows L2 Crewm
theorem nat_of {x : Int} (h : Kqk6Neutral.nat32 x = true) : ((x.toNat : Nat) : Int) = x := by
  have h' : (decide (0 ≤ x) && decide (x < 2 ^ 32)) = true := h
  rw [Bool.and_eq_true, decide_eq_true_eq] at h'
  omega
theorem nats_of {l : List Int} (h : Kqk6Neutral.list32 Kqk6Neutral.nat32 l = true) : l = ofN (l.map Kqk6Neutral.nat) ∧ (l.map Kqk6Neutral.nat).length ≤ 60 := by
  have h' : (l.all Kqk6Neutral.nat32 && decide (l.length ≤ 60)) = true := h
  rw [Bool.and_eq_true, List.all_eq_true, decide_eq_true_eq] at h'
  refine ⟨?_, by rw [List.length_map]; exact h'.2⟩
  unfold ofN
  rw [List.map_map]
  have e : l.map ((fun (n : Nat) => (n : Int)) ∘ Kqk6Neutral.nat) = l.map id := List.map_congr_left fun x hx => nat_of (h'.1 x hx)
  rw [e, List.map_id]
theorem enc_of {p : Int} {r : List Int} {c : List (List Int)} {given t : List Int} {n m : Nat} (h : Cut p r c given t n m) (ok : Kqk6Neutral.asked1 (PyKqk6.whole c) = true) : ∃ q, Kqk6Neutral.requestOf (PyKqk6.whole c) = some q ∧ ((p = 0 ∧ q = .create) ∨ Enc p.toNat given q) := by
  obtain ⟨i, rfl, hi⟩ : ∃ i : Nat, p = (i : Int) ∧ i < 20 := by
    cases h with
    | plain hs _ => obtain ⟨i, e, hi, _⟩ := shape_cases hs; exact ⟨i, e, hi⟩
    | more hs _ _ _ => obtain ⟨i, e, hi, _⟩ := shape_cases hs; exact ⟨i, e, hi⟩
  have hc : i = 0 ∨ i = 1 ∨ i = 2 ∨ i = 3 ∨ i = 4 ∨ i = 5 ∨ i = 6 ∨ i = 7 ∨ i = 8 ∨ i = 9 ∨ i = 10 ∨ i = 11 ∨ i = 12 ∨ i = 13 ∨ i = 14 ∨ i = 15 ∨ i = 16 ∨ i = 17 ∨ i = 18 ∨ i = 19 := by omega
  rcases hc with rfl | rfl | rfl | rfl | rfl | rfl | rfl | rfl | rfl | rfl | rfl | rfl | rfl | rfl | rfl | rfl | rfl | rfl | rfl | rfl
  · -- 0
    cases h with
    | plain hs hn =>
      obtain ⟨e, _⟩ := Prod.mk.inj (Option.some.inj (show some ((0 : Nat), (0 : Nat)) = some (n, 0) from hs))
      subst e
      exact ⟨_, rfl, .inl ⟨rfl, rfl⟩⟩
    | more hs _ _ _ => exact absurd (Prod.mk.inj (Option.some.inj (show some ((0 : Nat), (0 : Nat)) = some (n, 1) from hs))).2 (by decide)
  · -- 1
    cases h with
    | plain hs _ => exact absurd (Prod.mk.inj (Option.some.inj (show some ((0 : Nat), (1 : Nat)) = some (n, 0) from hs))).2 (by decide)
    | @more _ m' r' hs hn hd hm =>
      obtain ⟨e, _⟩ := Prod.mk.inj (Option.some.inj (show some ((0 : Nat), (1 : Nat)) = some (n, 1) from hs))
      subst e
      obtain ⟨h1, h2⟩ := nats_of (l := r'.take m') ok
      exact ⟨.addPipe ((r'.take m').map Kqk6Neutral.nat), rfl, .inr ⟨_, h1, h2, rfl⟩⟩
  · -- 2
    cases h with
    | plain hs hn =>
      obtain ⟨e, _⟩ := Prod.mk.inj (Option.some.inj (show some ((1 : Nat), (0 : Nat)) = some (n, 0) from hs))
      subst e
      cases r with
      | nil => exact absurd hn (by decide)
      | cons x r =>
        refine ⟨.removePipe x.toNat, rfl, .inr ⟨x.toNat, ?_, rfl⟩⟩
        show [x] = [((x.toNat : Nat) : Int)]
        rw [nat_of (show Kqk6Neutral.nat32 x = true from ok)]
    | more hs _ _ _ => exact absurd (Prod.mk.inj (Option.some.inj (show some ((1 : Nat), (0 : Nat)) = some (n, 1) from hs))).2 (by decide)
  · -- 3
    cases h with
    | plain hs hn =>
      obtain ⟨e, _⟩ := Prod.mk.inj (Option.some.inj (show some ((1 : Nat), (0 : Nat)) = some (n, 0) from hs))
      subst e
      cases r with
      | nil => exact absurd hn (by decide)
      | cons x r =>
        refine ⟨.operate x.toNat, rfl, .inr ⟨x.toNat, ?_, rfl⟩⟩
        show [x] = [((x.toNat : Nat) : Int)]
        rw [nat_of (show Kqk6Neutral.nat32 x = true from ok)]
    | more hs _ _ _ => exact absurd (Prod.mk.inj (Option.some.inj (show some ((1 : Nat), (0 : Nat)) = some (n, 1) from hs))).2 (by decide)
  · -- 4
    cases h with
    | plain hs _ => exact absurd (Prod.mk.inj (Option.some.inj (show some ((0 : Nat), (1 : Nat)) = some (n, 0) from hs))).2 (by decide)
    | @more _ m' r' hs hn hd hm =>
      obtain ⟨e, _⟩ := Prod.mk.inj (Option.some.inj (show some ((0 : Nat), (1 : Nat)) = some (n, 1) from hs))
      subst e
      obtain ⟨h1, h2⟩ := nats_of (l := r'.take m') ok
      exact ⟨.operateDays ((r'.take m').map Kqk6Neutral.nat), rfl, .inr ⟨_, h1, h2, rfl⟩⟩
  · -- 5
    cases h with
    | plain hs hn =>
      obtain ⟨e, _⟩ := Prod.mk.inj (Option.some.inj (show some ((0 : Nat), (0 : Nat)) = some (n, 0) from hs))
      subst e
      exact ⟨_, rfl, .inr ⟨rfl, rfl⟩⟩
    | more hs _ _ _ => exact absurd (Prod.mk.inj (Option.some.inj (show some ((0 : Nat), (0 : Nat)) = some (n, 1) from hs))).2 (by decide)
  · -- 6
    cases h with
    | plain hs hn =>
      obtain ⟨e, _⟩ := Prod.mk.inj (Option.some.inj (show some ((1 : Nat), (0 : Nat)) = some (n, 0) from hs))
      subst e
      cases r with
      | nil => exact absurd hn (by decide)
      | cons x r =>
        refine ⟨.outputIf x.toNat, rfl, .inr ⟨x.toNat, ?_, rfl⟩⟩
        show [x] = [((x.toNat : Nat) : Int)]
        rw [nat_of (show Kqk6Neutral.nat32 x = true from ok)]
    | more hs _ _ _ => exact absurd (Prod.mk.inj (Option.some.inj (show some ((1 : Nat), (0 : Nat)) = some (n, 1) from hs))).2 (by decide)
  · -- 7
    cases h with
    | plain hs hn =>
      obtain ⟨e, _⟩ := Prod.mk.inj (Option.some.inj (show some ((1 : Nat), (0 : Nat)) = some (n, 0) from hs))
      subst e
      cases r with
      | nil => exact absurd hn (by decide)
      | cons x r =>
        refine ⟨.bestTotal x.toNat, rfl, .inr ⟨x.toNat, ?_, rfl⟩⟩
        show [x] = [((x.toNat : Nat) : Int)]
        rw [nat_of (show Kqk6Neutral.nat32 x = true from ok)]
    | more hs _ _ _ => exact absurd (Prod.mk.inj (Option.some.inj (show some ((1 : Nat), (0 : Nat)) = some (n, 1) from hs))).2 (by decide)
  · -- 8
    cases h with
    | plain hs hn =>
      obtain ⟨e, _⟩ := Prod.mk.inj (Option.some.inj (show some ((1 : Nat), (0 : Nat)) = some (n, 0) from hs))
      subst e
      cases r with
      | nil => exact absurd hn (by decide)
      | cons x r =>
        refine ⟨.bestChoice x.toNat, rfl, .inr ⟨x.toNat, ?_, rfl⟩⟩
        show [x] = [((x.toNat : Nat) : Int)]
        rw [nat_of (show Kqk6Neutral.nat32 x = true from ok)]
    | more hs _ _ _ => exact absurd (Prod.mk.inj (Option.some.inj (show some ((1 : Nat), (0 : Nat)) = some (n, 1) from hs))).2 (by decide)
  · -- 9
    cases h with
    | plain hs hn =>
      obtain ⟨e, _⟩ := Prod.mk.inj (Option.some.inj (show some ((0 : Nat), (0 : Nat)) = some (n, 0) from hs))
      subst e
      exact ⟨_, rfl, .inr ⟨rfl, rfl⟩⟩
    | more hs _ _ _ => exact absurd (Prod.mk.inj (Option.some.inj (show some ((0 : Nat), (0 : Nat)) = some (n, 1) from hs))).2 (by decide)
  · -- 10
    cases h with
    | plain hs _ => exact absurd (Prod.mk.inj (Option.some.inj (show some ((0 : Nat), (1 : Nat)) = some (n, 0) from hs))).2 (by decide)
    | @more _ m' r' hs hn hd hm =>
      obtain ⟨e, _⟩ := Prod.mk.inj (Option.some.inj (show some ((0 : Nat), (1 : Nat)) = some (n, 1) from hs))
      subst e
      obtain ⟨h1, h2⟩ := nats_of (l := r'.take m') ok
      exact ⟨.cycleMean ((r'.take m').map Kqk6Neutral.nat), rfl, .inr ⟨_, h1, h2, rfl⟩⟩
  · -- 11
    cases h with
    | plain hs _ => exact absurd (Prod.mk.inj (Option.some.inj (show some ((0 : Nat), (1 : Nat)) = some (n, 0) from hs))).2 (by decide)
    | @more _ m' r' hs hn hd hm =>
      obtain ⟨e, _⟩ := Prod.mk.inj (Option.some.inj (show some ((0 : Nat), (1 : Nat)) = some (n, 1) from hs))
      subst e
      obtain ⟨h1, h2⟩ := nats_of (l := r'.take m') ok
      exact ⟨.attainsBestMean ((r'.take m').map Kqk6Neutral.nat), rfl, .inr ⟨_, h1, h2, rfl⟩⟩
  · -- 12
    cases h with
    | plain hs _ => exact absurd (Prod.mk.inj (Option.some.inj (show some ((2 : Nat), (1 : Nat)) = some (n, 0) from hs))).2 (by decide)
    | @more _ m' r' hs hn hd hm =>
      obtain ⟨e, _⟩ := Prod.mk.inj (Option.some.inj (show some ((2 : Nat), (1 : Nat)) = some (n, 1) from hs))
      subst e
      match r, hn, ok with
      | [], hn, _ => exact absurd hn (by decide)
      | [_], hn, _ => exact absurd hn (by show ¬ 2 ≤ 1; decide)
      | x :: y :: r2, _, ok =>
        have ok' : (Kqk6Neutral.nat32 x && Kqk6Neutral.nat32 y && (List.all (r'.take m') Kqk6Neutral.int32 && decide ((r'.take m').length ≤ 60))) = true := ok
        rw [Bool.and_eq_true, Bool.and_eq_true, Bool.and_eq_true, decide_eq_true_eq] at ok'
        refine ⟨.provesBound x.toNat y.toNat (r'.take m'), rfl, .inr ⟨x.toNat, y.toNat, r'.take m', ?_, ok'.2.2, rfl⟩⟩
        rw [nat_of ok'.1.1, nat_of ok'.1.2]
        rfl
  · -- 13
    cases h with
    | plain hs hn =>
      obtain ⟨e, _⟩ := Prod.mk.inj (Option.some.inj (show some ((2 : Nat), (0 : Nat)) = some (n, 0) from hs))
      subst e
      match r, hn, ok with
      | [], hn, _ => exact absurd hn (by decide)
      | [_], hn, _ => exact absurd hn (by show ¬ 2 ≤ 1; decide)
      | x :: y :: r2, _, ok =>
        have ok' : (Kqk6Neutral.nat32 x && Kqk6Neutral.nat32 y) = true := ok
        rw [Bool.and_eq_true] at ok'
        refine ⟨.meanWithInterval x.toNat y.toNat, rfl, .inr ⟨x.toNat, y.toNat, ?_, rfl⟩⟩
        show [x, y] = [((x.toNat : Nat) : Int), ((y.toNat : Nat) : Int)]
        rw [nat_of ok'.1, nat_of ok'.2]
    | more hs _ _ _ => exact absurd (Prod.mk.inj (Option.some.inj (show some ((2 : Nat), (0 : Nat)) = some (n, 1) from hs))).2 (by decide)
  · -- 14
    cases h with
    | plain hs hn =>
      obtain ⟨e, _⟩ := Prod.mk.inj (Option.some.inj (show some ((1 : Nat), (0 : Nat)) = some (n, 0) from hs))
      subst e
      cases r with
      | nil => exact absurd hn (by decide)
      | cons x r =>
        refine ⟨.bestMeanAlone x.toNat, rfl, .inr ⟨x.toNat, ?_, rfl⟩⟩
        show [x] = [((x.toNat : Nat) : Int)]
        rw [nat_of (show Kqk6Neutral.nat32 x = true from ok)]
    | more hs _ _ _ => exact absurd (Prod.mk.inj (Option.some.inj (show some ((1 : Nat), (0 : Nat)) = some (n, 1) from hs))).2 (by decide)
  · -- 15
    cases h with
    | plain hs hn =>
      obtain ⟨e, _⟩ := Prod.mk.inj (Option.some.inj (show some ((0 : Nat), (0 : Nat)) = some (n, 0) from hs))
      subst e
      exact ⟨_, rfl, .inr ⟨rfl, rfl⟩⟩
    | more hs _ _ _ => exact absurd (Prod.mk.inj (Option.some.inj (show some ((0 : Nat), (0 : Nat)) = some (n, 1) from hs))).2 (by decide)
  · -- 16
    cases h with
    | plain hs hn =>
      obtain ⟨e, _⟩ := Prod.mk.inj (Option.some.inj (show some ((0 : Nat), (0 : Nat)) = some (n, 0) from hs))
      subst e
      exact ⟨_, rfl, .inr ⟨rfl, rfl⟩⟩
    | more hs _ _ _ => exact absurd (Prod.mk.inj (Option.some.inj (show some ((0 : Nat), (0 : Nat)) = some (n, 1) from hs))).2 (by decide)
  · -- 17
    cases h with
    | plain hs hn =>
      obtain ⟨e, _⟩ := Prod.mk.inj (Option.some.inj (show some ((0 : Nat), (0 : Nat)) = some (n, 0) from hs))
      subst e
      exact ⟨_, rfl, .inr ⟨rfl, rfl⟩⟩
    | more hs _ _ _ => exact absurd (Prod.mk.inj (Option.some.inj (show some ((0 : Nat), (0 : Nat)) = some (n, 1) from hs))).2 (by decide)
  · -- 18
    cases h with
    | plain hs hn =>
      obtain ⟨e, _⟩ := Prod.mk.inj (Option.some.inj (show some ((0 : Nat), (0 : Nat)) = some (n, 0) from hs))
      subst e
      exact ⟨_, rfl, .inr ⟨rfl, rfl⟩⟩
    | more hs _ _ _ => exact absurd (Prod.mk.inj (Option.some.inj (show some ((0 : Nat), (0 : Nat)) = some (n, 1) from hs))).2 (by decide)
  · -- 19
    cases h with
    | plain hs hn =>
      obtain ⟨e, _⟩ := Prod.mk.inj (Option.some.inj (show some ((0 : Nat), (0 : Nat)) = some (n, 0) from hs))
      subst e
      exact ⟨_, rfl, .inr ⟨rfl, rfl⟩⟩
    | more hs _ _ _ => exact absurd (Prod.mk.inj (Option.some.inj (show some ((0 : Nat), (0 : Nat)) = some (n, 1) from hs))).2 (by decide)
/-- before create -/
theorem step_none {n : Nat} {g : List Int} {q : Kqk6.Request} (h : Enc n g q) : Kqk6.step none q = (none, .value (-11)) := by
  unfold Enc at h
  split at h <;> first | exact h.elim | (obtain ⟨_, rfl⟩ := h; rfl) | (obtain ⟨_, _, rfl⟩ := h; rfl) | (obtain ⟨_, _, _, rfl⟩ := h; rfl) | (obtain ⟨_, _, _, _, _, rfl⟩ := h; rfl)
theorem enc_pos {n : Nat} {g : List Int} {q : Kqk6.Request} (h : Enc n g q) : 0 < n ∧ n < 20 := by
  unfold Enc at h
  split at h <;> first | exact h.elim | exact ⟨by decide, by decide⟩
/-- what is played from a state, flat -/
theorem told_cons (s : Option Kqk6.PipeSystem) (c : List (List Int)) (cs : List (List (List Int))) : PyFlat.told (PyFlat.played Kqk6Neutral.step s (c :: cs)) = (((Kqk6Neutral.step s c).2.length : Int) :: (Kqk6Neutral.step s c).2) ++ PyFlat.told (PyFlat.played Kqk6Neutral.step (Kqk6Neutral.step s c).1 cs) := rfl
theorem step_of {s : Option Kqk6.PipeSystem} {c : List (List Int)} {q : Kqk6.Request} (h : Kqk6Neutral.requestOf c = some q) : Kqk6Neutral.step s c = ((Kqk6.step s q).1, Kqk6Neutral.fields (Kqk6.step s q).2) := by
  unfold Kqk6Neutral.step
  rw [h]
end Pc
namespace Pc
open PySem PySem.Spec PyProof.Rows L2 Crewm
/-- a written tuple of numbers -/
structure TupC (K : PySem.W.Frag) (mg : Str → Option Value) (x : Str) (l : List Int) : Prop where
  ex : ∃ a, mg x = some (.ref a) ∧ ∀ H, SqT K H a (l.map V.int)
theorem cut_mid (xs : List V) {i j : Nat} (h : i ≤ j) (hi : i ≤ xs.length) : cutV xs (some (i : Int)) (some (j : Int)) = (xs.drop i).take (j - i) := by
  unfold cutV
  rw [HT.sIx_nat, HT.sIx_nat, Nat.min_eq_left hi]
  by_cases h2 : j ≤ xs.length
  · rw [Nat.min_eq_left h2]
  · rw [Nat.min_eq_right (by omega), List.take_of_length_le (by rw [List.length_drop]; omega), List.take_of_length_le (by rw [List.length_drop]; omega)]
theorem numbers_at {p : Int} {n k : Nat} (h : PyKqk6.shape p = some (n, k)) : atI (numbersL.map V.int) p = some (iv n) ∧ inV (.int p) (listsL.map V.int) = decide (k = 1) := by
  obtain ⟨i, rfl, hi, h1, h2⟩ := shape_cases h
  refine ⟨at_map h1, ?_⟩
  have hc : i = 0 ∨ i = 1 ∨ i = 2 ∨ i = 3 ∨ i = 4 ∨ i = 5 ∨ i = 6 ∨ i = 7 ∨ i = 8 ∨ i = 9 ∨ i = 10 ∨ i = 11 ∨ i = 12 ∨ i = 13 ∨ i = 14 ∨ i = 15 ∨ i = 16 ∨ i = 17 ∨ i = 18 ∨ i = 19 := by omega
  rcases hc with rfl | rfl | rfl | rfl | rfl | rfl | rfl | rfl | rfl | rfl | rfl | rfl | rfl | rfl | rfl | rfl | rfl | rfl | rfl | rfl
  all_goals
    subst h2
    decide
section
variable {P : Program} {w : World} {K : PySem.W.Frag} {mg : Str → Option Value} {base : Heap}
/-! ### handed_over -/
def spHO (K : PySem.W.Frag) : Sp := fun vs H Q _ => ∃ (c : Addr) (calls : List Int) (at_ : Nat) (p : Int) (r : List Int) (cl : List (List Int)) (given t : List Int) (n m : Nat), vs = [.ref c, iv at_] ∧ IntsL K H c calls ∧ calls.length ≤ 20000 ∧ calls.drop at_ = p :: r ∧ Cut p r cl given t n m ∧
  ∀ (H' : Hp) (x g : Addr), Same H H' → H' x = some (.tup [.ref g, iv (at_ + 1 + n + m)]) → H' g = some (.lst (given.map V.int)) → Q (.ref x) H'
theorem scHO : FnScope ["calls", "at", "number", "behind", "given", "beyond"] ["calls", "at"] (defScope (top 77)) := ⟨rfl, rfl, rfl, by decide +kernel, rfl, by decide +kernel, by decide +kernel⟩
theorem ok_ho (N : TupC K mg "NUMBERS" numbersL) (L : TupC K mg "WITH_LISTS" listsL) (D : Dn K mg "handed_over" (top 77) ["calls", "at"]) : Cal P w K mg base CX0 1 "handed_over" ["calls", "at"] (spHO K) := by
  obtain ⟨aN, gN, hN⟩ := N.ex
  obtain ⟨aL, gL, hL⟩ := L.ex
  refine D.ok scHO (fun vs H Q E h => ?_) (fun f cdv A outer s H vs Q E hr h => ?_)
  · obtain ⟨c, calls, at_, p, r, cl, given, t, n, m, rfl, _⟩ := h
    rfl
  · refine ⟨_, pss_cons (ps_set (i := 2) scHO.nd rfl (.inl rfl) (pe_ix ix_list (pv 0) (pv 1) (fun _ _ => rfl)))
      (pss_cons (ps_set (i := 3) scHO.nd rfl (.inl rfl) (pe_op op_add (pe_op op_add (pv 1) pe_int) (pe_ix ix_tup (pe_glob (v := .ref aN) rfl gN rfl) (pv 2) (fun _ _ => rfl))))
      (pss_cons (ps_set (i := 4) scHO.nd rfl (.inl rfl) (pe_slice sl_list (pv 0) (po_some (pe_op op_add (pv 1) pe_int)) (po_some (pv 3))))
      (pss_cons (ps_if (pt_cmpR op_in_seq (pv 2) (pe_glob (v := .ref aL) rfl gL rfl) (by rfl))
        (pss_cons (ps_set (i := 5) scHO.nd rfl (.inl rfl) (pe_op op_add (pe_op op_add (pv 3) pe_int) (pe_ix ix_list (pv 0) (pv 3) (fun _ _ => rfl))))
        (pss_one (ps_ret (pe_tup (pa_cons (pe_op op_cat (pv 4) (pe_slice sl_list (pv 0) (po_some (pe_op op_add (pv 3) pe_int)) (po_some (pv 5)))) (pa_cons (pv 5) pa_nil)))))) pss_nil)
      (pss_one (ps_ret (pe_tup (pa_cons (pv 4) (pa_cons (pv 3) pa_nil)))))))), ?_⟩
    obtain ⟨c, calls, at_, p, r, cl, given, t, n, m, rfl, hc, hlen, hd, hcut, q⟩ := h
    have hat : calls[at_]? = some p := by
      have := congrArg (fun l => l[0]?) hd
      simpa using this
    have hdr : calls.drop (at_ + 1) = r := by
      have := congrArg (List.drop 1) hd
      simpa using this
    have hal : at_ < calls.length := (List.getElem?_eq_some_iff.mp hat).1
    have hrl : r.length = calls.length - (at_ + 1) := by rw [← hdr, List.length_drop]
    have hml : (calls.map V.int).length = calls.length := List.length_map _
    have e1 : ((at_ : Nat) : Int) + 1 = ((at_ + 1 : Nat) : Int) := by omega
    have e2 : ((at_ : Nat) : Int) + 1 + ((n : Nat) : Int) = ((at_ + 1 + n : Nat) : Int) := by omega
    have shp : ∃ k, PyKqk6.shape p = some (n, k) ∧ n ≤ r.length := by
      cases hcut with
      | plain h1 h2 => exact ⟨_, h1, h2⟩
      | more h1 h2 _ _ => exact ⟨_, h1, h2⟩
    obtain ⟨k, hs, hnr⟩ := shp
    obtain ⟨a1, a2⟩ := numbers_at hs
    refine ⟨_, rfl, _, rfl, c, _, _, _, rfl, rfl, hc, at_map hat, ?_⟩
    refine ⟨_, rfl, _, _, rfl, rfl, _, rfl, aN, _, _, _, rfl, rfl, hN _, a1, _, _, rfl, rfl, ?_⟩
    dsimp only
    rw [e2]
    refine ⟨_, rfl, _, rfl, _, _, rfl, rfl, _, rfl, _, rfl, _, rfl, c, _, rfl, hc, fun g1 hg1 => ?_⟩
    dsimp only
    rw [e1, cut_mid _ (by omega) (by omega)]
    have e3 : ((calls.map V.int).drop (at_ + 1)).take (at_ + 1 + n - (at_ + 1)) = (r.take n).map V.int := by
      rw [← List.map_drop, hdr, ← List.map_take, Nat.add_sub_cancel_left]
    rw [e3]
    have u1 := same_upd (o := .lst ((r.take n).map V.int)) hg1
    refine ⟨_, rfl, aL, _, rfl, .inr (hL _), rfl, by decide, _, rfl, ?_⟩
    dsimp only
    rw [if_neg Bool.false_ne_true, a2]
    cases hcut with
    | plain h1 h2 =>
      have hk : k = 0 := by
        rw [h1] at hs
        exact (Prod.mk.inj (Option.some.inj hs)).2.symm
      subst hk
      refine iteF ?_
      refine ⟨_, rfl, _, rfl, (by show 2 ≤ sizeLine; decide), fun x hx => ?_⟩
      exact q _ x g1 (u1.trans (same_upd hx)) upd_same (same_upd hx _ _ upd_same)
    | @more _ m' r' h1 h2 h3 h4 =>
      have hk : k = 1 := by
        rw [h1] at hs
        exact (Prod.mk.inj (Option.some.inj hs)).2.symm
      subst hk
      refine iteT ?_
      have hat2 : calls[at_ + 1 + n]? = some (m' : Int) := by
        have : (calls.drop (at_ + 1))[n]? = some (m' : Int) := by
          rw [hdr]
          have := congrArg (fun l => l[0]?) h3
          simpa using this
        rw [List.getElem?_drop] at this
        exact this
      have hdr2 : calls.drop (at_ + 1 + n + 1) = r' := by
        have e := congrArg (List.drop 1) h3
        rw [← hdr, List.drop_drop, List.drop_drop] at e
        simpa [Nat.add_assoc] using e
      have hl2 : at_ + 1 + n < calls.length := (List.getElem?_eq_some_iff.mp hat2).1
      have hr' : r'.length = calls.length - (at_ + 1 + n + 1) := by rw [← hdr2, List.length_drop]
      have e4 : ((at_ + 1 + n : Nat) : Int) + 1 = ((at_ + 1 + n + 1 : Nat) : Int) := by omega
      have e5 : ((at_ + 1 + n : Nat) : Int) + 1 + ((m' : Nat) : Int) = ((at_ + 1 + n + (m' + 1) : Nat) : Int) := by omega
      refine ⟨_, rfl, _, _, rfl, rfl, _, rfl, _, rfl, c, _, _, _, rfl, rfl, u1.seq hc, at_map hat2, _, _, rfl, rfl, ?_⟩
      dsimp only
      rw [e5]
      refine ⟨_, rfl, _, rfl, _, rfl, _, _, rfl, rfl, _, rfl, _, rfl, _, rfl, c, _, rfl, u1.seq hc, fun g2 hg2 => ?_⟩
      dsimp only
      rw [e4, cut_mid _ (by omega) (by omega)]
      have e6 : ((calls.map V.int).drop (at_ + 1 + n + 1)).take (at_ + 1 + n + (m' + 1) - (at_ + 1 + n + 1)) = (r'.take m').map V.int := by
        have e7 : at_ + 1 + n + (m' + 1) - (at_ + 1 + n + 1) = m' := by omega
        rw [← List.map_drop, hdr2, ← List.map_take, e7]
      rw [e6]
      have u2 := same_upd (o := .lst ((r'.take m').map V.int)) hg2
      refine ⟨g1, g2, _, _, rfl, rfl, u2 _ _ upd_same, upd_same, ?_, fun g3 hg3 => ?_⟩
      · rw [List.length_map, List.length_map, List.length_take, List.length_take]
        have : (20000 : Nat) ≤ sizeLine := by decide
        omega
      · have u3 := same_upd (o := .lst ((r.take n).map V.int ++ (r'.take m').map V.int)) hg3
        refine ⟨_, rfl, (by show 2 ≤ sizeLine; decide), fun x hx => ?_⟩
        refine q _ x g3 (((u1.trans u2).trans u3).trans (same_upd hx)) upd_same ?_
        rw [List.map_append]
        exact same_upd hx _ _ upd_same
end
end Pc
namespace Pc
open PySem PySem.Spec PyProof.Rows L2 Crewm
/-! ### a call of a def that a local name holds, what is raised wished for at the slots -/
structure HeldX (P : Program) (w : World) (K : PySem.W.Frag) (mg : Str → Option Value) (base : Heap) (k : Nat) (f : Addr) (sp : Sp) : Prop where
  ex : ∃ (fd : FuncData) (ps : List Str), FnOk P w K mg base (L2.CX P w) k f fd ps sp ∧ PySem.W.keepIn K (.ref f) = true ∧ Binds K fd ps []
def tDeed (i : Nat) (E : L2.St → XK) (G : Addr → Sp → Prop) (t : TA) : TE := fun σ H Q => ∃ (f : Addr) (sp : Sp), σ[i]? = some (some (.ref f)) ∧ G f sp ∧ t σ H fun vs H1 => sp vs H1 Q (E σ)
theorem pe_deed {X : Cx} {k i : Nat} {E : L2.St → XK} {x : Str} {p pos : Pos} {e : Expr} {es : List Expr} {t : TA} (hr : Room k X.A) (hx : ∀ σ, PassesAt (L2.CX X.prog X.w) X σ (E σ)) (ha : PA X (e :: es) t) (hN : X.N[i]? = some x := by rfl)
    (hv : Vis X.env.scope x := by first | exact Or.inl rfl | exact Or.inr (Or.inl rfl)) (hdb : (x == ("__debug__" : Str)) = false := by decide) (hcd : (x == ("__classdict__" : Str)) = false := by decide)
    (he : starEach (e :: es) X.env = (false, eval e X.env) :: starEach es X.env := by rfl) (hpl : (backTo pos (starEach es X.env)).any (·.1) = false := by rfl) :
    PE X (.Call (.Name x p) (e :: es) [] pos) (tDeed i E (HeldX X.prog X.w X.K X.mg X.base k) t) := by
  refine ⟨fun pins s σ H Q I ⟨f, sp, hs, G, ht⟩ => wpAny_Call_Name_kw ?_⟩
  obtain ⟨fd, ps, F, hk, hb⟩ := G.ex
  have name := (pe_var (pos := p) hN hv hdb hcd).run pins s σ H (fun v H1 => v = .ref f ∧ H1 = H) I ⟨.ref f, hs, rfl, rfl⟩
  refine thn name fun u s1 ⟨v, H1, I1, r1, q1⟩ => ?_
  obtain ⟨e1, e2⟩ := q1
  subst e1 e2
  obtain rfl : u = Value.ref f := r1
  exact PySem.W.callWith_K (h₀ := X.base) I.ok.mod.kin hk (thn (ha.run pos pins s1 σ _ _ I1 ht) fun us s2 ⟨vs, H2, I2, r, q⟩ => ⟨I2.kIn, run_fnS F hr hb (hx σ) I2 r q⟩) he hpl
/-! ### the holder -/
def HoldAt (CH CC z : Addr) (H : Hp) (h : Addr) (s : Option Kqk6.PipeSystem) : Prop := ∃ (dx : Addr) (v : V), H h = some (.ins CH dx [("crew", v)]) ∧ match s with
  | none => v = .non
  | some p => ∃ a pl al : Addr, v = .ref a ∧ CrewAt CC z H a pl al p
theorem HoldAt.mono {CH CC z : Addr} {H H' : Hp} {h : Addr} {s : Option Kqk6.PipeSystem} (q : HoldAt CH CC z H h s) (e : Same H H') : HoldAt CH CC z H' h s := by
  obtain ⟨dx, v, h1, h2⟩ := q
  refine ⟨dx, v, e _ _ h1, ?_⟩
  cases s with
  | none => exact h2
  | some p =>
    obtain ⟨a, pl, al, h3, h4⟩ := h2
    exact ⟨a, pl, al, h3, h4.mono e⟩
/-- what stands at z may change -/
theorem HoldAt.other {CH CC z : Addr} {H : Hp} {h : Addr} {s : Option Kqk6.PipeSystem} {xs : List V} {o : HO} (q : HoldAt CH CC z H h s) (hz : H z = some (.lst xs)) : HoldAt CH CC z (upd H z o) h s := by
  obtain ⟨dx, v, h1, h2⟩ := q
  refine ⟨dx, v, by rw [upd_ne (ins_ne h1 hz)]; exact h1, ?_⟩
  cases s with
  | none => exact h2
  | some p =>
    obtain ⟨a, pl, al, h3, hc⟩ := h2
    obtain ⟨dc, h4⟩ := hc.obj
    obtain ⟨as, h5, h6⟩ := hc.rows
    refine ⟨a, pl, al, h3, ⟨⟨dc, by rw [upd_ne (ins_ne h4 hz)]; exact h4⟩, ⟨as, by rw [upd_ne hc.z1]; exact h5, h6.mono fun b l q => ⟨q.1, q.2.1, q.2.2.1, ?_⟩⟩, by rw [upd_ne hc.z2]; exact hc.ages, hc.ne, hc.z1, hc.z2, hc.good, hc.va⟩⟩
    show upd H z o b = _
    rw [upd_ne q.1]
    exact q.2.2.2
def Frz (H H' : Hp) : Prop := ∀ b o u, H b = some (.frz o u) → H' b = some (.frz o u)
theorem Frz.of {H H' : Hp} (s : Same H H') : Frz H H' := fun b o u e => s b _ e
theorem Frz.trans {H H1 H2 : Hp} (a : Frz H H1) (b : Frz H1 H2) : Frz H H2 := fun c o u e => b c o u (a c o u e)
/-- the nineteen deeds, in the program's own tuple -/
structure DeedsT (P : Program) (w : World) (K : PySem.W.Frag) (mg : Str → Option Value) (base : Heap) (CC CR : Addr) : Prop where
  ex : ∃ (a : Addr) (fs : List Addr), mg "DEEDS" = some (.ref a) ∧ (∀ H, SqT K H a (.non :: fs.map V.ref)) ∧ ∀ n, n < 19 → ∃ f, fs[n]? = some f ∧ HeldX P w K mg base 5 f (spDeed K CC CR (n + 1))
section
variable {P : Program} {w : World} {K : PySem.W.Frag} {mg : Str → Option Value} {base : Heap} {CC CH CR : Addr}
/-! ### answered -/
def spAd (K : PySem.W.Frag) (CH CC : Addr) : Sp := fun vs H Q _ => ∃ (z h g : Addr) (s : Option Kqk6.PipeSystem) (n : Nat) (given : List Int) (q : Kqk6.Request), vs = [.ref h, iv n, .ref g] ∧ (∃ xs, H z = some (.lst xs)) ∧ HoldAt CH CC z H h s ∧ IntsL K H g given ∧
  ((n = 0 ∧ q = .create) ∨ Enc n given q) ∧
  ∀ (H' : Hp) (t : Addr), HoldAt CH CC z H' h (Kqk6.step s q).1 → H' t = some (.lst ((Kqk6Neutral.fields (Kqk6.step s q).2).map V.int)) → H t = none → H' z = H z → Frz H H' → Q (.ref t) H'
theorem scAd : FnScope ["holder", "number", "given", "deed", "refusal"] ["holder", "number", "given"] (defScope (top 76)) := ⟨rfl, rfl, rfl, by decide +kernel, rfl, by decide +kernel, by decide +kernel⟩
theorem ok_ad {fI fC : Addr} {fdC : FuncData} (T : CrewT K mg CC) (TH : HoldT K mg CH) (TR : RefT K mg CR fI) (MC : Mk K CC fC) (FC : Fun K "__init__" "Crew.__init__" (inClass (top 1) 0) fC fdC) (bC : Binds K fdC ["self"] []) (c0 : Cst mg "CREATE" 0) (c11 : Cst mg "NOT_CREATED" (-11))
    (DT : DeedsT P w K mg base CC CR) (D : Dn K mg "answered" (top 76) ["holder", "number", "given"]) (C0 : Cal P w K mg base (L2.CX P w) 3 "need" ["fulfilled", "number"] (spNeed CR)) : Cal P w K mg base CX0 6 "answered" ["holder", "number", "given"] (spAd K CH CC) := by
  obtain ⟨aD, fs, gD, hDs, hF⟩ := DT.ex
  have GC : FnOk P w K mg base CX0 1 fC fdC ["self"] (spCInit CC) := ok_cinit FC T
  refine D.ok scAd (fun vs H Q E h => ?_) (fun f cdv A outer s0 H vs Q E hr h => ?_)
  · obtain ⟨z, h, g, s, n, given, q, rfl, _⟩ := h
    rfl
  · have hr3 : Room 3 _ := hr.mono (by decide)
    have hr2 : Room 2 _ := hr.mono (by decide)
    refine ⟨_, pss_cons (ps_if (pt_cmpR op_eq (pv 1) (pe_cst c0) (nomark _)) (pss_cons (ps_fld (pv 0) (pe_make0 MC GC hr2 rfl T.g bC .nil pass0) rfl) (pss_one (ps_ret (pe_lst (pa_cons pe_int pa_nil))))) pss_nil)
      (pss_one (ps_try_as (i := 4) (c := .ref CR) (Wout := fun _ _ _ _ => False)
        (tb := fun W => tSeq (tDrop (tCallS (spNeed CR) (WE W) (tCons (tOp (fun x y H Q => y = .non ∧ Q (.bl (!decide (x = .non))) H) (tFld K (tVar 0) "crew") (tC .non)) (tCons (tC (.int (-11))) tNil))))
          (tSeq (tAsg (tOp (rIxT K) (tC (.ref aD)) (tVar 1)) (gName 3)) (tRet (tDeed 3 (WE W) (HeldX P w K mg base 5) (tCons (tFld K (tVar 0) "crew") (tCons (tVar 2) tNil))))))
        (ts := fun a cls d => tRet (tLst (tCons (tXf a cls d CR "number" (tVar 4)) tNil)))
        rfl rfl scAd.nd rfl rfl ⟨rfl, by decide, .inl TR.g⟩ takes0
        (fun W pn xe tk _ => pss_cons (ps_expr (pe_cal C0 hr3 (fun σ => passAt tk σ) (pa_cons (pe_cmpR op_notN (pe_fld (pv 0) rfl) pe_non (nomark _)) (pa_cons (pe_cst c11) pa_nil))))
          (pss_cons (ps_set (i := 3) scAd.nd rfl (.inl rfl) (pe_ix ix_tup (pe_glob (v := .ref aD) rfl gD rfl) (pv 1) (fun _ _ => rfl)))
          (pss_one (ps_ret (pe_deed (i := 3) hr (fun σ => passAt tk σ) (pa_cons (pe_fld (pv 0) rfl) (pa_cons (pv 2) pa_nil)))))))
        (fun a oe cls d pn hz hf => pss_one (ps_ret (pe_lst (pa_cons (pe_xf TR.xf TR.no hz hf (pv 4)) pa_nil)))))), ?_⟩
    obtain ⟨z, h, g, s, n, given, q, rfl, ⟨zs, hz⟩, hold, hg, hq, wish⟩ := h
    obtain ⟨dxh, v, hh, hv⟩ := id hold
    have nhz : h ≠ z := ins_ne hh hz
    refine ⟨_, rfl, rfl, _, rfl, ifB (fun e => ?_) (fun e => ?_)⟩
    · -- create
      have e0 : ((n : Nat) : Int) = 0 := eqB e
      have hq' : q = .create := by
        rcases hq with ⟨_, h⟩ | h
        · exact h
        · have := (enc_pos h).1
          omega
      subst hq'
      intro x dx nx nd ne
      refine ⟨x, dx, rfl, upd_same, fun H1 pl al kp hx hpl hal npa h1 h2 => ⟨rfl, ?_⟩⟩
      have s1 : Same H H1 := Same.made nx nd kp
      have nhx : h ≠ x := ne_of_none hh nx
      refine ⟨_, rfl, h, CH, dxh, _, rfl, s1 _ _ hh, TH.cl, TH.nC, (by show 1 < 1000; decide), ?_⟩
      rw [put_here]
      refine ⟨(by show 1 ≤ sizeLine; decide), fun t ht => ?_⟩
      have u := same_upd (o := .lst [V.int 0]) ht
      have k : ∀ b o, H1 b = some o → b ≠ h → upd (upd H1 h (.ins CH dxh [("crew", .ref x)])) t (.lst [V.int 0]) b = some o := fun b o e n => u b o (by rw [upd_ne n]; exact e)
      have hz1 := s1 _ _ hz
      have zin : ∀ {b : Addr}, (upd (upd H dx (.own x)) x (.ins CC dx [])) b = none → b ≠ z := fun {b} e1 e2 => by
        have nzx : z ≠ x := ne_of_none hz nx
        rw [e2, upd_ne nzx, upd_ne (ne_of_none hz nd), hz] at e1
        cases e1
      have hxin : (upd (upd H dx (.own x)) x (.ins CC dx [])) x = some (.ins CC dx []) := upd_same
      refine wish _ t ⟨dxh, .ref x, u _ _ upd_same, x, pl, al, rfl, ⟨⟨dx, k _ _ hx (Ne.symm nhx)⟩, ⟨[], k _ _ h1 (fun e2 => ?_), Al.nil⟩, k _ _ h2 (fun e2 => ?_), npa, zin hpl, zin hal, ⟨by decide, (fun l h => by cases h), (fun l h => by cases h), (fun l h => by cases h)⟩, trivial⟩⟩ upd_same ?_ ?_ (fun b o u' e2 => ?_)
      · rw [e2, upd_ne nhx, upd_ne (ne_of_none hh nd), hh] at hpl; cases hpl
      · rw [e2, upd_ne nhx, upd_ne (ne_of_none hh nd), hh] at hal; cases hal
      · have nth : h ≠ t := ne_of_none upd_same ht
        rw [upd_ne (Ne.symm nth)] at ht
        exact s1.free ht
      · rw [k _ _ hz1 (Ne.symm nhz), hz]
      · exact k _ _ (s1 _ _ e2) fun e3 => by rw [e3, hh] at e2; cases e2
    · have e0 : ((n : Nat) : Int) ≠ 0 := eqB0 e
      have hE : Enc n given q := by
        rcases hq with ⟨h, _⟩ | h
        · omega
        · exact h
      obtain ⟨_, hn20⟩ := enc_pos hE
      -- how a refusal ends
      have refused : ∀ (σ' : L2.St) (m : Int), σ'.length = 5 → Kqk6.step s q = (s, .value m) → Rz CR (fun cls d H' => wAs K (.ref CR) 4 (fun a cls d => tRet (tLst (tCons (tXf a cls d CR "number" (tVar 4)) tNil))) (fun _ _ _ _ => False) { nx := fun _ H' => Q .non H', rt := Q } cls d σ' H') H m := by
        intro σ' m hl hst H' d s1 hd
        refine ⟨true, TR.te, fun _ ea hea => ?_, fun e => Bool.noConfusion e⟩
        refine ⟨.ref ea, set_slot (by omega), rfl, rfl, d, _, .int m, rfl, hd, lk_here, (by show 1 ≤ sizeLine; decide), fun t ht => ?_⟩
        have u := s1.trans (same_upd (o := .lst [V.int m]) ht)
        refine wish _ t ?_ ?_ (s1.free ht) (by rw [u _ _ hz, hz]) (Frz.of u)
        · rw [hst]
          exact hold.mono u
        · rw [hst]
          exact upd_same
      refine ⟨_, rfl, h, CH, dxh, _, _, rfl, hh, TH.cl, TH.nC, lk_here, rfl, _, _, rfl, fun e1 => ?_, fun e1 => ?_⟩
      · cases s with
        | none =>
          rw [show v = .non from hv] at e1
          simp at e1
        | some p =>
          obtain ⟨a, pl, al, ev, hc⟩ := hv
          subst ev
          obtain ⟨fD, hfD, hHeld⟩ := hF (n - 1) (by omega)
          have hn1 : n - 1 + 1 = n := by omega
          rw [hn1] at hHeld
          have hat : atI (V.non :: fs.map V.ref) ((n : Nat) : Int) = some (.ref fD) := atI_nat (by
            obtain ⟨n', rfl⟩ : ∃ n', n = n' + 1 := ⟨n - 1, by omega⟩
            show (fs.map V.ref)[n']? = _
            rw [List.getElem?_map]
            have e4 : fs[n']? = some fD := hfD
            rw [e4]
            rfl)
          refine ⟨_, rfl, aD, _, _, _, rfl, rfl, hDs _, hat, fD, _, rfl, hHeld, _, rfl, h, CH, dxh, _, _, rfl, hh, TH.cl, TH.nC, lk_here, _, rfl, ?_⟩
          obtain ⟨dc, h4⟩ := hc.obj
          obtain ⟨as, h5, _⟩ := hc.rows
          have nha : h ≠ a := ne_of hh h4 (fun e => by injection e with _ _ e; simp [crewF] at e)
          have nhp : h ≠ pl := ins_ne hh h5
          have nhl : h ≠ al := ins_ne hh hc.ages
          refine ⟨z, a, g, pl, al, p, given, q, rfl, ⟨zs, hz⟩, hc, hg, hE, fun H' t pl' al' p' e2 fr hc' ht ht0 => ?_, fun m e2 => refused _ m rfl e2⟩
          refine wish H' t ?_ ht ht0 ?_ (fun b o u e3 => fr b _ e3 (fun z1 => ?_) (fun z1 => ?_) (fun z1 => ?_))
          · rw [e2]
            exact ⟨dxh, .ref a, fr _ _ hh nha nhp nhl, a, pl', al', rfl, hc'⟩
          · rw [fr _ _ hz (Ne.symm (ins_ne h4 hz)) (Ne.symm hc.z1) (Ne.symm hc.z2), hz]
          · rw [z1, h4] at e3; cases e3
          · rw [z1, h5] at e3; cases e3
          · rw [z1, hc.ages] at e3; cases e3
      · cases s with
        | none => exact refused _ _ rfl (step_none hE)
        | some p =>
          obtain ⟨a, pl, al, ev, hc⟩ := hv
          rw [ev] at e1
          simp at e1
end
end Pc
namespace Pc
open PySem PySem.Spec PyProof.Rows L2 Crewm
theorem asked_parts {ns : List Int} (h : PyKqk6.answers_asked ns = true) : ∃ cs, PyFlat.calls PyKqk6.shape ns.length ns = some cs ∧ (∀ c, c ∈ cs → Kqk6Neutral.asked1 (PyKqk6.whole c) = true) ∧ PyKqk6.answers ns = PyFlat.told (PyFlat.played Kqk6Neutral.step none (cs.map PyKqk6.whole)) ∧ (PyKqk6.answers ns).length ≤ 10000000 := by
  unfold PyKqk6.answers_asked at h
  cases e : PyFlat.calls PyKqk6.shape ns.length ns with
  | none => rw [e] at h; cases h
  | some cs =>
    rw [e] at h
    have h' : (!cs.isEmpty && PyFlat.atMost 200 cs && PyInside.calls PyKqk6.bound cs && Kqk6Neutral.asked (cs.map PyKqk6.whole) && PyFlat.short 10000000 (PyKqk6.answers ns)) = true := h
    rw [Bool.and_eq_true, Bool.and_eq_true] at h'
    obtain ⟨⟨_, h2⟩, h3⟩ := h'
    have h4 : (!(cs.map PyKqk6.whole).isEmpty && ((cs.map PyKqk6.whole).all Kqk6Neutral.asked1 && decide ((cs.map PyKqk6.whole).length ≤ 200)) && Kqk6Neutral.outputIsSmall (cs.map PyKqk6.whole)) = true := h2
    rw [Bool.and_eq_true, Bool.and_eq_true, Bool.and_eq_true] at h4
    have h5 := h4.1.2.1
    rw [List.all_eq_true] at h5
    refine ⟨cs, rfl, fun c hc => h5 _ (List.mem_map.mpr ⟨c, hc, rfl⟩), ?_, of_decide_eq_true h3⟩
    unfold PyKqk6.answers PyKqk6.calls
    rw [e]
    rfl
section
variable {P : Program} {w : World} {K : PySem.W.Frag} {mg : Str → Option Value} {base : Heap} {CC CH CR : Addr}
/-! ### answers -/
def spAll (K : PySem.W.Frag) : Sp := fun vs H Q _ => ∃ (c : Addr) (ns : List Int), vs = [.ref c] ∧ (∀ H', Frz H H' → IntsL K H' c ns) ∧ PyKqk6.answers_asked ns = true ∧ ns.length ≤ 12800 ∧
  ∀ (H' : Hp) (r : Addr), H' r = some (.lst ((PyKqk6.answers ns).map V.int)) → Q (.ref r) H'
theorem scAll : FnScope ["calls", "holder", "found", "at", "given", "beyond", "told"] ["calls"] (defScope (top 78)) := ⟨rfl, rfl, rfl, by decide +kernel, rfl, by decide +kernel, by decide +kernel⟩
theorem ok_all {f fH : Addr} {fd fdH : FuncData} (B : Blt mg) (TH : HoldT K mg CH) (MH : Mk K CH fH) (FH : Fun K "__init__" "Holder.__init__" (inClass (top 2) 0) fH fdH) (bH : Binds K fdH ["self"] []) (F : Fun K "answers" "answers" (top 78) f fd)
    (C1 : Cal P w K mg base CX0 1 "handed_over" ["calls", "at"] (spHO K)) (C2 : Cal P w K mg base CX0 6 "answered" ["holder", "number", "given"] (spAd K CH CC)) : FnOk P w K mg base CX0 7 f fd ["calls"] (spAll K) := by
  have GH : FnOk P w K mg base CX0 1 fH fdH ["self"] (spHInit CH) := ok_hinit FH TH
  refine F.ok scAll (fun vs H Q E h => ?_) (fun cdv A outer s0 H vs Q E hr h => ?_)
  · obtain ⟨c, ns, rfl, _⟩ := h
    rfl
  · have hr1 : Room 1 _ := hr.mono (by decide)
    have hr2 : Room 2 _ := hr.mono (by decide)
    refine ⟨_, pss_cons (ps_par3 (i := 1) (j := 2) (l := 3) (by rfl) scAll.nd rfl rfl rfl (by decide) (by decide) (by decide) rfl rfl rfl (pa_cons (pe_make0 MH GH hr2 rfl TH.g bH .nil pass0) (pa_cons (pe_lst pa_nil) (pa_cons pe_int pa_nil))) (by rfl))
      (pss_cons (ps_while PassesOwn.never (pt_cmpR op_lt (pv 3) (pe_callB call_len_seq (by rfl) B.len PySem.boot_len (pa_cons (pv 0) pa_nil)) (nomark _))
        (pss_cons (ps_asg (pe_cal (E := E1) C1 hr1 pass1 (pa_cons (pv 0) (pa_cons (pv 3) pa_nil))) (pg_tup (by rfl) (pgs_cons (pg_name (i := 4) scAll.nd rfl (.inl rfl)) (pgs_cons (pg_name (i := 5) scAll.nd rfl (.inl rfl)) pgs_nil))))
        (pss_cons (ps_set (i := 6) scAll.nd rfl (.inl rfl) (pe_cal (E := E1) C2 hr pass1 (pa_cons (pv 1) (pa_cons (pe_ix ix_list (pv 0) (pv 3) (fun _ _ => rfl)) (pa_cons (pv 4) pa_nil)))))
        (pss_cons (ps_expr (pe_bm PySem.F.plainAttrs_list PySem.F.slot_list_append PySem.F.type_list_append mt_append (pv 2) (pa_cons (pe_callB call_len_seq (by rfl) B.len PySem.boot_len (pa_cons (pv 6) pa_nil)) pa_nil)))
        (pss_cons (ps_expr (pe_bm PySem.F.plainAttrs_list PySem.F.slot_list_extend PySem.F.type_list_extend mt_extend (pv 2) (pa_cons (pv 6) pa_nil)))
        (pss_one (ps_set (i := 3) scAll.nd rfl (.inl rfl) (pv 5))))))))
      (pss_one (ps_ret (pv 2)))), ?_⟩
    obtain ⟨c, ns, rfl, hc, hasked, hlen, q⟩ := h
    obtain ⟨cs0, hcs0, hok0, hans, hbig⟩ := asked_parts hasked
    have hbig2 : (10000000 : Nat) < sizeLine := by decide
    intro x dx nx nd ne
    refine ⟨x, dx, rfl, upd_same, fun H1 kp hx => ⟨rfl, (by show 0 ≤ sizeLine; decide), fun fa hfa => ⟨_, _, _, rfl, ?_⟩⟩⟩
    have s1 : Same H H1 := Same.made nx nd kp
    have s2 := s1.trans (same_upd (o := .lst []) hfa)
    refine while_by (fun σ H' => ∃ (i : Nat) (F : List Int) (s : Option Kqk6.PipeSystem) (fu : Nat) (cs : List (List (List Int))) (v4 v5 v6 : Option V), σ = [some (.ref c), some (.ref x), some (.ref fa), some (iv i), v4, v5, v6] ∧ Frz H H' ∧ H' fa = some (.lst (F.map V.int)) ∧
        HoldAt CH CC fa H' x s ∧ PyFlat.calls PyKqk6.shape fu (ns.drop i) = some cs ∧ (∀ c, c ∈ cs → Kqk6Neutral.asked1 (PyKqk6.whole c) = true) ∧ F ++ PyFlat.told (PyFlat.played Kqk6Neutral.step s (cs.map PyKqk6.whole)) = PyKqk6.answers ns)
      (fun σ _ => ns.length - slotN 3 σ) ⟨0, [], none, _, cs0, none, none, none, rfl, Frz.of s2, upd_same, ⟨dx, .non, same_upd hfa _ _ hx, rfl⟩, hcs0, hok0, by rw [List.nil_append, hans]⟩ ?_ ?_
    · rintro σ H' ⟨i, F, s, fu, cs, v4, v5, v6, rfl, hfr, hF, hold, hcs, hoks, heq⟩
      have hcL := hc H' hfr
      have hml : (ns.map V.int).length = ns.length := List.length_map _
      refine ⟨_, rfl, _, rfl, c, _, rfl, .inl hcL, _, _, rfl, rfl, _, rfl, ifB (fun e => ?_) (fun e => ?_)⟩
      · have e1 : ((i : Nat) : Int) < ((ns.map V.int).length : Int) := decT e
        rw [hml] at e1
        have hil : i < ns.length := by omega
        have hdrop : ns.drop i = ns[i] :: ns.drop (i + 1) := List.drop_eq_getElem_cons hil
        rw [hdrop] at hcs
        obtain ⟨fu', cl, t, cs', rfl, hcall, hrest⟩ := calls_cons hcs
        obtain ⟨given, n, m, hcut⟩ := call_cut hcall
        obtain ⟨rq, hrq, henc⟩ := enc_of hcut (hoks cl (List.Mem.head _))
        have hp : ∃ pn : Nat, ns[i] = (pn : Int) := by
          cases hcut with
          | plain hs _ => obtain ⟨j, e, _⟩ := shape_cases hs; exact ⟨j, e⟩
          | more hs _ _ _ => obtain ⟨j, e, _⟩ := shape_cases hs; exact ⟨j, e⟩
        obtain ⟨pn, hpn⟩ := hp
        have hgi : ns[i]? = some (pn : Int) := by rw [List.getElem?_eq_getElem hil, hpn]
        have hti : t = ns.drop (i + 1 + n + m) := by
          have e0 : ∀ r : List Int, r = ns.drop (i + 1) → ∀ {cl given t n m}, Cut (ns[i]) r cl given t n m → t = ns.drop (i + 1 + n + m) := by
            intro r hr cl given t n m h
            cases h with
            | plain _ _ => rw [hr, List.drop_drop]; rfl
            | @more _ m' r' _ _ h3 _ =>
              have e := congrArg (List.drop (m' + 1)) h3
              rw [hr, List.drop_drop, List.drop_drop] at e
              rw [List.drop_succ_cons] at e
              rw [← e]
              congr 1
              omega
          exact e0 _ rfl hcut
        have hstep := step_of (s := s) hrq
        have hheq : F ++ (((Kqk6Neutral.fields (Kqk6.step s rq).2).length : Int) :: Kqk6Neutral.fields (Kqk6.step s rq).2) ++ PyFlat.told (PyFlat.played Kqk6Neutral.step (Kqk6.step s rq).1 (cs'.map PyKqk6.whole)) = PyKqk6.answers ns := by
          rw [← heq, List.map_cons, told_cons, hstep, List.append_assoc]
        have hsz : F.length + 1 + (Kqk6Neutral.fields (Kqk6.step s rq).2).length ≤ 10000000 := by
          have := congrArg List.length hheq
          rw [List.length_append, List.length_append, List.length_cons] at this
          omega
        obtain ⟨out, hout⟩ : ∃ out, Kqk6Neutral.fields (Kqk6.step s rq).2 = out := ⟨_, rfl⟩
        rw [hout] at hheq hsz
        have henc2 : (pn = 0 ∧ rq = .create) ∨ Enc pn given rq := by
          rw [hpn] at henc
          rcases henc with ⟨h1, h2⟩ | h1
          · exact .inl ⟨by omega, h2⟩
          · exact .inr h1
        refine ⟨_, rfl, _, rfl, c, ns, i, ns[i], ns.drop (i + 1), cl, given, t, n, m, rfl, hcL, by omega, hdrop, hcut, fun H2 xx g s3 hxx hg => ?_⟩
        refine ⟨xx, _, rfl, SqT.of hxx, rfl, _, _, rfl, _, _, rfl, rfl, ?_⟩
        have h2f := s3 _ _ hF
        refine ⟨_, rfl, _, rfl, _, rfl, c, _, _, _, rfl, rfl, hcL.same s3, at_map hgi, _, rfl, fa, x, g, s, pn, given, rq, rfl, ⟨_, h2f⟩, hold.mono s3, SqL.of hg, henc2, fun H3 t3 hold3 ht3 ht30 hz3 hfr3 => ?_⟩
        rw [hout] at ht3
        have h3f : H3 fa = some (.lst (F.map V.int)) := by rw [hz3]; exact h2f
        have ntf : t3 ≠ fa := fun e => by rw [e, h2f] at ht30; cases ht30
        refine ⟨_, rfl, .inl ⟨rfl, _, SqL.of h3f⟩, _, rfl, t3, _, rfl, .inl (SqL.of ht3), fa, _, _, rfl, rfl, h3f, by rw [List.length_map]; omega, ?_⟩
        refine ⟨_, rfl, .inl ⟨rfl, _, SqL.of upd_same⟩, _, rfl, fa, t3, _, _, rfl, rfl, upd_same, by rw [upd_ne ntf]; exact ht3, ?_, ?_⟩
        · rw [List.length_append, List.length_map, List.length_map]
          show F.length + 1 + out.length ≤ sizeLine
          omega
        · rw [upd_upd]
          refine ⟨_, rfl, ⟨i + 1 + n + m, F ++ ((out.length : Int) :: out), (Kqk6.step s rq).1, fu', cs', _, _, _, rfl, ?_, ?_, hold3.other h3f, by rw [← hti]; exact hrest, fun d hd => hoks d (List.Mem.tail _ hd), hheq⟩, ?_⟩
          · refine (hfr.trans (Frz.of s3)).trans (hfr3.trans fun b o u e => ?_)
            rw [upd_ne (fun z => by rw [z, h3f] at e; cases e)]
            exact e
          · rw [upd_same, List.map_append, List.length_map, List.append_assoc]
            rfl
          · show ns.length - ((i + 1 + n + m : Nat) : Int).toNat < ns.length - ((i : Nat) : Int).toNat
            omega
      · have e1 : ¬ ((i : Nat) : Int) < ((ns.map V.int).length : Int) := decF e
        rw [hml] at e1
        have hd : ns.drop i = [] := List.drop_of_length_le (by omega)
        rw [hd] at hcs
        have := calls_nil hcs
        subst this
        have e2 : F = PyKqk6.answers ns := by
          rw [← heq]
          show F = F ++ []
          rw [List.append_nil]
        refine ⟨_, rfl, q H' fa ?_⟩
        rw [← e2]
        exact hF
    · rintro σ H' Q1 Q2 hQ ⟨v, e, v2, e2, p, ys, e3, e4, i, j, e5, e6, k, e7, z⟩
      exact ⟨v, e, v2, e2, p, ys, e3, e4, i, j, e5, e6, k, e7, hQ _ _ z⟩
end
end Pc
namespace Pc
open PySem PySem.Spec PyProof.Rows L2 Crewm
/-! ### what the top has written -/
def deedNames : List Str := ["add_pipe", "remove_pipe", "operate", "operate_days", "show_ages", "output_if", "show_best_total", "show_best_choice", "show_best_mean", "cycle_mean", "attains_best_mean", "proves_bound", "mean_with_interval", "best_mean_alone", "output_without_cleaning", "clean_all", "most_degraded", "show_state_count", "summary"]
structure Facts (K : PySem.W.Frag) (mg : Str → Option Value) (CC CH CR fC fH fR : Addr) : Prop where
  B : Blt mg
  T : CrewT K mg CC
  TH : HoldT K mg CH
  TR : RefT K mg CR fR
  MC : Mk K CC fC
  MH : Mk K CH fH
  FC : ∃ fd, Fun K "__init__" "Crew.__init__" (inClass (top 1) 0) fC fd ∧ Binds K fd ["self"] []
  FH : ∃ fd, Fun K "__init__" "Holder.__init__" (inClass (top 2) 0) fH fd ∧ Binds K fd ["self"] []
  FR : ∃ fd, Fun K "__init__" "Refused.__init__" (inClass (top 28) 0) fR fd ∧ Binds K fd ["self", "number"] []
  NU : TupC K mg "NUMBERS" numbersL
  WL : TupC K mg "WITH_LISTS" listsL
  DE : ∃ (a : Addr) (fs : List Addr), mg "DEEDS" = some (.ref a) ∧ (∀ H, SqT K H a (.non :: fs.map V.ref)) ∧ ∀ (n : Nat) (x : Str), deedNames[n]? = some x → ∃ f : Addr, fs[n]? = some f ∧ mg x = some (.ref f)
  c_NOT_CREATED : Cst mg "NOT_CREATED" (-11)
  c_NO_PIPE : Cst mg "NO_PIPE" (-2)
  c_OUT_OF_RANGE : Cst mg "OUT_OF_RANGE" (-22)
  c_TOO_MANY : Cst mg "TOO_MANY" (-28)
  c_NO_PIPES : Cst mg "NO_PIPES" (-6)
  c_NO_CYCLE : Cst mg "NO_CYCLE" (-33)
  c_MOST_PIPES : Cst mg "MOST_PIPES" 3
  c_MOST_OUTPUTS : Cst mg "MOST_OUTPUTS" 4
  c_MOST_OUTPUT : Cst mg "MOST_OUTPUT" 100
  c_MOST_CHOICES : Cst mg "MOST_CHOICES" 20
  c_MOST_DAYS : Cst mg "MOST_DAYS" 8
  c_MOST_NUMERATOR : Cst mg "MOST_NUMERATOR" 100000
  c_MOST_DENOMINATOR : Cst mg "MOST_DENOMINATOR" 100
  c_MOST_POTENTIAL : Cst mg "MOST_POTENTIAL" 10000
  c_MOST_INTERVAL : Cst mg "MOST_INTERVAL" 20
  c_CREATE : Cst mg "CREATE" 0
  d_day_output : Dn K mg "day_output" (top 4) ["pipes", "ages", "choice"]
  d_ages_after : Dn K mg "ages_after" (top 5) ["pipes", "ages", "choice"]
  d_run_through : Dn K mg "run_through" (top 6) ["pipes", "ages", "choices"]
  d_count_states : Dn K mg "count_states" (top 8) ["pipes"]
  d_place_of : Dn K mg "place_of" (top 9) ["pipes", "ages"]
  d_all_states : Dn K mg "all_states" (top 10) ["pipes"]
  d_all_moves : Dn K mg "all_moves" (top 11) ["pipes"]
  d_lowest : Dn K mg "lowest" (top 13) ["above", "below"]
  d_is_less : Dn K mg "is_less" (top 14) ["one", "other"]
  d_one_day_more : Dn K mg "one_day_more" (top 15) ["moves", "row"]
  d_walk_rows : Dn K mg "walk_rows" (top 16) ["moves"]
  d_least_rise : Dn K mg "least_rise" (top 17) ["rows", "place"]
  d_best_mean : Dn K mg "best_mean" (top 18) ["pipes"]
  d_proves : Dn K mg "proves" (top 19) ["pipes", "numerator", "denominator", "potentials"]
  d_interval_mean : Dn K mg "interval_mean" (top 20) ["outputs", "interval"]
  d_need : Dn K mg "need" (top 29) ["fulfilled", "number"]
  d_best_of : Dn K mg "best_of" (top 31) ["row", "totals"]
  d_totals_for : Dn K mg "totals_for" (top 32) ["moves", "days"]
  d_best_total : Dn K mg "best_total" (top 33) ["pipes", "ages", "days"]
  d_best_choice : Dn K mg "best_choice" (top 34) ["pipes", "ages", "days"]
  d_need_pipe : Dn K mg "need_pipe" (top 45) ["crew", "pipe"]
  d_need_choices : Dn K mg "need_choices" (top 46) ["crew", "choices"]
  d_need_some_pipes : Dn K mg "need_some_pipes" (top 47) ["crew"]
  d_are_outputs : Dn K mg "are_outputs" (top 48) ["outputs"]
  d_add_pipe : Dn K mg "add_pipe" (top 49) ["crew", "given"]
  d_remove_pipe : Dn K mg "remove_pipe" (top 50) ["crew", "given"]
  d_pass_days : Dn K mg "pass_days" (top 51) ["crew", "choices"]
  d_operate : Dn K mg "operate" (top 52) ["crew", "given"]
  d_operate_days : Dn K mg "operate_days" (top 53) ["crew", "given"]
  d_show_ages : Dn K mg "show_ages" (top 54) ["crew", "given"]
  d_output_if : Dn K mg "output_if" (top 55) ["crew", "given"]
  d_show_best_total : Dn K mg "show_best_total" (top 56) ["crew", "given"]
  d_show_best_choice : Dn K mg "show_best_choice" (top 57) ["crew", "given"]
  d_show_best_mean : Dn K mg "show_best_mean" (top 58) ["crew", "given"]
  d_mean_of : Dn K mg "mean_of" (top 59) ["crew", "choices"]
  d_cycle_mean : Dn K mg "cycle_mean" (top 60) ["crew", "given"]
  d_attains_best_mean : Dn K mg "attains_best_mean" (top 61) ["crew", "given"]
  d_are_potentials : Dn K mg "are_potentials" (top 62) ["potentials"]
  d_proves_bound : Dn K mg "proves_bound" (top 63) ["crew", "given"]
  d_mean_with_interval : Dn K mg "mean_with_interval" (top 64) ["crew", "given"]
  d_best_mean_alone : Dn K mg "best_mean_alone" (top 65) ["crew", "given"]
  d_output_without_cleaning : Dn K mg "output_without_cleaning" (top 66) ["crew", "given"]
  d_clean_all : Dn K mg "clean_all" (top 67) ["crew", "given"]
  d_most_degraded : Dn K mg "most_degraded" (top 68) ["crew", "given"]
  d_show_state_count : Dn K mg "show_state_count" (top 69) ["crew", "given"]
  d_summary : Dn K mg "summary" (top 70) ["crew", "given"]
  d_answered : Dn K mg "answered" (top 76) ["holder", "number", "given"]
  d_handed_over : Dn K mg "handed_over" (top 77) ["calls", "at"]
theorem held_of {P : Program} {w : World} {K : PySem.W.Frag} {mg : Str → Option Value} {base : Heap} {k : Nat} {x : Str} {ps : List Str} {sp : Sp} {f : Addr} (C : Cal P w K mg base (L2.CX P w) k x ps sp) (h : mg x = some (.ref f)) : HeldX P w K mg base k f sp := by
  obtain ⟨f', fd, h1, h2, h3, h4⟩ := C.ex
  have e := h1.symm.trans h
  cases e
  exact ⟨fd, ps, h2, h3, h4⟩
section
variable {P : Program} {w : World} {K : PySem.W.Frag} {mg : Str → Option Value} {CC CH CR fC fH fR : Addr}
theorem all_ok (X : Facts K mg CC CH CR fC fH fR) {f : Addr} {fd : FuncData} (F : Fun K "answers" "answers" (top 78) f fd) (base : Heap) : FnOk P w K mg base CX0 7 f fd ["calls"] (spAll K) := by
  obtain ⟨fdC, FC, bC⟩ := X.FC
  obtain ⟨fdH, FH, bH⟩ := X.FH
  obtain ⟨fdR, FR, bR⟩ := X.FR
  have day : Cal P w K mg base CX0 1 _ _ _ := ok_day X.B X.d_day_output
  have after : Cal P w K mg base CX0 1 _ _ _ := ok_after X.B X.d_ages_after
  have run : Cal P w K mg base CX0 2 _ _ _ := ok_run X.B X.d_run_through day after
  have count : Cal P w K mg base CX0 1 _ _ _ := ok_count X.B X.d_count_states
  have place : Cal P w K mg base CX0 1 _ _ _ := ok_place X.B X.d_place_of
  have states : Cal P w K mg base CX0 1 _ _ _ := ok_states X.B X.d_all_states
  have moves : Cal P w K mg base CX0 2 _ _ _ := ok_moves X.B X.d_all_moves states place after day
  have low : Cal P w K mg base CX0 1 _ _ _ := ok_low X.d_lowest
  have less : Cal P w K mg base CX0 1 _ _ _ := ok_less X.d_is_less
  have more : Cal P w K mg base CX0 1 _ _ _ := ok_more X.B X.d_one_day_more
  have rows : Cal P w K mg base CX0 2 _ _ _ := ok_rows X.B X.d_walk_rows more
  have rise : Cal P w K mg base CX0 2 _ _ _ := ok_rise X.B X.d_least_rise less
  have mean : Cal P w K mg base CX0 3 _ _ _ := ok_mean X.B X.d_best_mean moves rows rise less low
  have prov : Cal P w K mg base CX0 3 _ _ _ := ok_proves X.B X.d_proves moves
  have inte : Cal P w K mg base CX0 2 _ _ _ := ok_int X.B X.d_interval_mean low
  have best : Cal P w K mg base CX0 1 _ _ _ := ok_best X.B X.d_best_of
  have tot : Cal P w K mg base CX0 2 _ _ _ := ok_tot X.B X.d_totals_for best
  have bt : Cal P w K mg base CX0 3 _ _ _ := ok_bt X.d_best_total moves tot place
  have bc : Cal P w K mg base CX0 3 _ _ _ := ok_bc X.B X.d_best_choice moves tot place best
  have need : Cal P w K mg base (L2.CX P w) 3 _ _ _ := ok_need X.TR FR bR X.d_need
  have np : Cal P w K mg base (L2.CX P w) 4 _ _ _ := ok_np X.B X.T X.c_NO_PIPE X.d_need_pipe need
  have nc : Cal P w K mg base (L2.CX P w) 4 _ _ _ := ok_nc X.B X.T X.c_NO_PIPE X.d_need_choices need
  have ns : Cal P w K mg base (L2.CX P w) 4 _ _ _ := ok_ns X.T X.c_NO_PIPES X.d_need_some_pipes need
  have ao : Cal P w K mg base CX0 1 _ _ _ := ok_ao X.B X.c_MOST_OUTPUTS X.c_MOST_OUTPUT X.d_are_outputs
  have pd : Cal P w K mg base CX0 3 _ _ _ := ok_pd X.B X.T X.d_pass_days run
  have mo : Cal P w K mg base CX0 3 _ _ _ := ok_mo X.B X.T X.d_mean_of run low
  have ap : Cal P w K mg base CX0 1 _ _ _ := ok_ap X.c_MOST_POTENTIAL X.d_are_potentials
  obtain ⟨aD, fs, gD, hD, hN⟩ := X.DE
  have deeds : DeedsT P w K mg base CC CR := by
    refine ⟨aD, fs, gD, hD, fun n hn => ?_⟩
    have go : ∀ x, deedNames[n]? = some x → Cal P w K mg base (L2.CX P w) 5 x ["crew", "given"] (spDeed K CC CR (n + 1)) → ∃ f, fs[n]? = some f ∧ HeldX P w K mg base 5 f (spDeed K CC CR (n + 1)) := fun x hx C => by
      obtain ⟨f, h1, h2⟩ := hN n x hx
      exact ⟨f, h1, held_of C h2⟩
    have hc : n = 0 ∨ n = 1 ∨ n = 2 ∨ n = 3 ∨ n = 4 ∨ n = 5 ∨ n = 6 ∨ n = 7 ∨ n = 8 ∨ n = 9 ∨ n = 10 ∨ n = 11 ∨ n = 12 ∨ n = 13 ∨ n = 14 ∨ n = 15 ∨ n = 16 ∨ n = 17 ∨ n = 18 := by omega
    rcases hc with rfl | rfl | rfl | rfl | rfl | rfl | rfl | rfl | rfl | rfl | rfl | rfl | rfl | rfl | rfl | rfl | rfl | rfl | rfl
    · exact go _ rfl (ok_add X.B X.T X.c_MOST_PIPES X.c_OUT_OF_RANGE X.c_TOO_MANY X.d_add_pipe need ao)
    · exact go _ rfl (ok_rem X.B X.T X.d_remove_pipe np)
    · exact go _ rfl (ok_op X.d_operate nc pd)
    · exact go _ rfl (ok_ods X.B X.c_MOST_CHOICES X.c_OUT_OF_RANGE X.d_operate_days need nc pd)
    · exact go _ rfl (ok_sa X.B X.T X.d_show_ages)
    · exact go _ rfl (ok_oi X.T X.d_output_if nc day)
    · exact go _ rfl (ok_st X.T X.c_MOST_DAYS X.c_OUT_OF_RANGE X.d_show_best_total need bt)
    · exact go _ rfl (ok_sc X.T X.c_MOST_DAYS X.c_OUT_OF_RANGE X.d_show_best_choice need bc)
    · exact go _ rfl (ok_sm X.B X.T X.d_show_best_mean ns mean)
    · exact go _ rfl (ok_cm X.B X.c_MOST_CHOICES X.c_OUT_OF_RANGE X.c_NO_CYCLE X.d_cycle_mean need nc mo)
    · exact go _ rfl (ok_ab X.B X.T X.c_MOST_CHOICES X.c_OUT_OF_RANGE X.d_attains_best_mean need nc mo ns mean)
    · exact go _ rfl (ok_pb X.B X.T X.c_MOST_DENOMINATOR X.c_MOST_NUMERATOR X.c_OUT_OF_RANGE X.d_proves_bound need ap ns count prov)
    · exact go _ rfl (ok_mi X.B X.T X.c_MOST_INTERVAL X.c_OUT_OF_RANGE X.d_mean_with_interval need np inte)
    · exact go _ rfl (ok_ba X.B X.T X.d_best_mean_alone np mean)
    · exact go _ rfl (ok_ow X.B X.T X.d_output_without_cleaning)
    · exact go _ rfl (ok_cl X.B X.T X.d_clean_all)
    · exact go _ rfl (ok_md X.B X.T X.d_most_degraded ns)
    · exact go _ rfl (ok_ss X.T X.d_show_state_count count)
    · exact go _ rfl (ok_su X.B X.T X.d_summary)
  have ad : Cal P w K mg base CX0 6 _ _ _ := ok_ad X.T X.TH X.TR X.MC FC bC X.c_CREATE X.c_NOT_CREATED deeds X.d_answered need
  have ho : Cal P w K mg base CX0 1 _ _ _ := ok_ho X.NU X.WL X.d_handed_over
  exact ok_all X.B X.TH X.MH FH bH F ho ad
/-! ### the facts, one kind each -/
variable {h : Heap}
theorem dn_mk {x : Str} {st : Stmt} {ps : List Str} {a : Addr} {od an : Option Addr} {sl : Array (Option Value)} {oc kV dc pm cd ct : Value} (X : K.In h) (G : h.Ns mainGlobals mg) (hb : ∀ (kV doc pm : Value) (an : Option Addr) (cdv ct : Value) (us : List Value), us.length = ps.length → bindArgs (PySem.W.fnOf x x (defArgs st) (defBody st) (defScope st) .none kV doc pm an cdv ct) ⟨us, []⟩ = pure (ps.zip us))
    (e : PySem.W.nsIn K mainGlobals x = some (some (.ref a))) (l : K.lookup a = some ⟨oc, od, .func (PySem.W.fnOf x x (defArgs st) (defBody st) (defScope st) .none kV dc pm an cd ct), sl⟩) (c : PySem.W.codeIn K cd x = true) (k : PySem.W.keepIn K (.ref a) = true) : Dn K mg x st ps :=
  ⟨a, _, PySem.W.mg_of X G e, fun_mk l c k, (fun_mk (st := st) l c k).binds hb⟩
theorem cst_mk {x : Str} {n : Int} {t : Tok} (X : K.In h) (G : h.Ns mainGlobals mg) (e : PySem.W.nsIn K mainGlobals x = some (some (.int n t))) : Cst mg x n := ⟨t, PySem.W.mg_of X G e⟩
theorem tup_mk {x : Str} {l : List Int} {a : Addr} {od : Option Addr} {its : Array Value} {n : Nat} {sl : Array (Option Value)} (X : K.In h) (G : h.Ns mainGlobals mg) (e : PySem.W.nsIn K mainGlobals x = some (some (.ref a))) (lk : K.lookup a = some ⟨.type "tuple", od, .seq its n, sl⟩)
    (hz : its.size ≤ sizeLine) (hv : Vals (l.map V.int) its.toList) : TupC K mg x l := ⟨a, PySem.W.mg_of X G e, fun _ => .inr ⟨_, its, n, lk, rfl, rfl, hz, hv⟩⟩
theorem exm_own {S : Addr} (h1 : PySem.W.subIn K (.ref S) (.type "BaseException") = some true) (h2 : PySem.W.isClsIn K S = true) (h3 : PySem.W.typeIn K (.ref S) = some (.type "type")) (h4 : PySem.W.subIn K (.ref S) (.ref S) = some true) : PySem.W.exmOne K (.ref S) (.ref S) = some true := by
  have e1 : (PySem.W.subIn K (.ref S) (.type "BaseException") == some true) = true := by
    rw [h1]
    rfl
  have e2 : ((PySem.W.clsIn K S).isSome && (PySem.W.typeIn K (.ref S) == some (.type "type"))) = true := by
    rw [show (PySem.W.clsIn K S).isSome = true from h2, h3]
    rfl
  exact (if_pos e1).trans ((if_pos e2).trans h4)
end
end Pc
namespace Pc
open PySem PySem.Spec PyProof.Rows L2 Crewm
/-! ### the facts handed on, one by one -/
section
variable {K : PySem.W.Frag} {mg : Str → Option Value} {h : Heap} {R : Prop}
theorem dn_use (x : Str) (st : Stmt) (ps : List Str) {a : Addr} {od an : Option Addr} {sl : Array (Option Value)} {oc kV dc pm cd ct : Value} (X : K.In h) (G : h.Ns mainGlobals mg) (hb : ∀ (kV doc pm : Value) (an : Option Addr) (cdv ct : Value) (us : List Value), us.length = ps.length → bindArgs (PySem.W.fnOf x x (defArgs st) (defBody st) (defScope st) .none kV doc pm an cdv ct) ⟨us, []⟩ = pure (ps.zip us))
    (e : PySem.W.nsIn K mainGlobals x = some (some (.ref a))) (l : K.lookup a = some ⟨oc, od, .func (PySem.W.fnOf x x (defArgs st) (defBody st) (defScope st) .none kV dc pm an cd ct), sl⟩) (c : PySem.W.codeIn K cd x = true) (k : PySem.W.keepIn K (.ref a) = true) (q : Dn K mg x st ps → R) : R := q (dn_mk X G hb e l c k)
theorem cst_use (x : Str) (n : Int) {t : Tok} (X : K.In h) (G : h.Ns mainGlobals mg) (e : PySem.W.nsIn K mainGlobals x = some (some (.int n t))) (q : Cst mg x n → R) : R := q (cst_mk X G e)
theorem tup_use (x : Str) (l : List Int) {a : Addr} {od : Option Addr} {its : Array Value} {n : Nat} {sl : Array (Option Value)} (X : K.In h) (G : h.Ns mainGlobals mg) (e : PySem.W.nsIn K mainGlobals x = some (some (.ref a))) (lk : K.lookup a = some ⟨.type "tuple", od, .seq its n, sl⟩)
    (hz : its.size ≤ sizeLine) (hv : Vals (l.map V.int) its.toList) (q : TupC K mg x l → R) : R := q (tup_mk X G e lk hz hv)
theorem none_use (x : Str) (X : K.In h) (G : h.Ns mainGlobals mg) (e : PySem.W.nsIn K mainGlobals x = some none) (q : mg x = none → R) : R := q (PySem.W.mg_none_of X G e)
theorem crew_use {C f1 : Addr} {od an : Option Addr} {sl : Array (Option Value)} {oc kV dc pm cd ct : Value} (X : K.In h) (G : h.Ns mainGlobals mg) (aC : PySem.W.nsIn K mainGlobals "Crew" = some (some (.ref C))) (a1 : PySem.W.findIn K (.ref C) "__init__" = some (some (.ref f1))) (i1 : PySem.W.isFn K (.ref f1) = true)
    (l1 : K.lookup f1 = some ⟨oc, od, .func (PySem.W.fnOf "__init__" "Crew.__init__" (defArgs (inClass (top 1) 0)) (defBody (inClass (top 1) 0)) (defScope (inClass (top 1) 0)) .none kV dc pm an cd ct), sl⟩) (c1 : PySem.W.codeIn K cd "Crew.__init__" = true) (k1 : PySem.W.keepIn K (.ref f1) = true)
    (pg : PySem.W.plainGet K C Str.empty = true) (hd : PySem.W.hasDictIn K C = true) (po : PySem.W.plainOver K C = true) (sa : PySem.W.findIn K (.ref C) "__setattr__" = some (some (.builtin "object.__setattr__"))) (mk : PySem.W.makesIn K C = true) (kc : PySem.W.keepIn K (.ref C) = true)
    (n1 : PySem.W.findIn K (.ref C) "pipes" = some none) (n2 : PySem.W.findIn K (.ref C) "ages" = some none) (n3 : PySem.W.findIn K (.ref C) "past" = some none) (n4 : PySem.W.findIn K (.ref C) "total" = some none)
    (q : ∀ C f1, CrewT K mg C → Mk K C f1 → (∃ fd, Fun K "__init__" "Crew.__init__" (inClass (top 1) 0) f1 fd ∧ Binds K fd ["self"] []) → R) : R :=
  q C f1 ⟨⟨pg, hd, po, sa⟩, n1, n2, n3, n4, PySem.W.mg_of X G aC⟩ ⟨mk, a1, i1, kc⟩ ⟨_, fun_mk (st := inClass (top 1) 0) l1 c1 k1, (fun_mk (st := inClass (top 1) 0) l1 c1 k1).binds fun _ _ _ _ _ _ us hl => match us, hl with | [_], _ => rfl⟩
theorem hold_use {C f1 : Addr} {od an : Option Addr} {sl : Array (Option Value)} {oc kV dc pm cd ct : Value} (X : K.In h) (G : h.Ns mainGlobals mg) (aC : PySem.W.nsIn K mainGlobals "Holder" = some (some (.ref C))) (a1 : PySem.W.findIn K (.ref C) "__init__" = some (some (.ref f1))) (i1 : PySem.W.isFn K (.ref f1) = true)
    (l1 : K.lookup f1 = some ⟨oc, od, .func (PySem.W.fnOf "__init__" "Holder.__init__" (defArgs (inClass (top 2) 0)) (defBody (inClass (top 2) 0)) (defScope (inClass (top 2) 0)) .none kV dc pm an cd ct), sl⟩) (c1 : PySem.W.codeIn K cd "Holder.__init__" = true) (k1 : PySem.W.keepIn K (.ref f1) = true)
    (pg : PySem.W.plainGet K C Str.empty = true) (hd : PySem.W.hasDictIn K C = true) (po : PySem.W.plainOver K C = true) (sa : PySem.W.findIn K (.ref C) "__setattr__" = some (some (.builtin "object.__setattr__"))) (mk : PySem.W.makesIn K C = true) (kc : PySem.W.keepIn K (.ref C) = true)
    (n1 : PySem.W.findIn K (.ref C) "crew" = some none)
    (q : ∀ C f1, HoldT K mg C → Mk K C f1 → (∃ fd, Fun K "__init__" "Holder.__init__" (inClass (top 2) 0) f1 fd ∧ Binds K fd ["self"] []) → R) : R :=
  q C f1 ⟨⟨pg, hd, po, sa⟩, n1, PySem.W.mg_of X G aC⟩ ⟨mk, a1, i1, kc⟩ ⟨_, fun_mk (st := inClass (top 2) 0) l1 c1 k1, (fun_mk (st := inClass (top 2) 0) l1 c1 k1).binds fun _ _ _ _ _ _ us hl => match us, hl with | [_], _ => rfl⟩
theorem ref_use {C f1 : Addr} {nm qn : Str} {N : Addr} {bs bm : List Value} {sn : List Str} {sub : List Value} {ab : Bool} {col : Option Bool} {dd : Option Addr} {m0 m1 m2 m3 m5 : Option Value} {od an : Option Addr} {sl : Array (Option Value)} {oc kV dc pm cd ct : Value} (X : K.In h) (G : h.Ns mainGlobals mg)
    (aC : PySem.W.nsIn K mainGlobals "Refused" = some (some (.ref C))) (xL : K.lookup C = some (excClassObj nm qn C N bs bm true sn sub ab col dd m0 m1 m2 m3 m5 "ValueError.__new__")) (hbm : PySem.HandSPX.refsVE bm = true)
    (sa : PySem.W.findIn K (.ref C) "__setattr__" = some (some (.builtin "object.__setattr__"))) (ga : PySem.W.findIn K (.ref C) "__getattribute__" = some (some (.builtin "BaseException.__getattribute__"))) (gg : PySem.W.findIn K (.ref C) "__getattr__" = some none) (no : PySem.W.findIn K (.ref C) "number" = some none)
    (a1 : PySem.W.findIn K (.ref C) "__init__" = some (some (.ref f1))) (t1 : PySem.W.typeIn K (.ref f1) = some (.type "function"))
    (l1 : K.lookup f1 = some ⟨oc, od, .func (PySem.W.fnOf "__init__" "Refused.__init__" (defArgs (inClass (top 28) 0)) (defBody (inClass (top 28) 0)) (defScope (inClass (top 28) 0)) .none kV dc pm an cd ct), sl⟩) (c1 : PySem.W.codeIn K cd "Refused.__init__" = true) (k1 : PySem.W.keepIn K (.ref f1) = true)
    (kC : PySem.W.keepIn K (.ref C) = true) (eC : PySem.W.subIn K (.ref C) (.type "BaseException") = some true) (tC : PySem.W.typeIn K (.ref C) = some (.type "type")) (hC : PySem.W.hasDictIn K C = true) (iC : PySem.W.isClsIn K C = true) (sC : PySem.W.subIn K (.ref C) (.ref C) = some true)
    (q : ∀ C f1, RefT K mg C f1 → (∃ fd, Fun K "__init__" "Refused.__init__" (inClass (top 28) 0) f1 fd ∧ Binds K fd ["self", "number"] []) → R) : R :=
  q C f1 ⟨PySem.W.mg_of X G aC, ⟨⟨nm, qn, N, bs, bm, sn, sub, ab, col, dd, m0, m1, m2, m3, m5, xL, hbm⟩, sa, eC, tC, kC⟩, a1, t1, no, ⟨ga, gg, eC, hC⟩, exm_own eC iC tC sC⟩
    ⟨_, fun_mk (st := inClass (top 28) 0) l1 c1 k1, (fun_mk (st := inClass (top 28) 0) l1 c1 k1).binds fun _ _ _ _ _ _ us hl => match us, hl with | [_, _], _ => rfl⟩
theorem glo_use (x : Str) {a : Addr} (X : K.In h) (G : h.Ns mainGlobals mg) (e : PySem.W.nsIn K mainGlobals x = some (some (.ref a))) : mg x = some (.ref a) := PySem.W.mg_of X G e
theorem deeds_use {a f1 f2 f3 f4 f5 f6 f7 f8 f9 f10 f11 f12 f13 f14 f15 f16 f17 f18 f19 : Addr} {od : Option Addr} {n : Nat} {sl : Array (Option Value)} (X : K.In h) (G : h.Ns mainGlobals mg) (e : PySem.W.nsIn K mainGlobals "DEEDS" = some (some (.ref a)))
    (lk : K.lookup a = some ⟨.type "tuple", od, .seq #[.none, .ref f1, .ref f2, .ref f3, .ref f4, .ref f5, .ref f6, .ref f7, .ref f8, .ref f9, .ref f10, .ref f11, .ref f12, .ref f13, .ref f14, .ref f15, .ref f16, .ref f17, .ref f18, .ref f19] n, sl⟩)
    (e1 : PySem.W.nsIn K mainGlobals "add_pipe" = some (some (.ref f1)))
    (e2 : PySem.W.nsIn K mainGlobals "remove_pipe" = some (some (.ref f2)))
    (e3 : PySem.W.nsIn K mainGlobals "operate" = some (some (.ref f3)))
    (e4 : PySem.W.nsIn K mainGlobals "operate_days" = some (some (.ref f4)))
    (e5 : PySem.W.nsIn K mainGlobals "show_ages" = some (some (.ref f5)))
    (e6 : PySem.W.nsIn K mainGlobals "output_if" = some (some (.ref f6)))
    (e7 : PySem.W.nsIn K mainGlobals "show_best_total" = some (some (.ref f7)))
    (e8 : PySem.W.nsIn K mainGlobals "show_best_choice" = some (some (.ref f8)))
    (e9 : PySem.W.nsIn K mainGlobals "show_best_mean" = some (some (.ref f9)))
    (e10 : PySem.W.nsIn K mainGlobals "cycle_mean" = some (some (.ref f10)))
    (e11 : PySem.W.nsIn K mainGlobals "attains_best_mean" = some (some (.ref f11)))
    (e12 : PySem.W.nsIn K mainGlobals "proves_bound" = some (some (.ref f12)))
    (e13 : PySem.W.nsIn K mainGlobals "mean_with_interval" = some (some (.ref f13)))
    (e14 : PySem.W.nsIn K mainGlobals "best_mean_alone" = some (some (.ref f14)))
    (e15 : PySem.W.nsIn K mainGlobals "output_without_cleaning" = some (some (.ref f15)))
    (e16 : PySem.W.nsIn K mainGlobals "clean_all" = some (some (.ref f16)))
    (e17 : PySem.W.nsIn K mainGlobals "most_degraded" = some (some (.ref f17)))
    (e18 : PySem.W.nsIn K mainGlobals "show_state_count" = some (some (.ref f18)))
    (e19 : PySem.W.nsIn K mainGlobals "summary" = some (some (.ref f19)))
    (q : (∃ (a : Addr) (fs : List Addr), mg "DEEDS" = some (.ref a) ∧ (∀ H, SqT K H a (.non :: fs.map V.ref)) ∧ ∀ (n : Nat) (x : Str), deedNames[n]? = some x → ∃ f : Addr, fs[n]? = some f ∧ mg x = some (.ref f)) → R) : R := by
  refine q ⟨a, [f1, f2, f3, f4, f5, f6, f7, f8, f9, f10, f11, f12, f13, f14, f15, f16, f17, f18, f19], PySem.W.mg_of X G e, fun H => .inr ⟨_, _, n, lk, rfl, rfl, by show 20 ≤ sizeLine; decide, ?_⟩, fun n x hx => ?_⟩
  · exact .cons rfl (.cons rfl (.cons rfl (.cons rfl (.cons rfl (.cons rfl (.cons rfl (.cons rfl (.cons rfl (.cons rfl (.cons rfl (.cons rfl (.cons rfl (.cons rfl (.cons rfl (.cons rfl (.cons rfl (.cons rfl (.cons rfl (.cons rfl (.nil))))))))))))))))))))
  · have hn : n < 19 := (List.getElem?_eq_some_iff.mp hx).1
    have hc : n = 0 ∨ n = 1 ∨ n = 2 ∨ n = 3 ∨ n = 4 ∨ n = 5 ∨ n = 6 ∨ n = 7 ∨ n = 8 ∨ n = 9 ∨ n = 10 ∨ n = 11 ∨ n = 12 ∨ n = 13 ∨ n = 14 ∨ n = 15 ∨ n = 16 ∨ n = 17 ∨ n = 18 := by omega
    rcases hc with rfl | rfl | rfl | rfl | rfl | rfl | rfl | rfl | rfl | rfl | rfl | rfl | rfl | rfl | rfl | rfl | rfl | rfl | rfl
    · obtain rfl : _ = x := Option.some.inj hx
      exact ⟨f1, rfl, PySem.W.mg_of X G e1⟩
    · obtain rfl : _ = x := Option.some.inj hx
      exact ⟨f2, rfl, PySem.W.mg_of X G e2⟩
    · obtain rfl : _ = x := Option.some.inj hx
      exact ⟨f3, rfl, PySem.W.mg_of X G e3⟩
    · obtain rfl : _ = x := Option.some.inj hx
      exact ⟨f4, rfl, PySem.W.mg_of X G e4⟩
    · obtain rfl : _ = x := Option.some.inj hx
      exact ⟨f5, rfl, PySem.W.mg_of X G e5⟩
    · obtain rfl : _ = x := Option.some.inj hx
      exact ⟨f6, rfl, PySem.W.mg_of X G e6⟩
    · obtain rfl : _ = x := Option.some.inj hx
      exact ⟨f7, rfl, PySem.W.mg_of X G e7⟩
    · obtain rfl : _ = x := Option.some.inj hx
      exact ⟨f8, rfl, PySem.W.mg_of X G e8⟩
    · obtain rfl : _ = x := Option.some.inj hx
      exact ⟨f9, rfl, PySem.W.mg_of X G e9⟩
    · obtain rfl : _ = x := Option.some.inj hx
      exact ⟨f10, rfl, PySem.W.mg_of X G e10⟩
    · obtain rfl : _ = x := Option.some.inj hx
      exact ⟨f11, rfl, PySem.W.mg_of X G e11⟩
    · obtain rfl : _ = x := Option.some.inj hx
      exact ⟨f12, rfl, PySem.W.mg_of X G e12⟩
    · obtain rfl : _ = x := Option.some.inj hx
      exact ⟨f13, rfl, PySem.W.mg_of X G e13⟩
    · obtain rfl : _ = x := Option.some.inj hx
      exact ⟨f14, rfl, PySem.W.mg_of X G e14⟩
    · obtain rfl : _ = x := Option.some.inj hx
      exact ⟨f15, rfl, PySem.W.mg_of X G e15⟩
    · obtain rfl : _ = x := Option.some.inj hx
      exact ⟨f16, rfl, PySem.W.mg_of X G e16⟩
    · obtain rfl : _ = x := Option.some.inj hx
      exact ⟨f17, rfl, PySem.W.mg_of X G e17⟩
    · obtain rfl : _ = x := Option.some.inj hx
      exact ⟨f18, rfl, PySem.W.mg_of X G e18⟩
    · obtain rfl : _ = x := Option.some.inj hx
      exact ⟨f19, rfl, PySem.W.mg_of X G e19⟩
theorem ans_use {fa a : Addr} {od an : Option Addr} {sl : Array (Option Value)} {oc kV dc pm cd ct : Value} (X : K.In h) (G : h.Ns mainGlobals mg) (hfa : mg "answers" = some (.ref fa)) (e : PySem.W.nsIn K mainGlobals "answers" = some (some (.ref a)))
    (l : K.lookup a = some ⟨oc, od, .func (PySem.W.fnOf "answers" "answers" (defArgs (top 78)) (defBody (top 78)) (defScope (top 78)) .none kV dc pm an cd ct), sl⟩) (c : PySem.W.codeIn K cd "answers" = true) (k : PySem.W.keepIn K (.ref a) = true)
    (q : ∀ fd, Fun K "answers" "answers" (top 78) fa fd → (∀ (s : Shared) (us : List Value), us.length = (["calls"] : List Str).length → BindsTo s fd ⟨us, []⟩ ((["calls"] : List Str).zip us)) → R) : R := by
  have e1 := hfa.symm.trans (PySem.W.mg_of X G e)
  cases e1
  exact q _ (fun_mk (st := top 78) l c k) fun s us hu => match us, hu with | [_], _ => .of_eq rfl
end
/-- what is locked alone stands -/
theorem frz_seq {K : PySem.W.Frag} {H H' : Hp} {c : Addr} {ns : List Int} (hO : OnlyF H) (h : SqL K H c (ns.map V.int)) (fr : Frz H H') : IntsL K H' c ns := by
  rcases h with (h | ⟨o, h⟩) | h
  · rcases hO c with e | ⟨o, u, e⟩
    · rw [e] at h; cases h
    · rw [e] at h; cases h
  · exact .inl (.inr ⟨o, fr _ _ _ h⟩)
  · exact .inr h
end Pc
open PySem PySem.W PyProof.Rows
set_option maxRecDepth 100000 in
set_option maxHeartbeats 0 in
theorem PySem.Challenge.cw_pipecrew_s01_answers_holds : PySem.Challenge.rw_pipecrew_s01_answers.Holds := by
  w_on; k_headS; (case hw => exact ⟨[.list [.int 0]], by decide +kernel, by decide +kernel⟩)
  k_fillS
  refine L2.walk_specK (r := PySem.Challenge.rw_pipecrew_s01_answers) (k := 7) (CX := L2.CX0) (ps := ["calls"]) (sp := Pc.spAll) (by decide +kernel) rfl rfl ⟨rfl, by decide, by decide⟩ (fun w h Y => PySem.W.kIn_of Y) ?F ?S (fun _ _ _ _ z => z)
  case F =>
    intro w mg fa h Y KX G hmg
    refine' Pc.none_use "len" KX G ?z fun z_len => ?_
    (case z => k_is)
    refine' Pc.none_use "range" KX G ?z fun z_range => ?_
    (case z => k_is)
    refine' Pc.none_use "min" KX G ?z fun z_min => ?_
    (case z => k_is)
    refine' Pc.none_use "max" KX G ?z fun z_max => ?_
    (case z => k_is)
    refine' Pc.none_use "list" KX G ?z fun z_list => ?_
    (case z => k_is)
    refine' Pc.none_use "sum" KX G ?z fun z_sum => ?_
    (case z => k_is)
    refine' Pc.none_use "int" KX G ?z fun z_int => ?_
    (case z => k_is)
    refine' Pc.cst_use "NOT_CREATED" (-11) KX G ?z fun c_NOT_CREATED => ?_
    (case z => k_is)
    refine' Pc.cst_use "NO_PIPE" (-2) KX G ?z fun c_NO_PIPE => ?_
    (case z => k_is)
    refine' Pc.cst_use "OUT_OF_RANGE" (-22) KX G ?z fun c_OUT_OF_RANGE => ?_
    (case z => k_is)
    refine' Pc.cst_use "TOO_MANY" (-28) KX G ?z fun c_TOO_MANY => ?_
    (case z => k_is)
    refine' Pc.cst_use "NO_PIPES" (-6) KX G ?z fun c_NO_PIPES => ?_
    (case z => k_is)
    refine' Pc.cst_use "NO_CYCLE" (-33) KX G ?z fun c_NO_CYCLE => ?_
    (case z => k_is)
    refine' Pc.cst_use "MOST_PIPES" 3 KX G ?z fun c_MOST_PIPES => ?_
    (case z => k_is)
    refine' Pc.cst_use "MOST_OUTPUTS" 4 KX G ?z fun c_MOST_OUTPUTS => ?_
    (case z => k_is)
    refine' Pc.cst_use "MOST_OUTPUT" 100 KX G ?z fun c_MOST_OUTPUT => ?_
    (case z => k_is)
    refine' Pc.cst_use "MOST_CHOICES" 20 KX G ?z fun c_MOST_CHOICES => ?_
    (case z => k_is)
    refine' Pc.cst_use "MOST_DAYS" 8 KX G ?z fun c_MOST_DAYS => ?_
    (case z => k_is)
    refine' Pc.cst_use "MOST_NUMERATOR" 100000 KX G ?z fun c_MOST_NUMERATOR => ?_
    (case z => k_is)
    refine' Pc.cst_use "MOST_DENOMINATOR" 100 KX G ?z fun c_MOST_DENOMINATOR => ?_
    (case z => k_is)
    refine' Pc.cst_use "MOST_POTENTIAL" 10000 KX G ?z fun c_MOST_POTENTIAL => ?_
    (case z => k_is)
    refine' Pc.cst_use "MOST_INTERVAL" 20 KX G ?z fun c_MOST_INTERVAL => ?_
    (case z => k_is)
    refine' Pc.cst_use "CREATE" 0 KX G ?z fun c_CREATE => ?_
    (case z => k_is)
    refine' Pc.tup_use "NUMBERS" Crewm.numbersL KX G ?e ?l ?z ?v fun t_NUMBERS => ?_
    (case e => k_is)
    (case l => k_is)
    (case z => decide)
    (case v => repeat (first | exact .nil | refine .cons ⟨_, rfl⟩ ?_))
    refine' Pc.tup_use "WITH_LISTS" Crewm.listsL KX G ?e ?l ?z ?v fun t_WITH_LISTS => ?_
    (case e => k_is)
    (case l => k_is)
    (case z => decide)
    (case v => repeat (first | exact .nil | refine .cons ⟨_, rfl⟩ ?_))
    refine' Pc.crew_use  KX G ?aC ?a1 ?i1 ?l1 ?c1 ?k1 ?pg ?hd ?po ?sa ?mk ?kc ?n1 ?n2 ?n3 ?n4 fun CC fC T MC FC => ?_
    (case aC => k_is)
    (case a1 => k_is)
    (case i1 => k_is)
    (case l1 => k_is)
    (case c1 => k_is)
    (case k1 => k_is)
    (case pg => k_is)
    (case hd => k_is)
    (case po => k_is)
    (case sa => k_is)
    (case mk => k_is)
    (case kc => k_is)
    (case n1 => k_is)
    (case n2 => k_is)
    (case n3 => k_is)
    (case n4 => k_is)
    refine' Pc.hold_use  KX G ?aC ?a1 ?i1 ?l1 ?c1 ?k1 ?pg ?hd ?po ?sa ?mk ?kc ?n1 fun CH fH TH MH FH => ?_
    (case aC => k_is)
    (case a1 => k_is)
    (case i1 => k_is)
    (case l1 => k_is)
    (case c1 => k_is)
    (case k1 => k_is)
    (case pg => k_is)
    (case hd => k_is)
    (case po => k_is)
    (case sa => k_is)
    (case mk => k_is)
    (case kc => k_is)
    (case n1 => k_is)
    refine' Pc.ref_use  KX G ?aC ?xL ?hbm ?sa ?ga ?gg ?no ?a1 ?t1 ?l1 ?c1 ?k1 ?kC ?eC ?tC ?hC ?iC ?sC fun CR fR TR FR => ?_
    (case aC => k_is)
    (case xL => k_is)
    (case hbm => decide +kernel)
    (case sa => k_is)
    (case ga => k_is)
    (case gg => k_is)
    (case no => k_is)
    (case a1 => k_is)
    (case t1 => k_is)
    (case l1 => k_is)
    (case c1 => k_is)
    (case k1 => k_is)
    (case kC => k_is)
    (case eC => k_is)
    (case tC => k_is)
    (case hC => k_is)
    (case iC => k_is)
    (case sC => first | rfl | k_is)
    refine' Pc.dn_use "day_output" (Pc.top 4) ["pipes", "ages", "choice"] KX G (fun _ _ _ _ _ _ us hl => match us, hl with | [_, _, _], _ => rfl) ?e ?l ?c ?k fun d_day_output => ?_
    (case e => k_is)
    (case l => k_is)
    (case c => k_is)
    (case k => k_is)
    refine' Pc.dn_use "ages_after" (Pc.top 5) ["pipes", "ages", "choice"] KX G (fun _ _ _ _ _ _ us hl => match us, hl with | [_, _, _], _ => rfl) ?e ?l ?c ?k fun d_ages_after => ?_
    (case e => k_is)
    (case l => k_is)
    (case c => k_is)
    (case k => k_is)
    refine' Pc.dn_use "run_through" (Pc.top 6) ["pipes", "ages", "choices"] KX G (fun _ _ _ _ _ _ us hl => match us, hl with | [_, _, _], _ => rfl) ?e ?l ?c ?k fun d_run_through => ?_
    (case e => k_is)
    (case l => k_is)
    (case c => k_is)
    (case k => k_is)
    refine' Pc.dn_use "count_states" (Pc.top 8) ["pipes"] KX G (fun _ _ _ _ _ _ us hl => match us, hl with | [_], _ => rfl) ?e ?l ?c ?k fun d_count_states => ?_
    (case e => k_is)
    (case l => k_is)
    (case c => k_is)
    (case k => k_is)
    refine' Pc.dn_use "place_of" (Pc.top 9) ["pipes", "ages"] KX G (fun _ _ _ _ _ _ us hl => match us, hl with | [_, _], _ => rfl) ?e ?l ?c ?k fun d_place_of => ?_
    (case e => k_is)
    (case l => k_is)
    (case c => k_is)
    (case k => k_is)
    refine' Pc.dn_use "all_states" (Pc.top 10) ["pipes"] KX G (fun _ _ _ _ _ _ us hl => match us, hl with | [_], _ => rfl) ?e ?l ?c ?k fun d_all_states => ?_
    (case e => k_is)
    (case l => k_is)
    (case c => k_is)
    (case k => k_is)
    refine' Pc.dn_use "all_moves" (Pc.top 11) ["pipes"] KX G (fun _ _ _ _ _ _ us hl => match us, hl with | [_], _ => rfl) ?e ?l ?c ?k fun d_all_moves => ?_
    (case e => k_is)
    (case l => k_is)
    (case c => k_is)
    (case k => k_is)
    refine' Pc.dn_use "lowest" (Pc.top 13) ["above", "below"] KX G (fun _ _ _ _ _ _ us hl => match us, hl with | [_, _], _ => rfl) ?e ?l ?c ?k fun d_lowest => ?_
    (case e => k_is)
    (case l => k_is)
    (case c => k_is)
    (case k => k_is)
    refine' Pc.dn_use "is_less" (Pc.top 14) ["one", "other"] KX G (fun _ _ _ _ _ _ us hl => match us, hl with | [_, _], _ => rfl) ?e ?l ?c ?k fun d_is_less => ?_
    (case e => k_is)
    (case l => k_is)
    (case c => k_is)
    (case k => k_is)
    refine' Pc.dn_use "one_day_more" (Pc.top 15) ["moves", "row"] KX G (fun _ _ _ _ _ _ us hl => match us, hl with | [_, _], _ => rfl) ?e ?l ?c ?k fun d_one_day_more => ?_
    (case e => k_is)
    (case l => k_is)
    (case c => k_is)
    (case k => k_is)
    refine' Pc.dn_use "walk_rows" (Pc.top 16) ["moves"] KX G (fun _ _ _ _ _ _ us hl => match us, hl with | [_], _ => rfl) ?e ?l ?c ?k fun d_walk_rows => ?_
    (case e => k_is)
    (case l => k_is)
    (case c => k_is)
    (case k => k_is)
    refine' Pc.dn_use "least_rise" (Pc.top 17) ["rows", "place"] KX G (fun _ _ _ _ _ _ us hl => match us, hl with | [_, _], _ => rfl) ?e ?l ?c ?k fun d_least_rise => ?_
    (case e => k_is)
    (case l => k_is)
    (case c => k_is)
    (case k => k_is)
    refine' Pc.dn_use "best_mean" (Pc.top 18) ["pipes"] KX G (fun _ _ _ _ _ _ us hl => match us, hl with | [_], _ => rfl) ?e ?l ?c ?k fun d_best_mean => ?_
    (case e => k_is)
    (case l => k_is)
    (case c => k_is)
    (case k => k_is)
    refine' Pc.dn_use "proves" (Pc.top 19) ["pipes", "numerator", "denominator", "potentials"] KX G (fun _ _ _ _ _ _ us hl => match us, hl with | [_, _, _, _], _ => rfl) ?e ?l ?c ?k fun d_proves => ?_
    (case e => k_is)
    (case l => k_is)
    (case c => k_is)
    (case k => k_is)
    refine' Pc.dn_use "interval_mean" (Pc.top 20) ["outputs", "interval"] KX G (fun _ _ _ _ _ _ us hl => match us, hl with | [_, _], _ => rfl) ?e ?l ?c ?k fun d_interval_mean => ?_
    (case e => k_is)
    (case l => k_is)
    (case c => k_is)
    (case k => k_is)
    refine' Pc.dn_use "need" (Pc.top 29) ["fulfilled", "number"] KX G (fun _ _ _ _ _ _ us hl => match us, hl with | [_, _], _ => rfl) ?e ?l ?c ?k fun d_need => ?_
    (case e => k_is)
    (case l => k_is)
    (case c => k_is)
    (case k => k_is)
    refine' Pc.dn_use "best_of" (Pc.top 31) ["row", "totals"] KX G (fun _ _ _ _ _ _ us hl => match us, hl with | [_, _], _ => rfl) ?e ?l ?c ?k fun d_best_of => ?_
    (case e => k_is)
    (case l => k_is)
    (case c => k_is)
    (case k => k_is)
    refine' Pc.dn_use "totals_for" (Pc.top 32) ["moves", "days"] KX G (fun _ _ _ _ _ _ us hl => match us, hl with | [_, _], _ => rfl) ?e ?l ?c ?k fun d_totals_for => ?_
    (case e => k_is)
    (case l => k_is)
    (case c => k_is)
    (case k => k_is)
    refine' Pc.dn_use "best_total" (Pc.top 33) ["pipes", "ages", "days"] KX G (fun _ _ _ _ _ _ us hl => match us, hl with | [_, _, _], _ => rfl) ?e ?l ?c ?k fun d_best_total => ?_
    (case e => k_is)
    (case l => k_is)
    (case c => k_is)
    (case k => k_is)
    refine' Pc.dn_use "best_choice" (Pc.top 34) ["pipes", "ages", "days"] KX G (fun _ _ _ _ _ _ us hl => match us, hl with | [_, _, _], _ => rfl) ?e ?l ?c ?k fun d_best_choice => ?_
    (case e => k_is)
    (case l => k_is)
    (case c => k_is)
    (case k => k_is)
    refine' Pc.dn_use "need_pipe" (Pc.top 45) ["crew", "pipe"] KX G (fun _ _ _ _ _ _ us hl => match us, hl with | [_, _], _ => rfl) ?e ?l ?c ?k fun d_need_pipe => ?_
    (case e => k_is)
    (case l => k_is)
    (case c => k_is)
    (case k => k_is)
    refine' Pc.dn_use "need_choices" (Pc.top 46) ["crew", "choices"] KX G (fun _ _ _ _ _ _ us hl => match us, hl with | [_, _], _ => rfl) ?e ?l ?c ?k fun d_need_choices => ?_
    (case e => k_is)
    (case l => k_is)
    (case c => k_is)
    (case k => k_is)
    refine' Pc.dn_use "need_some_pipes" (Pc.top 47) ["crew"] KX G (fun _ _ _ _ _ _ us hl => match us, hl with | [_], _ => rfl) ?e ?l ?c ?k fun d_need_some_pipes => ?_
    (case e => k_is)
    (case l => k_is)
    (case c => k_is)
    (case k => k_is)
    refine' Pc.dn_use "are_outputs" (Pc.top 48) ["outputs"] KX G (fun _ _ _ _ _ _ us hl => match us, hl with | [_], _ => rfl) ?e ?l ?c ?k fun d_are_outputs => ?_
    (case e => k_is)
    (case l => k_is)
    (case c => k_is)
    (case k => k_is)
    refine' Pc.dn_use "add_pipe" (Pc.top 49) ["crew", "given"] KX G (fun _ _ _ _ _ _ us hl => match us, hl with | [_, _], _ => rfl) ?e ?l ?c ?k fun d_add_pipe => ?_
    (case e => k_is)
    (case l => k_is)
    (case c => k_is)
    (case k => k_is)
    refine' Pc.dn_use "remove_pipe" (Pc.top 50) ["crew", "given"] KX G (fun _ _ _ _ _ _ us hl => match us, hl with | [_, _], _ => rfl) ?e ?l ?c ?k fun d_remove_pipe => ?_
    (case e => k_is)
    (case l => k_is)
    (case c => k_is)
    (case k => k_is)
    refine' Pc.dn_use "pass_days" (Pc.top 51) ["crew", "choices"] KX G (fun _ _ _ _ _ _ us hl => match us, hl with | [_, _], _ => rfl) ?e ?l ?c ?k fun d_pass_days => ?_
    (case e => k_is)
    (case l => k_is)
    (case c => k_is)
    (case k => k_is)
    refine' Pc.dn_use "operate" (Pc.top 52) ["crew", "given"] KX G (fun _ _ _ _ _ _ us hl => match us, hl with | [_, _], _ => rfl) ?e ?l ?c ?k fun d_operate => ?_
    (case e => k_is)
    (case l => k_is)
    (case c => k_is)
    (case k => k_is)
    refine' Pc.dn_use "operate_days" (Pc.top 53) ["crew", "given"] KX G (fun _ _ _ _ _ _ us hl => match us, hl with | [_, _], _ => rfl) ?e ?l ?c ?k fun d_operate_days => ?_
    (case e => k_is)
    (case l => k_is)
    (case c => k_is)
    (case k => k_is)
    refine' Pc.dn_use "show_ages" (Pc.top 54) ["crew", "given"] KX G (fun _ _ _ _ _ _ us hl => match us, hl with | [_, _], _ => rfl) ?e ?l ?c ?k fun d_show_ages => ?_
    (case e => k_is)
    (case l => k_is)
    (case c => k_is)
    (case k => k_is)
    refine' Pc.dn_use "output_if" (Pc.top 55) ["crew", "given"] KX G (fun _ _ _ _ _ _ us hl => match us, hl with | [_, _], _ => rfl) ?e ?l ?c ?k fun d_output_if => ?_
    (case e => k_is)
    (case l => k_is)
    (case c => k_is)
    (case k => k_is)
    refine' Pc.dn_use "show_best_total" (Pc.top 56) ["crew", "given"] KX G (fun _ _ _ _ _ _ us hl => match us, hl with | [_, _], _ => rfl) ?e ?l ?c ?k fun d_show_best_total => ?_
    (case e => k_is)
    (case l => k_is)
    (case c => k_is)
    (case k => k_is)
    refine' Pc.dn_use "show_best_choice" (Pc.top 57) ["crew", "given"] KX G (fun _ _ _ _ _ _ us hl => match us, hl with | [_, _], _ => rfl) ?e ?l ?c ?k fun d_show_best_choice => ?_
    (case e => k_is)
    (case l => k_is)
    (case c => k_is)
    (case k => k_is)
    refine' Pc.dn_use "show_best_mean" (Pc.top 58) ["crew", "given"] KX G (fun _ _ _ _ _ _ us hl => match us, hl with | [_, _], _ => rfl) ?e ?l ?c ?k fun d_show_best_mean => ?_
    (case e => k_is)
    (case l => k_is)
    (case c => k_is)
    (case k => k_is)
    refine' Pc.dn_use "mean_of" (Pc.top 59) ["crew", "choices"] KX G (fun _ _ _ _ _ _ us hl => match us, hl with | [_, _], _ => rfl) ?e ?l ?c ?k fun d_mean_of => ?_
    (case e => k_is)
    (case l => k_is)
    (case c => k_is)
    (case k => k_is)
    refine' Pc.dn_use "cycle_mean" (Pc.top 60) ["crew", "given"] KX G (fun _ _ _ _ _ _ us hl => match us, hl with | [_, _], _ => rfl) ?e ?l ?c ?k fun d_cycle_mean => ?_
    (case e => k_is)
    (case l => k_is)
    (case c => k_is)
    (case k => k_is)
    refine' Pc.dn_use "attains_best_mean" (Pc.top 61) ["crew", "given"] KX G (fun _ _ _ _ _ _ us hl => match us, hl with | [_, _], _ => rfl) ?e ?l ?c ?k fun d_attains_best_mean => ?_
    (case e => k_is)
    (case l => k_is)
    (case c => k_is)
    (case k => k_is)
    refine' Pc.dn_use "are_potentials" (Pc.top 62) ["potentials"] KX G (fun _ _ _ _ _ _ us hl => match us, hl with | [_], _ => rfl) ?e ?l ?c ?k fun d_are_potentials => ?_
    (case e => k_is)
    (case l => k_is)
    (case c => k_is)
    (case k => k_is)
    refine' Pc.dn_use "proves_bound" (Pc.top 63) ["crew", "given"] KX G (fun _ _ _ _ _ _ us hl => match us, hl with | [_, _], _ => rfl) ?e ?l ?c ?k fun d_proves_bound => ?_
    (case e => k_is)
    (case l => k_is)
    (case c => k_is)
    (case k => k_is)
    refine' Pc.dn_use "mean_with_interval" (Pc.top 64) ["crew", "given"] KX G (fun _ _ _ _ _ _ us hl => match us, hl with | [_, _], _ => rfl) ?e ?l ?c ?k fun d_mean_with_interval => ?_
    (case e => k_is)
    (case l => k_is)
    (case c => k_is)
    (case k => k_is)
    refine' Pc.dn_use "best_mean_alone" (Pc.top 65) ["crew", "given"] KX G (fun _ _ _ _ _ _ us hl => match us, hl with | [_, _], _ => rfl) ?e ?l ?c ?k fun d_best_mean_alone => ?_
    (case e => k_is)
    (case l => k_is)
    (case c => k_is)
    (case k => k_is)
    refine' Pc.dn_use "output_without_cleaning" (Pc.top 66) ["crew", "given"] KX G (fun _ _ _ _ _ _ us hl => match us, hl with | [_, _], _ => rfl) ?e ?l ?c ?k fun d_output_without_cleaning => ?_
    (case e => k_is)
    (case l => k_is)
    (case c => k_is)
    (case k => k_is)
    refine' Pc.dn_use "clean_all" (Pc.top 67) ["crew", "given"] KX G (fun _ _ _ _ _ _ us hl => match us, hl with | [_, _], _ => rfl) ?e ?l ?c ?k fun d_clean_all => ?_
    (case e => k_is)
    (case l => k_is)
    (case c => k_is)
    (case k => k_is)
    refine' Pc.dn_use "most_degraded" (Pc.top 68) ["crew", "given"] KX G (fun _ _ _ _ _ _ us hl => match us, hl with | [_, _], _ => rfl) ?e ?l ?c ?k fun d_most_degraded => ?_
    (case e => k_is)
    (case l => k_is)
    (case c => k_is)
    (case k => k_is)
    refine' Pc.dn_use "show_state_count" (Pc.top 69) ["crew", "given"] KX G (fun _ _ _ _ _ _ us hl => match us, hl with | [_, _], _ => rfl) ?e ?l ?c ?k fun d_show_state_count => ?_
    (case e => k_is)
    (case l => k_is)
    (case c => k_is)
    (case k => k_is)
    refine' Pc.dn_use "summary" (Pc.top 70) ["crew", "given"] KX G (fun _ _ _ _ _ _ us hl => match us, hl with | [_, _], _ => rfl) ?e ?l ?c ?k fun d_summary => ?_
    (case e => k_is)
    (case l => k_is)
    (case c => k_is)
    (case k => k_is)
    refine' Pc.dn_use "answered" (Pc.top 76) ["holder", "number", "given"] KX G (fun _ _ _ _ _ _ us hl => match us, hl with | [_, _, _], _ => rfl) ?e ?l ?c ?k fun d_answered => ?_
    (case e => k_is)
    (case l => k_is)
    (case c => k_is)
    (case k => k_is)
    refine' Pc.dn_use "handed_over" (Pc.top 77) ["calls", "at"] KX G (fun _ _ _ _ _ _ us hl => match us, hl with | [_, _], _ => rfl) ?e ?l ?c ?k fun d_handed_over => ?_
    (case e => k_is)
    (case l => k_is)
    (case c => k_is)
    (case k => k_is)
    refine' Pc.deeds_use  KX G ?e ?lk ?e1 ?e2 ?e3 ?e4 ?e5 ?e6 ?e7 ?e8 ?e9 ?e10 ?e11 ?e12 ?e13 ?e14 ?e15 ?e16 ?e17 ?e18 ?e19 fun DE => ?_
    (case e => k_is)
    (case lk => k_is)
    (case e1 => k_is)
    (case e2 => k_is)
    (case e3 => k_is)
    (case e4 => k_is)
    (case e5 => k_is)
    (case e6 => k_is)
    (case e7 => k_is)
    (case e8 => k_is)
    (case e9 => k_is)
    (case e10 => k_is)
    (case e11 => k_is)
    (case e12 => k_is)
    (case e13 => k_is)
    (case e14 => k_is)
    (case e15 => k_is)
    (case e16 => k_is)
    (case e17 => k_is)
    (case e18 => k_is)
    (case e19 => k_is)
    refine' Pc.ans_use KX G hmg ?e ?l ?c ?k fun fd F hbind => ?_
    (case e => k_is)
    (case l => k_is)
    (case c => k_is)
    (case k => k_is)
    exact ⟨fd, hbind, fun base _ _ => Pc.all_ok ⟨⟨z_len, z_range, z_min, z_max, z_list, z_sum, z_int⟩, T, TH, TR, MC, MH, FC, FH, FR, t_NUMBERS, t_WITH_LISTS, DE, c_NOT_CREATED, c_NO_PIPE, c_OUT_OF_RANGE, c_TOO_MANY, c_NO_PIPES, c_NO_CYCLE, c_MOST_PIPES, c_MOST_OUTPUTS, c_MOST_OUTPUT, c_MOST_CHOICES, c_MOST_DAYS, c_MOST_NUMERATOR, c_MOST_DENOMINATOR, c_MOST_POTENTIAL, c_MOST_INTERVAL, c_CREATE, d_day_output, d_ages_after, d_run_through, d_count_states, d_place_of, d_all_states, d_all_moves, d_lowest, d_is_less, d_one_day_more, d_walk_rows, d_least_rise, d_best_mean, d_proves, d_interval_mean, d_need, d_best_of, d_totals_for, d_best_total, d_best_choice, d_need_pipe, d_need_choices, d_need_some_pipes, d_are_outputs, d_add_pipe, d_remove_pipe, d_pass_days, d_operate, d_operate_days, d_show_ages, d_output_if, d_show_best_total, d_show_best_choice, d_show_best_mean, d_mean_of, d_cycle_mean, d_attains_best_mean, d_are_potentials, d_proves_bound, d_mean_with_interval, d_best_mean_alone, d_output_without_cleaning, d_clean_all, d_most_degraded, d_show_state_count, d_summary, d_answered, d_handed_over⟩ F base⟩
  case S =>
    intro K H xs a hO hwi hask hx
    cases hx with
    | cons h1 h2 =>
      cases h2
      cases h1 with
      | lst hs ha =>
        have e := L2.ints_dw a.1 _ ha
        subst e
        have q : ((Codec.inLen 0 12800 a.1 && a.1.all (Codec.inInt (-2147483648) 4294967295)) && true) = true := hwi
        rw [Bool.and_eq_true, Bool.and_eq_true] at q
        exact ⟨_, a.1, rfl, fun H' fr => Pc.frz_seq hO hs fr, hask, (Codec.inNat_iff.mp q.1.1).2, fun H' p hp => .lst (L2.SqL.of hp) (L2.dw_ints _)⟩
