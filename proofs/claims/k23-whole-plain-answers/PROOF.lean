import PyProof.Rows.All
import Wide.All
import OpenK.AllK
import Wide.FinOn
import HandS.ForMost
import HandS.Deep
import HandS.Flow
import HandS.Wide
import HandS.Defaults
import HandS.TupSets
import KE.SortData
import HandS.Conv
import HandS.More
import HandS.SetKeys
import HandS.Codes
import PyProof.DictMoreH
import KE.DataMinMax
import PyProof.Rows.SeqMore
import PySem.Challenge.RW_pastamended_k23_whole_plain_answers
import PyProof.StrBlock2
set_option Elab.async false
set_option linter.all false
set_option maxRecDepth 100000
set_option maxHeartbeats 4000000
/-! K23a: the plain law of questions at one moment: data, order, meaning. No program in sight. -/
namespace K23
open PySem PySem.Spec PyProof.Rows L2

/-! ### kinds, rows -/
inductive Kd where
  | num | txt | cond
  deriving DecidableEq
abbrev Row := List Key
abbrev Ch := List Row
abbrev Lv := List Ch
abbrev Sem := Lv → List Ch → V
abbrev Sc := List (List (List Kd))
def big : Int := 1000000000000000000
def TxOk (s : Str) : Prop := s.length ≤ 40 ∧ ∀ c ∈ s.cps.toList, c < 128
def HasK : Kd → V → Prop
  | .num, .int i => -big ≤ i ∧ i ≤ big
  | .txt, .str s => TxOk s
  | .cond, .bl _ => True
  | _, _ => False
theorem HasK.int {v : V} (h : HasK .num v) : ∃ i, v = .int i ∧ -big ≤ i ∧ i ≤ big := by
  cases v <;> first | exact ⟨_, rfl, h⟩ | exact h.elim
theorem HasK.str {v : V} (h : HasK .txt v) : ∃ s, v = .str s ∧ TxOk s := by
  cases v <;> first | exact ⟨_, rfl, h⟩ | exact h.elim
theorem HasK.bl {v : V} (h : HasK .cond v) : ∃ b, v = .bl b := by
  cases v <;> first | exact ⟨_, rfl⟩ | exact h.elim
def keyOf : V → Key
  | .int i => .inl i
  | .str s => .inr s
  | _ => .inl 0
theorem kV_keyOf {k : Kd} {v : V} (h : HasK k v) (hk : k ≠ .cond) : kV (keyOf v) = v := by
  cases k with
  | num => obtain ⟨i, rfl, _⟩ := h.int; rfl
  | txt => obtain ⟨s, rfl, _⟩ := h.str; rfl
  | cond => exact absurd rfl hk
/-- a row of these kinds -/
def RowK (ks : List Kd) (r : Row) : Prop := Paired (fun k key => k ≠ Kd.cond ∧ HasK k (kV key)) ks r
def ChK (scn : List (List Kd)) (c : Ch) : Prop := Paired RowK scn c
/-- levels conform to scopes: the last level is the first scope -/
def Conf (sc : Sc) (lv : Lv) : Prop := Paired ChK sc lv.reverse

theorem paired_get {α β : Type} {F : α → β → Prop} : ∀ {l : List α} {m : List β} {i : Nat} {a : α}, Paired F l m → l[i]? = some a → ∃ b, m[i]? = some b ∧ F a b
  | _, _, _, _, .nil, e => by simp at e
  | _, _, 0, _, .cons h _, e => by
    simp at e; subst e
    exact ⟨_, rfl, h⟩
  | _, _, i + 1, _, .cons _ t, e => by
    obtain ⟨b, h1, h2⟩ := paired_get (i := i) t (by simpa using e)
    exact ⟨b, by simpa using h1, h2⟩
theorem paired_get2 {α β : Type} {F : α → β → Prop} : ∀ {l : List α} {m : List β} {i : Nat} {a : α} {b : β}, Paired F l m → l[i]? = some a → m[i]? = some b → F a b := by
  intro l m i a b h e1 e2
  obtain ⟨b', h1, h2⟩ := paired_get h e1
  rw [e2] at h1; cases h1; exact h2
theorem paired_map {α β γ : Type} {F : α → β → Prop} {f : γ → β} {g : γ → α} : ∀ (l : List γ), (∀ x ∈ l, F (g x) (f x)) → Paired F (l.map g) (l.map f)
  | [], _ => .nil
  | x :: l, h => .cons (h x List.mem_cons_self) (paired_map l fun y hy => h y (List.mem_cons_of_mem _ hy))
theorem paired_len {α β : Type} {F : α → β → Prop} {l : List α} {m : List β} (h : Paired F l m) : l.length = m.length := h.length
theorem conf_push {scn : List (List Kd)} {sc : Sc} {lv : Lv} {c : Ch} (h : Conf sc lv) (hc : ChK scn c) : Conf (scn :: sc) (lv ++ [c]) := by
  unfold Conf
  rw [List.reverse_append]
  exact .cons hc h
theorem conf_pop {scn : List (List Kd)} {sc : Sc} {lv : Lv} (h : Conf (scn :: sc) lv) : ∃ lv' c, lv = lv' ++ [c] ∧ Conf sc lv' ∧ ChK scn c := by
  unfold Conf at h
  cases e : lv.reverse with
  | nil => rw [e] at h; cases h
  | cons c r =>
    rw [e] at h
    cases h with
    | cons h1 h2 =>
      refine ⟨r.reverse, c, ?_, ?_, h1⟩
      · have := congrArg List.reverse e
        rw [List.reverse_reverse] at this
        rw [this, List.reverse_cons]
      · unfold Conf
        rw [List.reverse_reverse]
        exact h2
theorem conf_len {sc : Sc} {lv : Lv} (h : Conf sc lv) : sc.length = lv.length := by
  have := paired_len h
  rw [List.length_reverse] at this
  exact this

/-! ### data -/
def keyD : Key → PyData
  | .inl i => .int i
  | .inr x => .str x
def rowD (r : Row) : PyData := .tuple (r.map keyD)
def chD (c : Ch) : PyData := .list (c.map rowD)
def chsD (cs : List Ch) : PyData := .list (cs.map chD)
def rowsD (rs : List Row) : PyData := .list (rs.map rowD)

/-! ### the order of keys and rows -/
def ltK : Key → Key → Bool
  | .inl i, .inl j => decide (i < j)
  | .inl _, .inr _ => true
  | .inr _, .inl _ => false
  | .inr x, .inr y => decide (x.cps.toList < y.cps.toList)
theorem str_ext {x y : Str} (h : x.cps.toList = y.cps.toList) : x = y := by
  cases x; cases y
  simp only at h
  rw [Array.toList_inj.mp h]
theorem ltK_irr (a : Key) : ltK a a = false := by
  cases a with
  | inl i => simp [ltK]
  | inr x =>
    unfold ltK
    exact decide_eq_false (List.lt_irrefl _)
theorem ltK_trans {a b c : Key} (h1 : ltK a b = true) (h2 : ltK b c = true) : ltK a c = true := by
  cases a with
  | inl i =>
    cases b with
    | inl j =>
      cases c with
      | inl k => simp [ltK] at *; omega
      | inr z => rfl
    | inr y =>
      cases c with
      | inl k => simp [ltK] at h2
      | inr z => rfl
  | inr x =>
    cases b with
    | inl j => simp [ltK] at h1
    | inr y =>
      cases c with
      | inl k => simp [ltK] at h2
      | inr z =>
        unfold ltK at *
        exact decide_eq_true (List.lt_trans (of_decide_eq_true h1) (of_decide_eq_true h2))
theorem ltK_tri (a b : Key) : ltK a b = true ∨ a = b ∨ ltK b a = true := by
  cases a with
  | inl i =>
    cases b with
    | inl j =>
      simp only [ltK, decide_eq_true_eq]
      rcases Int.lt_trichotomy i j with h | h | h
      · exact .inl h
      · exact .inr (.inl (by rw [h]))
      · exact .inr (.inr h)
    | inr y => exact .inl rfl
  | inr x =>
    cases b with
    | inl j => exact .inr (.inr rfl)
    | inr y =>
      unfold ltK
      by_cases h1 : x.cps.toList < y.cps.toList
      · exact .inl (decide_eq_true h1)
      · by_cases h2 : y.cps.toList < x.cps.toList
        · exact .inr (.inr (decide_eq_true h2))
        · refine .inr (.inl ?_)
          have := List.le_antisymm (List.not_lt.mp h2) (List.not_lt.mp h1)
          rw [str_ext this]
def ltR : Row → Row → Bool
  | [], [] => false
  | [], _ :: _ => true
  | _ :: _, [] => false
  | x :: xs, y :: ys => if x = y then ltR xs ys else ltK x y
theorem ltR_irr : ∀ r : Row, ltR r r = false
  | [] => rfl
  | x :: xs => by
    unfold ltR
    rw [if_pos rfl]
    exact ltR_irr xs
theorem ltR_trans : ∀ {a b c : Row}, ltR a b = true → ltR b c = true → ltR a c = true
  | [], [], _, h, _ => by simp [ltR] at h
  | [], _ :: _, [], _, h => by simp [ltR] at h
  | [], _ :: _, _ :: _, _, _ => rfl
  | _ :: _, [], _, h, _ => by simp [ltR] at h
  | _ :: _, _ :: _, [], _, h => by simp [ltR] at h
  | x :: xs, y :: ys, z :: zs, h1, h2 => by
    unfold ltR at *
    by_cases e1 : x = y
    · subst e1
      rw [if_pos rfl] at h1
      by_cases e2 : x = z
      · subst e2
        rw [if_pos rfl] at h2 ⊢
        exact ltR_trans h1 h2
      · rw [if_neg e2] at h2 ⊢
        exact h2
    · rw [if_neg e1] at h1
      by_cases e2 : y = z
      · subst e2
        rw [if_neg e1]
        exact h1
      · rw [if_neg e2] at h2
        have h3 := ltK_trans h1 h2
        by_cases e3 : x = z
        · subst e3
          rw [ltK_irr] at h3
          exact absurd h3 Bool.false_ne_true
        · rw [if_neg e3]
          exact h3
theorem ltR_tri : ∀ a b : Row, ltR a b = true ∨ a = b ∨ ltR b a = true
  | [], [] => .inr (.inl rfl)
  | [], _ :: _ => .inl rfl
  | _ :: _, [] => .inr (.inr rfl)
  | x :: xs, y :: ys => by
    by_cases e : x = y
    · subst e
      unfold ltR
      rw [if_pos rfl, if_pos rfl]
      rcases ltR_tri xs ys with h | h | h
      · exact .inl h
      · exact .inr (.inl (by rw [h]))
      · exact .inr (.inr h)
    · unfold ltR
      rw [if_neg e, if_neg (Ne.symm e)]
      rcases ltK_tri x y with h | h | h
      · exact .inl h
      · exact absurd h e
      · exact .inr (.inr h)

/-! ### ascending, without duplicates -/
def insR (r : Row) : List Row → List Row
  | [] => [r]
  | x :: xs => if ltR r x = true then r :: x :: xs else if r = x then x :: xs else x :: insR r xs
def sortR (rs : List Row) : List Row := rs.foldr insR []
abbrev Up (l : List Row) : Prop := l.Pairwise fun a b => ltR a b = true
theorem mem_insR {r y : Row} : ∀ {l : List Row}, y ∈ insR r l ↔ y = r ∨ y ∈ l
  | [] => by simp [insR]
  | x :: xs => by
    unfold insR
    split
    · simp
    · split
      · rename_i h
        subst h
        simp
      · rw [List.mem_cons, mem_insR, List.mem_cons]
        constructor
        · rintro (h | h | h)
          · exact .inr (.inl h)
          · exact .inl h
          · exact .inr (.inr h)
        · rintro (h | h | h)
          · exact .inr (.inl h)
          · exact .inl h
          · exact .inr (.inr h)
theorem up_insR {r : Row} : ∀ {l : List Row}, Up l → Up (insR r l)
  | [], _ => by simp [insR, Up]
  | x :: xs, h => by
    obtain ⟨h1, h2⟩ := List.pairwise_cons.mp h
    unfold insR
    split
    · rename_i c
      refine List.pairwise_cons.mpr ⟨fun y hy => ?_, h⟩
      rcases List.mem_cons.mp hy with e | hy
      · rw [e]; exact c
      · exact ltR_trans c (h1 y hy)
    · split
      · exact h
      · rename_i c1 c2
        refine List.pairwise_cons.mpr ⟨fun y hy => ?_, up_insR h2⟩
        rcases mem_insR.mp hy with e | hy
        · rw [e]
          rcases ltR_tri r x with z | z | z
          · exact absurd z c1
          · exact absurd z c2
          · exact z
        · exact h1 y hy
theorem mem_sortR {y : Row} : ∀ {l : List Row}, y ∈ sortR l ↔ y ∈ l
  | [] => Iff.rfl
  | x :: xs => by
    show y ∈ insR x (sortR xs) ↔ _
    rw [mem_insR, mem_sortR, List.mem_cons]
theorem up_sortR : ∀ (l : List Row), Up (sortR l)
  | [] => List.Pairwise.nil
  | x :: xs => up_insR (up_sortR xs)
theorem up_ext : ∀ {l m : List Row}, Up l → Up m → (∀ y, y ∈ l ↔ y ∈ m) → l = m
  | [], [], _, _, _ => rfl
  | [], y :: _, _, _, h => absurd ((h y).mpr List.mem_cons_self) (by simp)
  | x :: _, [], _, _, h => absurd ((h x).mp List.mem_cons_self) (by simp)
  | x :: xs, y :: ys, h1, h2, h => by
    obtain ⟨a1, a2⟩ := List.pairwise_cons.mp h1
    obtain ⟨b1, b2⟩ := List.pairwise_cons.mp h2
    have no : ∀ {p q : Row}, ltR p q = true → ltR q p = true → False := fun {p q} u v => by
      have := ltR_trans u v
      rw [ltR_irr] at this
      exact Bool.false_ne_true this
    have nx : ∀ {p q : Row}, ltR p q = true → p ≠ q := fun {p q} u e => by
      rw [e, ltR_irr] at u
      exact Bool.false_ne_true u
    have e : x = y := by
      rcases List.mem_cons.mp ((h x).mp List.mem_cons_self) with e | e
      · exact e
      · rcases List.mem_cons.mp ((h y).mpr List.mem_cons_self) with z | z
        · exact z.symm
        · exact (no (b1 x e) (a1 y z)).elim
    subst e
    refine congrArg (x :: ·) (up_ext a2 b2 fun z => ⟨fun hz => ?_, fun hz => ?_⟩)
    · rcases List.mem_cons.mp ((h z).mp (List.mem_cons_of_mem _ hz)) with e | e
      · exact absurd e.symm (nx (a1 z hz))
      · exact e
    · rcases List.mem_cons.mp ((h z).mpr (List.mem_cons_of_mem _ hz)) with e | e
      · exact absurd e.symm (nx (b1 z hz))
      · exact e
theorem sortR_unique {l rs : List Row} (h : Up l) (hm : ∀ y, y ∈ l ↔ y ∈ rs) : l = sortR rs :=
  up_ext h (up_sortR rs) fun y => by rw [hm, mem_sortR]
theorem insR_len {r : Row} : ∀ {l : List Row}, (insR r l).length ≤ l.length + 1
  | [] => by simp [insR]
  | x :: xs => by
    have := insR_len (r := r) (l := xs)
    unfold insR
    split
    · simp
    · split
      · simp
      · simp only [List.length_cons]
        omega
theorem sortR_len : ∀ (l : List Row), (sortR l).length ≤ l.length
  | [] => Nat.le_refl _
  | x :: xs => by
    have h1 := sortR_len xs
    have h2 := insR_len (r := x) (l := sortR xs)
    show (insR x (sortR xs)).length ≤ xs.length + 1
    omega
end K23

set_option Elab.async false
set_option linter.all false
set_option maxRecDepth 100000
set_option maxHeartbeats 4000000
set_option exponentiation.threshold 600
/-! K23b: a set's table of up to 512 places, whatever its elements' hashes are. -/
namespace K23
open PySem PySem.Spec PyProof.Rows L2

/-! ### the round of 512 -/
def orbM (m : Nat) : Nat → Nat → Nat → Nat
  | 0, _, acc => acc
  | n + 1, x, acc => orbM m n ((x * 5 + 1) % (m + 1)) (acc ||| 2 ^ x)
theorem orb511 : orbM 511 512 0 0 = 2 ^ 512 - 1 := by decide +kernel
theorem lcgI_back (m : Nat) : ∀ (k x : Nat), lcgI m ((x * 5 + 1) % (m + 1)) k = lcgI m x (k + 1)
  | 0, _ => rfl
  | k + 1, x => by
    show (lcgI m ((x * 5 + 1) % (m + 1)) k * 5 + 1) % (m + 1) = _
    rw [lcgI_back m k x] <;> rfl
theorem orb_bit (m j : Nat) : ∀ (n x acc : Nat), (orbM m n x acc).testBit j = true → acc.testBit j = true ∨ ∃ k, k < n ∧ lcgI m x k = j
  | 0, _, _, h => .inl h
  | n + 1, x, acc, h => by
    rcases orb_bit m j n _ _ h with z | ⟨k, hk, e⟩
    · rw [Nat.testBit_or, Bool.or_eq_true] at z
      rcases z with z | z
      · exact .inl z
      · refine .inr ⟨0, Nat.succ_pos n, ?_⟩
        rw [Nat.testBit_two_pow] at z
        exact of_decide_eq_true z
    · exact .inr ⟨k + 1, Nat.succ_lt_succ hk, by rw [← lcgI_back]; exact e⟩
theorem zero_all {j : Nat} (hj : j ≤ 511) : ∃ k, k ≤ 511 ∧ lcgI 511 0 k = j := by
  have h : (orbM 511 512 0 0).testBit j = true := by
    rw [orb511, Nat.testBit_two_pow_sub_one]
    exact decide_eq_true (by omega)
  rcases orb_bit 511 j 512 0 0 h with z | ⟨k, hk, e⟩
  · rw [Nat.zero_testBit] at z
    exact absurd z Bool.false_ne_true
  · exact ⟨k, by omega, e⟩
theorem lcgI_add (m : Nat) : ∀ (b a x : Nat), lcgI m (lcgI m x a) b = lcgI m x (a + b)
  | 0, _, _ => rfl
  | b + 1, a, x => by
    show (lcgI m (lcgI m x a) b * 5 + 1) % (m + 1) = (lcgI m x (a + b) * 5 + 1) % (m + 1)
    rw [lcgI_add m b a x]
theorem round512 : lcgI 511 0 512 = 0 := by decide +kernel
/-- every place is met within one round -/
def Full (m : Nat) : Prop := ∀ i j, i ≤ m → j ≤ m → ∃ k, k ≤ m ∧ lcgI m i k = j
theorem full511 : Full 511 := by
  intro i j hi hj
  obtain ⟨a, ha, ea⟩ := zero_all hi
  obtain ⟨b, hb, eb⟩ := zero_all hj
  by_cases c : a ≤ b
  · refine ⟨b - a, by omega, ?_⟩
    rw [← ea, lcgI_add, show a + (b - a) = b by omega, eb]
  · refine ⟨512 + b - a, by omega, ?_⟩
    rw [← ea, lcgI_add, show a + (512 + b - a) = 512 + b by omega, ← lcgI_add, round512, eb]
/-- the masks that a table of at most 306 elements takes -/
structure Msk (m : Nat) : Prop where
  is : m = 7 ∨ m = 31 ∨ m = 127 ∨ m = 511
theorem Msk.full {m : Nat} (h : Msk m) : Full m := by
  rcases h.is with e | e | e | e
  · subst e; exact fun i j hi hj => lcgI_all (.inl rfl) hi hj
  · subst e; exact fun i j hi hj => lcgI_all (.inr (.inl rfl)) hi hj
  · subst e; exact fun i j hi hj => lcgI_all (.inr (.inr rfl)) hi hj
  · subst e; exact full511
theorem Msk.odd {m : Nat} (h : Msk m) : m % 2 = 1 := by
  rcases h.is with e | e | e | e <;> (subst e; rfl)
theorem Msk.le {m : Nat} (h : Msk m) : m ≤ 511 := by
  rcases h.is with e | e | e | e <;> omega

/-! ### the way of a hash -/
theorem way_bd (m : Nat) (h : Int) (k : Nat) : way m h k ≤ m := by
  have h0 : SetTable.bits h % (m + 1) ≤ m := Nat.le_of_lt_succ (Nat.mod_lt _ (Nat.succ_pos m))
  have h1 := runEnd_bd h0
  have h2 := nth_in k (runAt m (SetTable.bits h % (m + 1)) (SetTable.bits h)) (m := m) (Nat.le_trans (Nat.le_of_eq (Nat.add_sub_cancel' h1.2.1)) h1.1)
  exact Nat.le_trans (Nat.le_add_right _ _) h2
theorem run_to {m : Nat} (F : Full m) (h : Int) {j : Nat} (hj : j ≤ m) : ∃ n, n ≤ m + 12 ∧ runI m (SetTable.bits h) n = j := by
  obtain ⟨k, k1, k2⟩ := F _ j (runI_le m (SetTable.bits h) 12) hj
  exact ⟨12 + k, by omega, (runI_tail (bits_lt h) k).trans k2⟩
theorem way_to {m : Nat} (F : Full m) (h : Int) {j : Nat} (hj : j ≤ m) : ∃ k, k < 10 * SetTable.turns m ∧ way m h k = j := by
  obtain ⟨n, n1, n2⟩ := run_to F h hj
  obtain ⟨k, k1, k2⟩ := run_nth m (SetTable.bits h) n
  refine ⟨k, ?_, (congrArg SetTable.Probe.j k2).trans n2⟩
  have : SetTable.turns m = m + 15 := rfl
  omega
/-- the table's places and the hashes of its rows -/
structure Tab (t : SetTable) (hs : List Int) : Prop where
  up : Ris t.place.toList
  clean : t.dummies = #[]
  many : t.place.size = hs.length
  msk : Msk t.mask
  low : ∀ x ∈ t.place.toList, x ≤ t.mask
  seen : ∀ (i : Nat) (h : Int) (j : Nat), hs[i]? = some h → t.place.toList[i]? = some j → ∃ k, way t.mask h k = j ∧ ∀ c, c < k → way t.mask h c ∈ t.place.toList
section
variable {t : SetTable} {hs : List Int}
theorem Tab.gap (T : Tab t hs) (hl : hs.length ≤ t.mask) (h : Int) : ∃ K, K < 10 * SetTable.turns t.mask ∧ way t.mask h K ∉ t.place.toList ∧ ∀ k, k < K → way t.mask h k ∈ t.place.toList := by
  obtain ⟨j, j1, j2⟩ := st_missing t.place.toList (t.mask + 1) (by rw [Array.length_toList, T.many]; exact Nat.lt_succ_of_le hl)
  obtain ⟨k, k1, k2⟩ := way_to T.msk.full h (Nat.le_of_lt_succ j1)
  obtain ⟨K, a, b, c⟩ := st_least (p := fun q => ¬ way t.mask h q ∈ t.place.toList) k (fun z => j2 (k2 ▸ z))
  exact ⟨K, Nat.lt_of_le_of_lt a k1, b, fun q hq => Classical.not_not.mp (c q hq)⟩
theorem Tab.ahead (T : Tab t hs) {h : Int} {K i j : Nat} (hK : way t.mask h K ∉ t.place.toList) (hi : hs[i]? = some h) (hj : t.place.toList[i]? = some j) : ∃ k, k < K ∧ way t.mask h k = j := by
  obtain ⟨k, e, hb⟩ := T.seen i h j hi hj
  refine ⟨k, Nat.lt_of_not_le fun c => ?_, e⟩
  rcases Nat.lt_or_eq_of_le c with d | d
  · exact hK (hb K d)
  · subst d
    exact hK (e ▸ List.mem_of_getElem? hj)
/-- one is put in, at the gap -/
theorem Tab.more (T : Tab t hs) {h : Int} {K : Nat} (hK : way t.mask h K ∉ t.place.toList) (hb : ∀ k, k < K → way t.mask h k ∈ t.place.toList) :
    ∃ p t1, t.put (way t.mask h K) = (t1, p) ∧ p = SetTable.below t.place (way t.mask h K) ∧ p ≤ hs.length ∧ Tab t1 (hs.take p ++ h :: hs.drop p) ∧ t1.mask = t.mask ∧ t1.led = t.led ∧ t1.fill = hs.length + 1 := by
  have hjm := way_bd t.mask h K
  generalize ej : way t.mask h K = j at hK hjm ⊢
  obtain ⟨c1, _, _⟩ := below_cut T.up j
  have q1 : SetTable.below t.place j ≤ t.place.toList.length := Nat.le_trans c1 (Nat.le_of_eq (Array.length_toList).symm)
  have q2 : SetTable.below t.place j ≤ hs.length := Nat.le_trans c1 (Nat.le_of_eq T.many)
  have q3 : t.place[SetTable.below t.place j]? ≠ some j := fun e => hK (List.mem_of_getElem? (Array.getElem?_toList.trans e))
  have q4 := put_place t j
  have q5 : (t.put j).1.place.size = hs.length + 1 := by
    rw [← Array.length_toList, q4, len_ins _ q1, Array.length_toList, T.many]
  have q6 : ∀ x, x ∈ t.place.toList → x ∈ (t.put j).1.place.toList := fun x hx => q4 ▸ mem_ins.2 (.inr hx)
  refine ⟨SetTable.below t.place j, (t.put j).1, rfl, rfl, q2, ⟨ris_insert T.up q3, put_dm T.clean j, q5.trans (len_ins _ q2 h).symm, T.msk, fun x hx => ?_, fun i h' j' e1 e2 => ?_⟩, rfl, rfl, ?_⟩
  · rcases mem_ins.1 (q4 ▸ hx) with z | z
    · exact z ▸ hjm
    · exact T.low x z
  · show ∃ k, way t.mask h' k = j' ∧ ∀ c, c < k → way t.mask h' c ∈ (t.put j).1.place.toList
    rw [tins_get hs q2] at e1
    rw [q4, tins_get _ q1] at e2
    rcases Nat.lt_trichotomy i (SetTable.below t.place j) with c | c | c
    · rw [if_pos c] at e1 e2
      obtain ⟨k, a, b⟩ := T.seen i h' j' e1 e2
      exact ⟨k, a, fun c hc => q6 _ (b c hc)⟩
    · rw [if_neg (by omega), if_pos c] at e1 e2
      cases e1
      cases e2
      exact ⟨K, ej, fun c hc => q6 _ (hb c hc)⟩
    · rw [if_neg (by omega), if_neg (by omega)] at e1 e2
      obtain ⟨k, a, b⟩ := T.seen (i - 1) h' j' e1 e2
      exact ⟨k, a, fun c hc => q6 _ (b c hc)⟩
  · show (t.put j).1.place.size + (t.put j).1.dummies.size = _
    rw [q5, put_dm T.clean j] <;> rfl
end

/-! ### laid anew -/
theorem seat {m : Nat} (F : Full m) (owner : Array (Option Nat)) (h : Int) {j : Nat} (hj : j ≤ m) (hf : oAt owner j = none) :
    ∃ K, SetTable.layClean.free m owner (SetTable.turns m) (SetTable.bits h % (m + 1)) (SetTable.bits h) = some (way m h K) ∧ oAt owner (way m h K) = none ∧ ∀ k, k < K → oAt owner (way m h k) ≠ none := by
  obtain ⟨n, n1, n2⟩ := run_to F h hj
  have hw : way m h (off m (SetTable.bits h % (m + 1)) (SetTable.bits h) n) = j := by
    refine Eq.trans (congrArg SetTable.Probe.j (nth_off m n _ _)) ?_
    rw [itL_run]
    exact n2
  obtain ⟨K, a, b, c⟩ := st_least (p := fun k => oAt owner (way m h k) = none) (off m (SetTable.bits h % (m + 1)) (SetTable.bits h) n) (Eq.trans (congrArg (oAt owner) hw) hf)
  refine ⟨K, free_spec m owner (SetTable.turns m) n _ _ K (by show n < m + 15; omega) a (fun k hk => ?_) (Option.isNone_iff_eq_none.mpr b), b, c⟩
  have q := c k hk
  cases z : oAt owner (nth m (runAt m (SetTable.bits h % (m + 1)) (SetTable.bits h)) k).j with
  | none => exact absurd z q
  | some _ => rfl
theorem sit {m : Nat} (F : Full m) {done : List Int} {owner : Array (Option Nat)} (W : Own m done owner) (hl : done.length ≤ m) (h : Int) :
    ∃ j, SetTable.layClean.free m owner (SetTable.turns m) (SetTable.bits h % (m + 1)) (SetTable.bits h) = some j ∧ Own m (done ++ [h]) (owner.setIfInBounds j (some done.length)) := by
  obtain ⟨ps, p1, p2⟩ := W.ps
  obtain ⟨j0, a1, a2⟩ := st_missing ps (m + 1) (by omega)
  have a3 : oAt owner j0 = none := Classical.byContradiction fun z => a2 (p2 j0 (Nat.le_of_lt_succ a1) z)
  obtain ⟨K, e1, e2, e3⟩ := seat F owner h (Nat.le_of_lt_succ a1) a3
  have b1 := way_bd m h K
  generalize ew : way m h K = j at e1 e2 b1
  have b2 : j < owner.size := by rw [W.sz]; exact Nat.lt_succ_of_le b1
  have own := oAt_set_self (some done.length) b2
  have other : ∀ i, i ≠ j → oAt (owner.setIfInBounds j (some done.length)) i = oAt owner i := fun i c => oAt_set_ne _ c
  have kept : ∀ i, oAt owner i ≠ none → oAt (owner.setIfInBounds j (some done.length)) i ≠ none := fun i hi => by
    by_cases c : i = j
    · subst c
      rw [own]
      exact Option.some_ne_none _
    · rw [other i c]
      exact hi
  refine ⟨j, e1, ⟨(Array.size_setIfInBounds).trans W.sz, fun i k hi e => ?_, fun k hk => ?_, ⟨j :: ps, ?_, fun i hi e => ?_⟩⟩⟩
  · by_cases c : i = j
    · subst c
      rw [own] at e
      cases e
      exact ⟨h, K, by rw [List.getElem?_append_right (Nat.le_refl _), Nat.sub_self] <;> rfl, ew, fun q hq => kept _ (e3 q hq)⟩
    · rw [other i c] at e
      obtain ⟨h', K', x1, x2, x3⟩ := W.at_ i k hi e
      exact ⟨h', K', (List.getElem?_append_left (List.getElem?_eq_some_iff.mp x1).1).trans x1, x2, fun q hq => kept _ (x3 q hq)⟩
  · rw [List.length_append] at hk
    rcases Nat.lt_or_ge k done.length with c | c
    · obtain ⟨i, i1, i2⟩ := W.all k c
      exact ⟨i, i1, (other i fun z => by rw [z, e2] at i2; cases i2).trans i2⟩
    · have ek : k = done.length := by
        have : ([h] : List Int).length = 1 := rfl
        omega
      exact ⟨j, b1, ek ▸ own⟩
  · rw [List.length_cons, List.length_append, p1] <;> rfl
  · by_cases c : i = j
    · exact c ▸ List.mem_cons_self
    · rw [other i c] at e
      exact List.mem_cons_of_mem _ (p2 i hi e)
theorem sit_all {m : Nat} (F : Full m) : ∀ (rest done : List Int) (owner : Array (Option Nat)), Own m done owner → done.length + rest.length ≤ m →
    ∃ owner', rest.foldl (stepF m) (some (owner, done.length)) = some (owner', (done ++ rest).length) ∧ Own m (done ++ rest) owner'
  | [], done, owner, W, _ => by
    rw [List.append_nil]
    exact ⟨owner, rfl, W⟩
  | h :: rest, done, owner, W, hl => by
    have hl' : done.length + (rest.length + 1) ≤ m := hl
    obtain ⟨j, e, W1⟩ := sit F W (by omega) h
    have n1 : (done ++ [h]).length = done.length + 1 := List.length_append
    obtain ⟨o2, f, W2⟩ := sit_all F rest (done ++ [h]) _ W1 (by omega)
    rw [List.append_assoc, n1] at f
    rw [List.append_assoc] at W2
    exact ⟨o2, (congrArg (fun z => rest.foldl (stepF m) z) (stepF_some e)).trans f, W2⟩
theorem anew (t : SetTable) {hs : Array Int} {wanted M : Nat} (hw : SetTable.sizeAbove wanted - 1 = M) (hM : Msk M) (hn : hs.size ≤ M) :
    ∃ t' order, t.relaid hs wanted = some (t', order) ∧ order.toList.Perm (List.range hs.size) ∧ Tab t' (order.toList.map fun i => hs.getD i 0) ∧ t'.mask = M ∧ t'.led = t.led := by
  obtain ⟨owner, f, W⟩ := sit_all hM.full hs.toList [] _ (Own.init M) (by rw [Array.length_toList]; show 0 + hs.size ≤ M; omega)
  rw [List.nil_append] at W f
  have el : SetTable.layClean M hs = some owner := by
    rw [layClean_eq]
    exact congrArg (Option.map (·.1)) f
  have er : t.relaid hs wanted = some (tabOf t M owner, ((liveOf M owner).map (·.2)).toArray) := by
    rw [relaid_eq, hw, el] <;> rfl
  have ris := ris_live (fun j => owner.getD j none) (List.range (M + 1)) (by
    show List.Pairwise _ _
    first | exact List.pairwise_lt_range | exact List.pairwise_lt_range _)
  have r1 : Ris ((liveOf M owner).map (·.1)) := ris.1
  have r2 : ∀ x ∈ (liveOf M owner).map (·.1), x ∈ List.range (M + 1) := ris.2
  have live : ∀ {j k : Nat}, (j, k) ∈ liveOf M owner ↔ j ≤ M ∧ oAt owner j = some k := mem_live W.sz
  have cover : ∀ k, k < hs.size → k ∈ (liveOf M owner).map (·.2) := fun k hk => by
    obtain ⟨j, j1, j2⟩ := W.all k (by rw [Array.length_toList]; exact hk)
    exact List.mem_map.mpr ⟨(j, k), live.2 ⟨j1, j2⟩, rfl⟩
  have hlen : (liveOf M owner).length = hs.size := by
    obtain ⟨ps, p1, p2⟩ := W.ps
    have nd : ((liveOf M owner).map (·.1)).Nodup := r1.imp fun z => Nat.ne_of_lt z
    have a := nat_nodup_len _ ps nd fun x hx => by
      obtain ⟨⟨y, k⟩, hq, rfl⟩ := List.mem_map.mp hx
      obtain ⟨y1, y2⟩ := live.1 hq
      exact p2 y y1 (by rw [y2]; exact Option.some_ne_none k)
    have b := nat_nodup_len (List.range hs.size) ((liveOf M owner).map (·.2)) List.nodup_range fun k hk => cover k (List.mem_range.mp hk)
    rw [List.length_map, p1, Array.length_toList] at a
    rw [List.length_map, List.length_range] at b
    exact Nat.le_antisymm a b
  refine ⟨_, _, er, perm_range hs.size _ ((List.length_map _).trans hlen) fun k hk => cover k hk, ⟨r1, rfl, ?_, hM, fun x hx => Nat.le_of_lt_succ (List.mem_range.mp (r2 x hx)), fun i h j h1 h2 => ?_⟩, rfl, rfl⟩
  · show ((liveOf M owner).map (·.1)).toArray.size = (((liveOf M owner).map (·.2)).map fun i => hs.getD i 0).length
    simp
  · have g1 : (((liveOf M owner).map (·.2)).map fun i => hs.getD i 0)[i]? = some h := h1
    have g2 : ((liveOf M owner).map (·.1))[i]? = some j := h2
    rw [List.getElem?_map, List.getElem?_map] at g1
    rw [List.getElem?_map] at g2
    obtain ⟨⟨y, k⟩, hq, ey⟩ := Option.map_eq_some_iff.mp g2
    cases ey
    rw [hq] at g1
    have eh : hs.getD k 0 = h := Option.some.inj g1
    obtain ⟨y1, y2⟩ := live.1 (List.mem_of_getElem? hq)
    obtain ⟨h0, K, x1, x2, x3⟩ := W.at_ y k y1 y2
    have e0 : hs.getD k 0 = h0 := by
      rw [Array.getD_eq_getD_getElem?, ← Array.getElem?_toList, x1] <;> rfl
    rw [e0] at eh
    subst eh
    refine ⟨K, x2, fun c hc => ?_⟩
    obtain ⟨k2, ek⟩ := Option.ne_none_iff_exists'.mp (x3 c hc)
    exact List.mem_map.mpr ⟨(way M h0 c, k2), live.2 ⟨way_bd M h0 c, ek⟩, rfl⟩
theorem grow5 : SetTable.sizeAbove (SetTable.grown 5) = 32 := by decide +kernel
theorem grow19 : SetTable.sizeAbove (SetTable.grown 19) = 128 := by decide +kernel
theorem grow77 : SetTable.sizeAbove (SetTable.grown 77) = 512 := by decide +kernel
end K23

set_option Elab.async false
set_option linter.all false
set_option maxRecDepth 100000
set_option maxHeartbeats 4000000
/-! K23c: set(list of rows): the rows, each once, in some order. -/
namespace K23
open PySem PySem.Spec PyProof.Rows L2

section
variable {P : Program} {w : World}
abbrev rhash (P : Program) (w : World) (k : Row) : Int := tupleKeyHash (mixKind P w) k
abbrev IsR (P : Program) (w : World) (h : Heap) (k : Row) (a : Addr) : Prop := IsTupleKey (mixKind P w) h k a
theorem items_leaf {k : Row} {vs : List Value} (h : ItemsAre (mixKind P w) k vs) : ∀ v ∈ vs, (∃ i t, v = Value.int i t) ∨ ∃ x t, v = Value.str x t := by
  induction h with
  | nil => exact fun _ hv => nomatch hv
  | cons h1 _ ih =>
    intro v hv
    rcases List.mem_cons.mp hv with e | hv
    · subst e
      rcases keyIs_shape h1 with ⟨i, t, _, e⟩ | ⟨x, t, _, e⟩
      · exact .inl ⟨i, t, e⟩
      · exact .inr ⟨x, t, e⟩
    · exact ih v hv
theorem IsR.stay {h h' : Heap} {k : Row} {b : Addr} (x : IsR P w h k b) (hk : ∀ o, h.get? b = some o → h'.get? b = some o) : IsR P w h' k b := by
  obtain ⟨o, its, n, ho, q⟩ := x
  exact ⟨o, its, n, hk o ho, q⟩
theorem IsR.apart {h h' : Heap} {k : Row} {a b : Addr} {o : Obj} {es : Array (Int × Value)} {ep : Nat} {t : SetTable} (x : IsR P w h k b) (ho : h.get? a = some o) (hd : o.data = .set es ep t) (hs : Heap.SameBut a h h') : IsR P w h' k b := by
  refine x.stay fun u hu => ?_
  by_cases e : b = a
  · subst e
    obtain ⟨o', its, n, ho', _, hd', _⟩ := x
    rw [ho] at ho'
    cases ho'
    rw [hd] at hd'
    exact nomatch hd'
  · exact (hs.2 b e).trans hu
end

section
variable {P : Program} {w : World} {A : Around} {E : Value → Shared → Prop} {s : Shared}
/-! ### what the search asks of tuples -/
theorem leaf_class {n : Nat} {v : Value} (h : (∃ i t, v = Value.int i t) ∨ ∃ x t, v = Value.str x t) : ofAClassStatement n v = pure false := by
  rcases h with ⟨i, t, rfl⟩ | ⟨x, t, rfl⟩ <;> (cases n <;> rfl)
theorem leaf_hash {n : Nat} {v : Value} (h : (∃ i t, v = Value.int i t) ∨ ∃ x t, v = Value.str x t) : ∃ b, hashByValue n v = pure b := by
  rcases h with ⟨i, t, rfl⟩ | ⟨x, t, rfl⟩
  · cases n <;> exact ⟨true, rfl⟩
  · cases n <;> exact ⟨false, rfl⟩
theorem row_class {k : Row} {b : Addr} {Q : Bool → Shared → Prop} (hk : IsR P w s.heap k b) (h : Q false s) : wpAny (model P w) A (ofAClassStatement 8 (.ref b)) Q E s := by
  have hT := hk.typeIs
  obtain ⟨o, items, n, ho, _, hd, hi⟩ := hk
  have lf := items_leaf hi
  unfold ofAClassStatement
  refine wpAny_bind (wpAny_typeOf hT ?_)
  dsimp only
  simp only [show (("tuple" : String) == "tuple") = true from rfl, if_true, Bool.not_true, Bool.false_eq_true, if_false]
  try refine wpAny_bind (wpAny_pure ?_)
  try simp only [Bool.not_true, Bool.false_eq_true, if_false]
  refine wpAny_bind (m := seqItems? (.ref b)) (wpAny_seqItems ho hd ?_)
  dsimp only
  refine wpAny_bind ?_
  show wpAny _ _ (forIn items _ _) _ _ s
  rw [← Array.forIn_toList]
  refine wpAny_forIn_list _ (fun rest r s' => r.1 = none ∧ s' = s ∧ ∀ v ∈ rest, (∃ i t, v = Value.int i t) ∨ ∃ x t, v = Value.str x t) _ (fun v rest r s' hI => ?_) (fun r s' hI => ?_) _ _ ⟨rfl, rfl, lf⟩
  · obtain ⟨_, rfl, al⟩ := hI
    rw [leaf_class (al v List.mem_cons_self)]
    refine wpAny_bind (wpAny_pure ?_)
    simp only [Bool.false_eq_true, if_false]
    exact wpAny_pure ⟨rfl, rfl, fun u hu => al u (List.mem_cons_of_mem v hu)⟩
  · obtain ⟨r1, r2⟩ := r
    obtain ⟨e, rfl, _⟩ := hI
    simp only at e
    subst e
    exact wpAny_pure h
theorem row_byValue {k : Row} {b : Addr} {Q : Bool → Shared → Prop} (hk : IsR P w s.heap k b) (h : ∀ c, Q c s) : wpAny (model P w) A (hashByValue 8 (.ref b)) Q E s := by
  have hT := hk.typeIs
  obtain ⟨o, items, n, ho, _, hd, hi⟩ := hk
  have lf := items_leaf hi
  unfold hashByValue
  refine wpAny_bind (wpAny_specialOf hT F.slot_tuple_hash.lookup ?_)
  refine wpAny_bind (m := seqItems? (.ref b)) (wpAny_seqItems ho hd ?_)
  refine wpAny_bind ?_
  show wpAny _ _ (forIn items _ _) _ _ s
  rw [← Array.forIn_toList]
  refine wpAny_forIn_list _ (fun rest r s' => s' = s ∧ ∀ v ∈ rest, (∃ i t, v = Value.int i t) ∨ ∃ x t, v = Value.str x t) _ (fun v rest r s' hI => ?_) (fun r s' hI => ?_) _ _ ⟨rfl, lf⟩
  · obtain ⟨rfl, al⟩ := hI
    obtain ⟨c, ec⟩ := leaf_hash (n := 7) (al v List.mem_cons_self)
    rw [ec]
    refine wpAny_bind (wpAny_pure ?_)
    cases c with
    | true =>
      simp only [Bool.not_true, Bool.false_eq_true, if_false]
      exact wpAny_pure ⟨rfl, fun u hu => al u (List.mem_cons_of_mem v hu)⟩
    | false =>
      simp only [Bool.not_false, if_true]
      exact wpAny_pure (wpAny_pure (h false))
  · obtain ⟨r1, r2⟩ := r
    obtain ⟨rfl, _⟩ := hI
    cases r1 with
    | none => exact wpAny_pure (h _)
    | some c => exact wpAny_pure (h _)
theorem row_unseen {k : Row} {b : Addr} {Q : Bool → Shared → Prop} (hk : IsR P w s.heap k b) {ys : List Value} (hy : ∀ y ∈ ys, ∃ k' c, y = Value.ref c ∧ IsR P w s.heap k' c) (h : Q false s) :
    wpAny (model P w) A (searchCouldBeSeen (.ref b) ys) Q E s := by
  unfold searchCouldBeSeen
  refine wpAny_bind ?_
  refine wpAny_forIn_list _ (fun rest r s' => r.1 = none ∧ s' = s ∧ ∀ y ∈ rest, ∃ k' c, y = Value.ref c ∧ IsR P w s.heap k' c) _ (fun v rest r s' hI => ?_) (fun r s' hI => ?_) _ _ ⟨rfl, rfl, hy⟩
  · obtain ⟨_, rfl, al⟩ := hI
    obtain ⟨k', c, rfl, hc⟩ := al v List.mem_cons_self
    have al' := fun u (hu : u ∈ rest) => al u (List.mem_cons_of_mem _ hu)
    dsimp only
    by_cases hv : (b == c || (carriedByValue (.ref b) && carriedByValue (.ref c))) = true
    · exact wp_if_pos hv (wpAny_pure ⟨rfl, rfl, al'⟩)
    · refine wp_if_neg hv (wpAny_bind (wpAny_eqIsQuiet_tuple hk ?_))
      simp only [Bool.not_true, Bool.false_eq_true, if_false]
      refine wpAny_bind (wpAny_eqIsQuiet_tuple hc ?_)
      simp only [Bool.not_true, Bool.false_eq_true, if_false]
      refine wpAny_bind (row_class hk ?_)
      simp only [Bool.false_eq_true, if_false]
      refine wpAny_bind (row_class hc ?_)
      simp only [Bool.false_eq_true, if_false]
      exact wpAny_pure ⟨rfl, rfl, al'⟩
  · obtain ⟨r1, r2⟩ := r
    obtain ⟨e, rfl, _⟩ := hI
    simp only at e
    subst e
    exact wpAny_pure h
end

/-! ### the set -/
def rowsAt (P : Program) (w : World) (L : List (Addr × Row)) : List (Int × Value) := L.map fun p => (rhash P w p.2, Value.ref p.1)
structure SetR (P : Program) (w : World) (h : Heap) (a : Addr) (L : List (Addr × Row)) (es : Array (Int × Value)) (ep : Nat) (t : SetTable) : Prop where
  ob : ∃ o, h.get? a = some o ∧ o.ExactSet ∧ o.data = .set es ep t
  rows : es.toList = rowsAt P w L
  tab : Tab t (L.map fun p => rhash P w p.2)
  nd : (L.map (·.2)).Nodup
  tup : ∀ p ∈ L, IsR P w h p.2 p.1
  led : w.params.followText "set-order" = true ∨ t.led = true
  room : L.length * 5 < t.mask * 3
theorem rows_size {P : Program} {w : World} {L : List (Addr × Row)} {es : Array (Int × Value)} (h : es.toList = rowsAt P w L) : es.size = L.length := by
  have q := congrArg List.length h
  rwa [Array.length_toList, rowsAt, List.length_map] at q
theorem rows_entry {P : Program} {w : World} {L : List (Addr × Row)} {es : Array (Int × Value)} (h : es.toList = rowsAt P w L) {i : Nat} {p : Addr × Row} (e : L[i]? = some p) : es[i]? = some (rhash P w p.2, Value.ref p.1) := by
  rw [← Array.getElem?_toList, h, rowsAt, List.getElem?_map, e] <;> rfl
section
variable {P : Program} {w : World} {A : Around} {E : Value → Shared → Prop} {s : Shared} {a : Addr} {L : List (Addr × Row)} {es : Array (Int × Value)} {ep : Nat} {t : SetTable}
theorem fits_by (hsz : t.place.size = es.size) (hc : t.dummies = #[]) (hle : es.size ≤ t.mask) : t.fits es.size = true := by
  unfold SetTable.fits SetTable.fill
  rw [hc, Bool.and_eq_true, beq_iff_eq, decide_eq_true_eq]
  exact ⟨hsz, by show t.place.size + 0 ≤ t.mask; omega⟩
theorem SetR.fits (R : SetR P w s.heap a L es ep t) : t.fits es.size = true := by
  have h1 := R.tab.many
  rw [List.length_map] at h1
  have h2 := rows_size R.rows
  have h3 := R.room
  exact fits_by (by omega) R.tab.clean (by omega)
theorem SetR.few (R : SetR P w s.heap a L es ep t) : L.length ≤ 306 := by
  have h1 := R.room
  have h2 := R.tab.msk.le
  omega
theorem SetR.noway (R : SetR P w s.heap a L es ep t) : ¬ t.gaveWay = true := by
  unfold SetTable.gaveWay
  rw [R.tab.msk.odd]
  decide
theorem nodummy (m : Nat) : ∀ (n : Nat) (p : SetTable.Probe), p.dummy = none → (nth m p n).dummy = none
  | 0, _, h => h
  | n + 1, p, h => nodummy m n (adv m p) (by unfold adv; split <;> exact h)
/-- the search, from the c-th step of its way -/
theorem seek (R : SetR P w s.heap a L es ep t) {x : Addr} {k : Row} (hx : IsR P w s.heap k x) (hu : A.units < cLine) {K : Nat} (hKf : K < 10 * SetTable.turns t.mask)
    (hK : way t.mask (rhash P w k) K ∉ t.place.toList) (hKb : ∀ c, c < K → way t.mask (rhash P w k) c ∈ t.place.toList) {Q : SetFound → Shared → Prop}
    (yes : k ∈ L.map (·.2) → Q (.there none) s) (no : k ∉ L.map (·.2) → Q (.free (way t.mask (rhash P w k) K) false) s) :
    ∀ (f c : Nat) (stand : Option SetTable.Probe), stand.getD (t.probeStart (rhash P w k)) = nth t.mask (t.probeStart (rhash P w k)) c → c ≤ K → K - c < f →
      (∀ (i : Nat) p, L[i]? = some p → p.2 = k → ∃ c', c ≤ c' ∧ c' < K ∧ t.place.toList[i]? = some (way t.mask (rhash P w k) c')) →
      wpAny (model P w) A (setSearchFrom a (.ref x) (rhash P w k) true f stand) Q E s
  | 0, _, _, _, _, hf, _ => absurd hf (Nat.not_lt_zero _)
  | f + 1, c, stand, hst, hc, hf, ahead => by
    obtain ⟨o, ho, hex, hd⟩ := R.ob
    rw [setSearchFrom_succ]
    refine wpAny_bind (wpAny_setState_of ho hd R.fits ?_)
    dsimp only
    refine wp_if_neg R.noway ?_
    try refine wpAny_bind (wpAny_pure ?_)
    have from_c : ∀ q, nth t.mask (nth t.mask (t.probeStart (rhash P w k)) c) q = nth t.mask (t.probeStart (rhash P w k)) (c + q) := fun q => (nth_add t.mask c _ q).symm
    have at_c : ∀ q, (nth t.mask (nth t.mask (t.probeStart (rhash P w k)) c) q).j = way t.mask (rhash P w k) (c + q) := fun q => congrArg SetTable.Probe.j (from_c q)
    have cK : c + (K - c) = K := Nat.add_sub_cancel' hc
    have spec := go_spec t R.tab.up R.tab.clean (fun i => (es[i]?.map (·.1)).getD 0) (rhash P w k) (10 * SetTable.turns t.mask) (K - c) _ (nodummy t.mask c (t.probeStart (rhash P w k)) rfl) (Nat.lt_of_le_of_lt (Nat.sub_le K c) hKf)
      (fun q hq => (at_c q).symm ▸ hKb (c + q) (by omega)) (by rw [at_c, cK]; exact hK)
    have hashAt : ∀ (i : Nat) p, L[i]? = some p → (es[i]?.map (·.1)).getD 0 = rhash P w p.2 := fun i p hp => by
      rw [rows_entry R.rows hp] <;> rfl
    rcases spec with ⟨q, i, hq, hi, hh, none_before, found⟩ | ⟨none_before, found⟩
    · rw [at_c, from_c] at found
      rw [at_c] at hi
      have here : t.probe (fun i => (es[i]?.map (·.1)).getD 0) (rhash P w k) (stand.getD (t.probeStart (rhash P w k))) = some (.candidate (way t.mask (rhash P w k) (c + q)) i (nth t.mask (t.probeStart (rhash P w k)) (c + (q + 1)))) := by
        rw [hst]
        exact found
      rw [here]
      dsimp only
      have hil : i < L.length := by
        have h1 : i < t.place.toList.length := (List.getElem?_eq_some_iff.mp hi).1
        have h2 := R.tab.many
        rw [List.length_map] at h2
        rwa [Array.length_toList, h2] at h1
      obtain ⟨p, hp⟩ : ∃ p, L[i]? = some p := ⟨_, List.getElem?_eq_getElem hil⟩
      have hm : p ∈ L := List.mem_of_getElem? hp
      have tail : wpAny (model P w) A (searchRest a (.ref x) (rhash P w k) true f es t (way t.mask (rhash P w k) (c + q)) i (nth t.mask (t.probeStart (rhash P w k)) (c + (q + 1)))) Q E s := by
        unfold searchRest
        rw [rows_entry R.rows hp]
        dsimp only
        refine wpAny_bind (wpAny_holding (wpAny_eqBool_tuple hu (R.tup p hm) hx ?_))
        refine wpAny_bind (wpAny_setState_of ho hd R.fits ?_)
        dsimp only
        by_cases hkk : p.2 = k
        · exact wp_if_pos (by simp [hkk]) (wpAny_pure (yes (List.mem_map.mpr ⟨p, hm, hkk⟩)))
        · refine wp_if_neg (by simp [hkk]) ?_
          try refine wpAny_bind (wpAny_pure ?_)
          have hsl : t.slot (way t.mask (rhash P w k) (c + q)) = .live i := slot_live R.tab.up hi
          rw [sameMem]
          dsimp only
          simp only [if_true, hsl, rows_entry R.rows hp]
          refine wpAny_bind (wpAny_isSame_ref_self (wpAny_bind (wpAny_pure ?_)))
          simp only [if_true]
          refine wp_if_neg (by simp [hkk]) ?_
          refine seek R hx hu hKf hK hKb yes no f (c + (q + 1)) _ rfl (by omega) (by omega) fun i0 p0 h0 hk0 => ?_
          obtain ⟨c', a1, a2, a3⟩ := ahead i0 p0 h0 hk0
          refine ⟨c', ?_, a2, a3⟩
          rcases Nat.lt_trichotomy c' (c + q) with z | z | z
          · refine absurd ((hashAt i0 p0 h0).trans (congrArg (rhash P w) hk0)) (none_before (c' - c) i0 (by omega) ?_)
            rw [at_c, Nat.add_sub_cancel' a1]
            exact a3
          · rw [z] at a3
            have s0 := slot_live R.tab.up a3
            rw [hsl] at s0
            injection s0 with s0
            rw [← s0, hp] at h0
            cases h0
            exact absurd hk0 hkk
          · omega
      by_cases hl : t.led = true
      · refine wp_if_neg (by simp [hl]) ?_
        try refine wpAny_bind (wpAny_pure ?_)
        exact tail
      · refine wp_if_pos (by simp [hl]) (wpAny_bind (row_unseen hx (fun y hy => ?_) ?_))
        · obtain ⟨e, he, rfl⟩ := List.mem_map.mp hy
          have he1 : e ∈ es ∧ e.1 = rhash P w k := by simpa using he
          have he2 : e ∈ es.toList := by simpa using he1.1
          rw [R.rows] at he2
          obtain ⟨p2, hp2, rfl⟩ := List.mem_map.mp he2
          exact ⟨p2.2, p2.1, rfl, R.tup p2 hp2⟩
        · refine wp_if_neg (by decide) ?_
          try refine wpAny_bind (wpAny_pure ?_)
          exact tail
    · rw [at_c, cK] at found
      have here : t.probe (fun i => (es[i]?.map (·.1)).getD 0) (rhash P w k) (stand.getD (t.probeStart (rhash P w k))) = some (.empty (way t.mask (rhash P w k) K) none) := by
        rw [hst]
        exact found
      rw [here]
      dsimp only
      refine wpAny_pure (no fun hm => ?_)
      obtain ⟨p0, h0, hk0⟩ := List.mem_map.mp hm
      obtain ⟨i0, hi0⟩ := List.getElem?_of_mem h0
      obtain ⟨c', a1, a2, a3⟩ := ahead i0 p0 hi0 hk0
      refine none_before (c' - c) i0 (by omega) ?_ ((hashAt i0 p0 hi0).trans (congrArg (rhash P w) hk0))
      rw [at_c, Nat.add_sub_cancel' a1]
      exact a3
theorem seek_all (R : SetR P w s.heap a L es ep t) {x : Addr} {k : Row} (hx : IsR P w s.heap k x) (hu : A.units < cLine) {Q : SetFound → Shared → Prop}
    (yes : k ∈ L.map (·.2) → Q (.there none) s)
    (no : ∀ K, k ∉ L.map (·.2) → way t.mask (rhash P w k) K ∉ t.place.toList → (∀ c, c < K → way t.mask (rhash P w k) c ∈ t.place.toList) → Q (.free (way t.mask (rhash P w k) K) false) s) :
    wpAny (model P w) A (setSearch a (.ref x) (rhash P w k) true) Q E s := by
  have hroom := R.room
  obtain ⟨K, hKf, hK, hKb⟩ := R.tab.gap (by rw [List.length_map]; omega) (rhash P w k)
  have h5 := R.tab.msk.le
  have h6 : SetTable.turns t.mask = t.mask + 15 := rfl
  unfold setSearch
  refine seek R hx hu hKf hK hKb yes (fun hn => no K hn hK hKb) 100000 0 none rfl (Nat.zero_le _) (by omega) fun i p hp hk => ?_
  have hil : i < t.place.toList.length := by
    have h1 : i < L.length := (List.getElem?_eq_some_iff.mp hp).1
    have h2 := R.tab.many
    rw [List.length_map] at h2
    rwa [Array.length_toList, h2]
  have hj := List.getElem?_eq_getElem hil
  obtain ⟨c, hc, e⟩ := R.tab.ahead hK (i := i) (h := rhash P w k) (by rw [List.getElem?_map, hp, ← hk] <;> rfl) hj
  exact ⟨c, Nat.zero_le c, hc, hj.trans (congrArg some e.symm)⟩

/-! ### the rows in another order -/
theorem rows_in (order : Array Nat) (hr : es.toList = rowsAt P w L) (hp : order.toList.Perm (List.range L.length)) :
    ∃ L2, (order.filterMap (es[·]?)).toList = rowsAt P w L2 ∧ L2.Perm L ∧ (L2.map fun p => rhash P w p.2) = order.toList.map fun i => (es.map (·.1)).getD i 0 := by
  have key : ∀ l : List Nat, (∀ i ∈ l, i < L.length) → l.filterMap (fun i => es[i]?) = rowsAt P w (l.filterMap fun i => L[i]?) ∧ ((l.filterMap fun i => L[i]?).map fun p => rhash P w p.2) = l.map fun i => (es.map (·.1)).getD i 0 := by
    intro l
    induction l with
    | nil => exact fun _ => ⟨rfl, rfl⟩
    | cons i l ih =>
      intro hl
      have e0 := List.getElem?_eq_getElem (hl i List.mem_cons_self)
      have e1 := rows_entry hr e0
      obtain ⟨i1, i2⟩ := ih fun j hj => hl j (List.mem_cons_of_mem _ hj)
      have e2 : (es.map (·.1)).getD i 0 = rhash P w (L[i]'(hl i List.mem_cons_self)).2 := by
        rw [Array.getD_eq_getD_getElem?, Array.getElem?_map, e1] <;> rfl
      rw [List.filterMap_cons_some e1, List.filterMap_cons_some e0, i1, List.map_cons, List.map_cons, i2, e2]
      exact ⟨rfl, rfl⟩
  obtain ⟨k1, k2⟩ := key order.toList fun i hi => List.mem_range.mp (hp.mem_iff.mp hi)
  refine ⟨_, by first | (rw [Array.toList_filterMap]; exact k1) | simpa using k1, ?_, k2⟩
  refine (hp.filterMap _).trans (List.Perm.of_eq ?_)
  have all : ∀ n, n ≤ L.length → (List.range n).filterMap (fun i => L[i]?) = L.take n := by
    intro n
    induction n with
    | zero => exact fun _ => rfl
    | succ n ih =>
      intro hn
      rw [List.range_succ, List.filterMap_append, ih (Nat.le_of_succ_le hn), List.take_succ, List.getElem?_eq_getElem hn, List.filterMap_cons_some (List.getElem?_eq_getElem hn)]
      rfl
  rw [all _ (Nat.le_refl _), List.take_length]
theorem relay {o : Obj} (ho : s.heap.get? a = some o) (hex : o.ExactSet) (hd : o.data = .set es ep t) (hrows : es.toList = rowsAt P w L) (T0 : Tab t (L.map fun p => rhash P w p.2)) (hfl : L.length ≤ t.mask)
    (nd : (L.map (·.2)).Nodup) (tup : ∀ p ∈ L, IsR P w s.heap p.2 p.1) (ld : w.params.followText "set-order" = true ∨ t.led = true) {wanted M : Nat}
    (hw : SetTable.sizeAbove wanted = M + 1) (hM : Msk M) (hn : L.length * 5 < M * 3) {Q : Unit → Shared → Prop}
    (hQ : ∀ h' L' es' ep' t', Heap.SameBut a s.heap h' → SetR P w h' a L' es' ep' t' → L'.Perm L → Q () { s with heap := h' }) : wpAny (model P w) A (setRelay a wanted) Q E s := by
  have hsl := rows_size hrows
  have hmany := T0.many
  rw [List.length_map] at hmany
  obtain ⟨t', order, e, hp, T, em, el⟩ := anew t (hs := es.map (·.1)) (wanted := wanted) (M := M) (by omega) hM (by rw [Array.size_map]; omega)
  rw [Array.size_map, hsl] at hp
  obtain ⟨L2, r1, r2, r3⟩ := rows_in order hrows hp
  rw [← r3] at T
  have hs2 : (order.filterMap (es[·]?)).size = es.size := by rw [rows_size r1, r2.length_eq, hsl]
  have hMl := hM.le
  rw [setRelay_eq]
  refine wpAny_bind (wpAny_setState_of ho hd (fits_by (by omega) T0.clean (by omega)) ?_)
  dsimp only
  refine wp_if_neg (by rw [sizeLine_eq]; omega) ?_
  try refine wpAny_bind (wpAny_pure ?_)
  rw [e]
  dsimp only
  refine wpAny_bind (wp_if_neg (by rw [hs2]; simp) ?_)
  try refine wpAny_bind (wpAny_pure ?_)
  refine wpAny_pure ?_
  dsimp only
  refine wpAny_storeSet_of ho hd ?_ (by rw [hs2, hsl, sizeLine_eq]; omega)
  have sb : Heap.SameBut a s.heap (s.heap.update a (Obj.putSet (order.filterMap (es[·]?)) t')) := Heap.SameBut.update ..
  refine hQ _ L2 _ (ep + 1) t' sb ⟨⟨_, store_at ho hd, ⟨hex.1, hex.2.1, hex.2.2⟩, rfl⟩, r1, T, (r2.map (·.2)).nodup_iff.mpr nd, fun p hpm => (tup p (r2.mem_iff.mp hpm)).apart ho hd sb, by rw [el]; exact ld, ?_⟩ r2
  rw [r2.length_eq, em]
  exact hn
/-- one more row is added, or it is there -/
theorem put_in (R : SetR P w s.heap a L es ep t) {x : Addr} {k : Row} (hx : IsR P w s.heap k x) (hu : A.units < cLine) (hfew : L.length < 306) {Q : Bool → Shared → Prop}
    (hQ : ∀ b h' L' es' ep' t', Heap.SameBut a s.heap h' → SetR P w h' a L' es' ep' t' → (k ∈ L.map (·.2) → L' = L) → (k ∉ L.map (·.2) → L'.Perm ((x, k) :: L)) → Q b { s with heap := h' }) :
    wpAny (model P w) A (setAddHashed a (.ref x) (rhash P w k)) Q E s := by
  obtain ⟨o, ho, hex, hd⟩ := R.ob
  have hsl := rows_size R.rows
  have hroom := R.room
  unfold setAddHashed
  refine wpAny_holding ?_
  rw [show (100000 : Nat) = 99999 + 1 from rfl, setAddHashedIn_succ]
  refine wpAny_bind (wpAny_setState_of ho hd R.fits ?_)
  dsimp only
  refine wp_if_neg (by simp [byScan, Value.scannable]) ?_
  try refine wpAny_bind (wpAny_pure ?_)
  refine wpAny_bind (seek_all R hx hu (fun hm => ?_) fun K hm hK hb => ?_)
  · exact wpAny_pure (hQ false s.heap L es ep t (Heap.SameBut.refl a s.heap) R (fun _ => rfl) fun z => absurd hm z)
  · dsimp only
    refine wpAny_bind (wpAny_setState_of ho hd R.fits ?_)
    dsimp only
    obtain ⟨p, t1, e1, e2, e3, T1, e4, e5, e6⟩ := R.tab.more hK hb
    rw [List.length_map] at e3 e6
    have e7 : (L.take p ++ (x, k) :: L.drop p).map (fun q => rhash P w q.2) = (L.map fun q => rhash P w q.2).take p ++ rhash P w k :: (L.map fun q => rhash P w q.2).drop p := by
      rw [List.map_append, List.map_cons, List.map_take, List.map_drop]
    rw [← e7] at T1
    have pm := put_perm L p (x, k)
    have hin : (SetTable.insertAt es p (rhash P w k, Value.ref x)).toList = rowsAt P w (L.take p ++ (x, k) :: L.drop p) := by
      rw [SetTable.toList_insertAt, R.rows]
      unfold rowsAt
      rw [List.map_append, List.map_cons, List.map_take, List.map_drop]
    rw [e1]
    dsimp only
    generalize SetTable.insertAt es p (rhash P w k, Value.ref x) = es1 at hin ⊢
    generalize L.take p ++ (x, k) :: L.drop p = L1 at pm T1 hin
    have l1 : L1.length = L.length + 1 := pm.length_eq
    have nd1 : (L1.map (·.2)).Nodup := (pm.map (·.2)).nodup_iff.mpr (List.nodup_cons.mpr ⟨hm, R.nd⟩)
    -- whatever the table is told of its order
    have rest : ∀ t2 : SetTable, t2.mask = t1.mask → t2.place = t1.place → t2.dummies = t1.dummies → t2.led = t1.led → wpAny (model P w) A (do
        storeSet a es1 t2
        if !false && t2.tooFull then setRelay a (SetTable.grown (es.size + 1))
        return true) Q E s := by
      intro t2 g1 g2 g3 g4
      have T2 : Tab t2 (L1.map fun q => rhash P w q.2) := ⟨g2 ▸ T1.up, g3.trans T1.clean, g2 ▸ T1.many, g1 ▸ T1.msk, by rw [g1, g2]; exact T1.low, by rw [g1, g2]; exact T1.seen⟩
      have f2 : t2.fill = L.length + 1 := by
        refine Eq.trans ?_ e6
        unfold SetTable.fill
        rw [g2, g3]
      refine wpAny_bind (wpAny_storeSet_of ho hd ?_ (by rw [rows_size hin, l1, sizeLine_eq]; omega))
      have sb : Heap.SameBut a s.heap (s.heap.update a (Obj.putSet es1 t2)) := Heap.SameBut.update ..
      have ho1 := store_at (es' := es1) (t' := t2) ho hd
      generalize s.heap.update a (Obj.putSet es1 t2) = h1 at sb ho1 ⊢
      have tup1 : ∀ q ∈ L1, IsR P w h1 q.2 q.1 := fun q hq => by
        rcases List.mem_cons.mp (pm.mem_iff.mp hq) with e | hq
        · subst e
          exact hx.apart ho hd sb
        · exact (R.tup q hq).apart ho hd sb
      have ld1 : w.params.followText "set-order" = true ∨ t2.led = true := by rw [g4, e5]; exact R.led
      by_cases hf : t2.tooFull = true
      · have hfull : (L.length + 1) * 5 ≥ t.mask * 3 := by
          have h := hf
          unfold SetTable.tooFull at h
          rw [decide_eq_true_eq, f2, g1, e4] at h
          exact h
        have go : ∀ M, SetTable.sizeAbove (SetTable.grown (L.length + 1)) = M + 1 → Msk M → (L.length + 1) * 5 < M * 3 → L.length + 1 ≤ t.mask →
            wpAny (model P w) A (setRelay a (SetTable.grown (es.size + 1))) (fun _ s' => wpAny (model P w) A (pure true) Q E s') E { s with heap := h1 } := fun M g1' g2' g3' g4' => by
          rw [hsl]
          refine relay (s := { s with heap := h1 }) ho1 ⟨hex.1, hex.2.1, hex.2.2⟩ rfl hin T2 (by rw [l1, g1, e4]; exact g4') nd1 tup1 ld1 g1' g2' (by rw [l1]; exact g3') fun h2 L2 es2 ep2 t3 sb2 R2 pm2 => ?_
          exact wpAny_pure (hQ true h2 L2 es2 ep2 t3 (sb.trans sb2) R2 (fun z => absurd z hm) fun _ => pm2.trans pm)
        have all : wpAny (model P w) A (setRelay a (SetTable.grown (es.size + 1))) (fun _ s' => wpAny (model P w) A (pure true) Q E s') E { s with heap := h1 } := by
          rcases R.tab.msk.is with e | e | e | e
          · have e2 : L.length = 4 := by omega
            exact go 31 (by rw [e2]; exact grow5) ⟨.inr (.inl rfl)⟩ (by omega) (by omega)
          · have e2 : L.length = 18 := by omega
            exact go 127 (by rw [e2]; exact grow19) ⟨.inr (.inr (.inl rfl))⟩ (by omega) (by omega)
          · have e2 : L.length = 76 := by omega
            exact go 511 (by rw [e2]; exact grow77) ⟨.inr (.inr (.inr rfl))⟩ (by omega) (by omega)
          · omega
        first
          | exact wpAny_bind (wp_if_pos (by simp [hf]) all)
          | exact wp_if_pos (by simp [hf]) (wpAny_bind all)
      · have fin : Q true { s with heap := h1 } := hQ true h1 L1 es1 (ep + 1) t2 sb ⟨⟨_, ho1, ⟨hex.1, hex.2.1, hex.2.2⟩, rfl⟩, hin, T2, nd1, tup1, ld1, by
          have h := hf
          unfold SetTable.tooFull at h
          rw [decide_eq_true_eq, f2, g1, e4] at h
          rw [l1, g1, e4]
          omega⟩ (fun z => absurd z hm) fun _ => pm
        first
          | exact wp_if_neg (by simp [hf]) (wpAny_pure fin)
          | exact wpAny_bind (wp_if_neg (by simp [hf]) (wpAny_pure (wpAny_pure fin)))
    by_cases hpl : t1.plain = true
    · have both : ∀ c : Bool, wpAny (model P w) A (do
          storeSet a es1 (if c = true then t1 else { t1 with plain := false })
          if !false && (if c = true then t1 else { t1 with plain := false }).tooFull then setRelay a (SetTable.grown (es.size + 1))
          return true) Q E s := fun c => by
        cases c
        · exact rest { t1 with plain := false } rfl rfl rfl rfl
        · exact rest t1 rfl rfl rfl rfl
      first
        | exact wpAny_bind (wp_if_pos hpl (row_byValue hx fun c => both c))
        | exact wp_if_pos hpl (wpAny_bind (row_byValue hx fun c => both c))
    · have one := rest t1 rfl rfl rfl rfl
      first
        | exact wpAny_bind (wp_if_neg hpl (wpAny_pure one))
        | exact wp_if_neg hpl (wpAny_bind (wpAny_pure one))
        | exact wp_if_neg hpl one
end
end K23

set_option Elab.async false
set_option linter.all false
set_option maxRecDepth 100000
set_option maxHeartbeats 4000000
/-! K23d: set(xs), sorted(set(xs)) of rows. -/
namespace K23
open PySem PySem.Spec PyProof.Rows L2

/-- what the set has of the first i rows -/
structure Has (ks : List (Addr × Row)) (i : Nat) (L : List (Addr × Row)) : Prop where
  sub : ∀ p ∈ L, p ∈ ks.take i
  all : ∀ p ∈ ks.take i, p.2 ∈ L.map (·.2)
  len : L.length ≤ i
theorem take_more {α : Type} {l : List α} {i : Nat} {x : α} (h : l[i]? = some x) : l.take (i + 1) = l.take i ++ [x] := by
  rw [List.take_succ, h] <;> rfl
theorem Has.keep {ks L : List (Addr × Row)} {i : Nat} {x : Addr × Row} (g : Has ks i L) (h : ks[i]? = some x) (hm : x.2 ∈ L.map (·.2)) : Has ks (i + 1) L := by
  constructor
  · intro p hp
    rw [take_more h]
    exact List.mem_append_left _ (g.sub p hp)
  · intro p hp
    rw [take_more h, List.mem_append, List.mem_singleton] at hp
    exact hp.elim (g.all p) fun z => z ▸ hm
  · exact Nat.le_succ_of_le g.len
theorem Has.grow {ks L L' : List (Addr × Row)} {i : Nat} {x : Addr × Row} (g : Has ks i L) (h : ks[i]? = some x) (pm : L'.Perm (x :: L)) : Has ks (i + 1) L' := by
  constructor
  · intro p hp
    rw [take_more h, List.mem_append, List.mem_singleton]
    exact (List.mem_cons.mp (pm.mem_iff.mp hp)).symm.imp (g.sub p) id
  · intro p hp
    rw [take_more h, List.mem_append, List.mem_singleton] at hp
    rw [(pm.map (·.2)).mem_iff, List.map_cons, List.mem_cons]
    exact hp.symm.imp (fun z => by rw [z]) (g.all p)
  · rw [pm.length_eq]
    exact Nat.succ_le_succ g.len

section
variable {P : Program} {w : World} {A : Around} {E : Value → Shared → Prop} {s : Shared}
theorem SetR.stay {h h' : Heap} {a : Addr} {L : List (Addr × Row)} {es : Array (Int × Value)} {ep : Nat} {t : SetTable} (R : SetR P w h a L es ep t) (ha : ∀ o, h.get? a = some o → h'.get? a = some o) (ht : ∀ p ∈ L, IsR P w h' p.2 p.1) : SetR P w h' a L es ep t := by
  obtain ⟨o, ho, r⟩ := R.ob
  exact ⟨⟨o, ha o ho, r⟩, R.rows, R.tab, R.nd, ht, R.led, R.room⟩
abbrev newSet (w : World) : Obj := { cls := .type "set", dict := none, data := .set #[] 0 (.fresh 0 0 (!w.params.followText "set-order")) }
theorem setR_new {h : Heap} {a : Addr} (ho : h.get? a = some (newSet w)) : SetR P w h a [] #[] 0 (.fresh 0 0 (!w.params.followText "set-order")) := by
  refine ⟨⟨_, ho, ⟨rfl, rfl, rfl⟩, rfl⟩, rfl, ⟨List.Pairwise.nil, rfl, rfl, ⟨.inl rfl⟩, fun x hx => (nomatch hx), fun i h j hi => ?_⟩, List.nodup_nil, fun p hp => (nomatch hp), ?_, (by show 0 * 5 < 7 * 3; decide)⟩
  · simp at hi
  · show _ ∨ (!w.params.followText "set-order") = true
    cases w.params.followText "set-order"
    · exact .inr rfl
    · exact .inl rfl

/-- set.update's loop over rows -/
theorem fill_set {I : Addr} {fp wr : List Addr} {G : Array GenState → Array GenState → Prop} {n : Nat} {Pv : Nat → Value → Prop} {St : Nat → Shared → Prop} {R : Result → Shared → Prop}
    (W : WalksS P w A.in1 I fp wr G n Pv St) (S : Addr) (hSf : S ∉ fp) (ks : List (Addr × Row)) (hn : n = ks.length) (hfew : ks.length ≤ 306) (hval : ∀ i v, Pv i v → ∃ p, ks[i]? = some p ∧ v = .ref p.1)
    (h0 : Heap) (hk : ∀ p ∈ ks, IsR P w h0 p.2 p.1) (hS0 : h0.get? S = none) (hw0 : ∀ b ∈ wr, h0.get? b = none) (hu : A.in1.units < cLine) :
    ∀ (k i : Nat) (s : Shared), n - i = k → i ≤ n → St i s → (∀ b o, h0.get? b = some o → s.heap.get? b = some o) → (∃ L es ep t, SetR P w s.heap S L es ep t ∧ Has ks i L) →
      (∀ s' L es ep t, Moved (S :: wr) G s s' → SetR P w s'.heap S L es ep t → Has ks n L → (∀ b o, h0.get? b = some o → s'.heap.get? b = some o) → R (.ok (.ret .none)) s') →
      codeAny (model P w) A (.builtin "set.update.loop" ⟨[.ref S, .ref I], []⟩) R s := by
  have hSw : S ∉ wr := fun h => hSf (W.sub _ h)
  have wider : ∀ b ∈ wr, b ∈ S :: wr := fun b hb => List.mem_cons_of_mem S hb
  have stays : ∀ {s s' : Shared}, Moved wr G s s' → (∀ b o, h0.get? b = some o → s.heap.get? b = some o) → ∀ b o, h0.get? b = some o → s'.heap.get? b = some o := fun hm hkp b o e =>
    hm.heap b o (fun hb => by rw [hw0 b hb] at e; cases e) (hkp b o e)
  intro k
  induction k with
  | zero =>
    rintro i s hk' hi hst hkp ⟨L, es, ep, t, hS, g⟩ hR
    obtain rfl : i = n := Nat.le_antisymm hi (Nat.le_of_sub_eq_zero hk')
    refine codeAny_builtin F.entry_set_update_loop ?_
    rw [Around.under_plainId F.plain_set_update_loop _]
    refine wpAny_bind (m := pyNext (.ref I)) (W.done s _ _ hst fun s' hm => ?_)
    have hkp' := stays hm hkp
    exact wpAny_pure (hR s' L es ep t (hm.mono wider) (hS.stay (fun o e => hm.heap S o hSw e) fun p hp => (hk p (List.mem_of_mem_take (g.sub p hp))).stay (hkp' p.1)) g hkp')
  | succ k ih =>
    rintro i s hk' hi hst hkp ⟨L, es, ep, t, hS, g⟩ hR
    have hlt : i < n := Nat.lt_of_sub_pos (by omega)
    refine codeAny_builtin F.entry_set_update_loop ?_
    rw [Around.under_plainId F.plain_set_update_loop _]
    refine wpAny_bind (m := pyNext (.ref I)) (W.item i s _ _ hlt hst fun v s' hP hst' hm => ?_)
    obtain ⟨p, hp, rfl⟩ := hval i v hP
    have hkp' := stays hm hkp
    have hS' : SetR P w s'.heap S L es ep t := hS.stay (fun o e => hm.heap S o hSw e) fun q hq => (hk q (List.mem_of_mem_take (g.sub q hq))).stay (hkp' q.1)
    have hx : IsR P w s'.heap p.2 p.1 := (hk p (List.mem_of_getElem? hp)).stay (hkp' p.1)
    refine wpAny_bind (m := holding [Value.ref p.1] (setAdd S (.ref p.1))) (wpAny_holding ?_)
    unfold setAdd
    refine wpAny_holding (wpAny_bind (wpAny_pyHash_tuple hu hx ?_))
    refine put_in (s := { s' with toks := s'.toks + (p.2.length + 1) }) hS' hx hu (by have := g.len; omega) fun b h' L' es' ep' t' hsb hS2 c1 c2 => ?_
    have g' : Has ks (i + 1) L' := by
      by_cases c : p.2 ∈ L.map (·.2)
      · exact c1 c ▸ g.keep hp c
      · exact g.grow hp (c2 c)
    have hkp2 : ∀ b o, h0.get? b = some o → h'.get? b = some o := fun b o e => (hsb.2 b (fun z => by rw [z, hS0] at e; cases e)).trans (hkp' b o e)
    refine wpAny_pure ⟨plainId_quiet F.plain_set_update_loop _, ih (i + 1) _ (by omega) hlt (W.frame _ s' _ _ hst' (Nat.le_add_right _ _) fun b hb o e => ?_) hkp2 ⟨L', es', ep', t', hS2, g'⟩ fun s'' L2 es2 ep2 t2 hm'' hS'' g'' hkp'' => ?_⟩
    · rw [hsb.2 b fun z => hSf (z ▸ hb)]
      exact e
    · refine hR s'' L2 es2 ep2 t2 (Moved.trans W.gtrans ((hm.mono wider).then_heap (Nat.le_add_right _ _) fun b o hb e => ?_) hm'') hS'' g'' hkp''
      rw [hsb.2 b fun z => hb (z ▸ List.mem_cons_self)]
      exact e
/-- set(xs) -/
theorem set_of_rows {l : Addr} {items : Array Value} (ks : List (Addr × Row)) {Q : Value → Shared → Prop} (hh : A.handled = none) (hl : s.heap.IsList l items) (hit : items.toList = ks.map fun p => Value.ref p.1)
    (hk : ∀ p ∈ ks, IsR P w s.heap p.2 p.1) (hfew : ks.length ≤ 306) (hu : A.units + 3 < cLine)
    (h : ∀ (h' : Heap) (tk : Nat) L es ep t, SetR P w h' s.heap.objs.size L es ep t → Has ks ks.length L → (∀ b o, s.heap.get? b = some o → h'.get? b = some o) → Q (.ref s.heap.objs.size) { s with heap := h', toks := tk }) :
    wpAny (model P w) A (call (.type "set") [.ref l]) Q E s := by
  have hisz : items.size = ks.length := by
    rw [← Array.length_toList, hit, List.length_map]
  have fresh : ∀ b, s.heap.objs.size ≤ b → s.heap.get? b = none := fun b hb => by
    cases q : s.heap.get? b with
    | none => rfl
    | some o => exact absurd (Nat.lt_of_lt_of_le (Heap.lt_size q) hb) (Nat.lt_irrefl _)
  obtain ⟨c, tl, hmro⟩ := F.called_set.mro
  have hmade := F.called_set.made
  have hsub := F.called_set.sub
  refine wpAny_call (codeAny_of_tree ?_)
  show wpAny _ _ (callAny (.type "set") _) _ _ _
  refine wpAny_pure ⟨Code.quiet_builtin _ (by decide +kernel), codeAny_builtin F.entry_type_call ?_⟩
  rw [Around.under_plain (weight_type_call_type "set" [.ref l] []) rfl]
  have h1 := F.called_set.notType
  have h2 := F.called_set.canCreate
  have hct := F.typeCall_set_1 (.ref l)
  repeat (any_goals (first | assumption | wp_step))
  refine codeAny_mono (code_set_led1 (.ref l) (E := E) (Q₁ := fun obj s₁ => obj = .ref s.heap.objs.size ∧ s₁ = { s with heap := s.heap.push (newSet w) }) ⟨rfl, rfl⟩) fun r s₁ hr => ?_
  rcases r with e | fl
  · exact hr
  cases fl with
  | ret obj =>
    obtain ⟨rfl, rfl⟩ := hr
    have hS : (s.heap.push (newSet w)).get? s.heap.objs.size = some (newSet w) := Heap.get?_push_size _ rfl
    have hT : Shared.TypeIs { s with heap := s.heap.push (newSet w) } (.ref s.heap.objs.size) "set" := ⟨_, hS, rfl⟩
    have hli := F.called_set.init.lookup
    have hbi := F.called_set.init.bind (.ref s.heap.objs.size)
    repeat (any_goals (first | assumption | wp_step))
    refine codeAny_mono (codeAny_call_builtin (R := wants (fun r s₂ => r = .none ∧ ∃ h' tk L es ep t, s₂ = { s with heap := h', toks := tk } ∧ SetR P w h' s.heap.objs.size L es ep t ∧ Has ks ks.length L ∧
        (∀ b o, s.heap.get? b = some o → h'.get? b = some o)) E) F.called_set.init.plain F.entry_set_init (check_set_init_1 hT ?_)) fun r₂ s₂ hr₂ => ?_
    · obtain ⟨⟨ocls, odict, odata, oslots⟩, hol, hcl, nl, hdl⟩ := hl
      simp only at hcl hdl
      subst hcl hdl
      have hlS : l < s.heap.objs.size := Heap.lt_size hol
      have hol' : (s.heap.push (newSet w)).get? l = some { cls := .type "list", dict := odict, data := .seq items nl, slots := oslots } := Heap.get?_push_of_some _ hol
      have hsls := F.sub_list_set
      have hslf := F.sub_list_frozenset
      have hne : (Value.type "list" == Value.type "dict") = false := by decide
      have hl1 : (s.heap.push (newSet w)).IsList l items := ⟨_, hol', rfl, nl, rfl⟩
      have hh3 : A.in1.in1.in1.handled = none := by simp [hh]
      have hz : (s.heap.push (newSet w)).objs.size = s.heap.objs.size + 1 := Heap.size_push ..
      unfold Builtin.«set.__init__» noKeywords Builtin.Frozenset.updateFrom
      generalize hPI : pyIter = PI
      wp_walk
      subst hPI
      refine wpAny_pyIter_list hl1 (wpAny_bind (wpAny_runValue ?_))
      have hneI : l ≠ (s.heap.push (newSet w)).objs.size := by
        rw [hz]
        exact Nat.ne_of_lt (Nat.lt_succ_of_lt hlS)
      have hSf : s.heap.objs.size ∉ [(s.heap.push (newSet w)).objs.size, l] := by
        rw [hz, List.mem_cons, List.mem_singleton, not_or]
        exact ⟨Nat.ne_of_lt (Nat.lt_succ_self _), Nat.ne_of_gt hlS⟩
      have hval : ∀ (i : Nat) (v : Value), items[i]? = some v → ∃ p, ks[i]? = some p ∧ v = .ref p.1 := fun i v hv => by
        rw [← Array.getElem?_toList, hit, List.getElem?_map] at hv
        obtain ⟨p, hp, e⟩ := Option.map_eq_some_iff.mp hv
        exact ⟨p, hp, e.symm⟩
      refine fill_set ((Walks.list hh3 _ l hneI items).toS) s.heap.objs.size
        hSf ks hisz hfew hval s.heap hk (fresh _ (Nat.le_refl _)) (fun b hb => fresh b (by rw [List.mem_singleton.mp hb, hz]; exact Nat.le_succ _)) hu (items.size - 0) 0 _ (by omega) (Nat.zero_le _)
        ⟨⟨_, Heap.get?_push_size _ rfl, rfl, rfl⟩, (hl1.push _)⟩ (fun b o e => Heap.get?_push_of_some _ (Heap.get?_push_of_some _ e)) ⟨[], #[], 0, _, setR_new (Heap.get?_push_of_some _ hS), ⟨fun p hp => (nomatch hp), fun p hp => (by simp at hp), Nat.le_refl 0⟩⟩ fun s' L es ep t hm hS' g' hkp => ?_
      obtain ⟨h', g2, d', tk', os'⟩ := s'
      obtain rfl : g2 = s.gens := hm.gens
      obtain rfl : d' = s.drawn := hm.drawn
      obtain rfl : os' = s.os := hm.os
      rw [hisz] at g'
      refine wpAny_pure ?_
      show wpAny _ _ (ret Value.none) _ _ _
      exact wpAny_pure ⟨rfl, h', tk', L, es, ep, t, rfl, hS', g', hkp⟩
    · rcases r₂ with e | fl₂
      · exact hr₂
      cases fl₂ with
      | ret r =>
        obtain ⟨rfl, h', tk, L, es, ep, t, rfl, hS', g', hk'⟩ := hr₂
        repeat (any_goals (first | assumption | wp_step))
        exact h _ _ _ _ _ _ hS' g' hk'
      | _ => exact hr₂.elim
  | _ => exact hr.elim
end
end K23

set_option Elab.async false
set_option linter.all false
set_option maxRecDepth 100000
set_option maxHeartbeats 4000000
/-! K23e: sorted(set(xs)) of rows, as rules of the layer. -/
namespace K23
open PySem PySem.Spec PyProof.Rows L2

/-! ### the model's order of rows is ours -/
theorem key_alike {k : Kd} {a b : Key} (hk : k ≠ .cond) (ha : HasK k (kV a)) (hb : HasK k (kV b)) : PySem.W.alike (keyD a) (keyD b) = true := by
  cases k with
  | num =>
    cases a with
    | inl i =>
      cases b with
      | inl j => simp [keyD, PySem.W.alike]
      | inr y => exact hb.elim
    | inr x => exact ha.elim
  | txt =>
    cases a with
    | inl i => exact ha.elim
    | inr x =>
      cases b with
      | inl j => exact hb.elim
      | inr y => simp [keyD, PySem.W.alike]
  | cond => exact absurd rfl hk
theorem row_alikeAll : ∀ {ks : List Kd} {a b : Row}, RowK ks a → RowK ks b → PySem.W.alikeAll (a.map keyD) (b.map keyD) = true
  | _, _, _, .nil, .nil => by simp [PySem.W.alikeAll]
  | _, _, _, .cons h1 t1, .cons h2 t2 => by
    simp only [List.map_cons, PySem.W.alikeAll, Bool.and_eq_true]
    exact ⟨key_alike h1.1 h1.2 h2.2, row_alikeAll t1 t2⟩
theorem row_alike {ks : List Kd} {a b : Row} (ha : RowK ks a) (hb : RowK ks b) : PySem.W.alike (rowD a) (rowD b) = true := by
  unfold rowD
  simp only [PySem.W.alike]
  exact row_alikeAll ha hb
theorem key_eqv (a b : Key) : PyData.eqv (keyD a) (keyD b) = decide (a = b) := by
  cases a with
  | inl i =>
    cases b with
    | inl j => simp only [keyD, PyData.eqv]; exact (key_ll i j).symm
    | inr y => simp [keyD, PyData.eqv]
  | inr x =>
    cases b with
    | inl j => simp [keyD, PyData.eqv]
    | inr y =>
      simp only [keyD, PyData.eqv]
      rw [key_rr]
      by_cases e : x = y
      · subst e; simp
      · rw [decide_eq_false e]
        exact beq_eq_false_iff_ne.mpr e
theorem key_lt {k : Kd} {a b : Key} (hk : k ≠ .cond) (ha : HasK k (kV a)) (hb : HasK k (kV b)) : PySem.W.dataLt (keyD a) (keyD b) = ltK a b := by
  cases a with
  | inl i =>
    cases b with
    | inl j => exact PySem.W.dataLt_int i j
    | inr y =>
      cases k with
      | num => exact hb.elim
      | txt => exact ha.elim
      | cond => exact absurd rfl hk
  | inr x =>
    cases b with
    | inl j =>
      cases k with
      | num => exact ha.elim
      | txt => exact hb.elim
      | cond => exact absurd rfl hk
    | inr y => exact PySem.W.dataLt_str x y
theorem row_ltAll : ∀ {ks : List Kd} {a b : Row}, RowK ks a → RowK ks b → PySem.W.rowLt (a.map keyD) (b.map keyD) = ltR a b
  | _, _, _, .nil, .nil => by
    have e : PySem.W.rowLt [] [] = false := lex_irrefl _
    exact e
  | _, _, _, .cons (a := k) (b := x) h1 t1, .cons (b := y) h2 t2 => by
    have q := PySem.W.dataLt_cons (key_alike h1.1 h1.2 h2.2)
    unfold PySem.W.rowLt
    rw [List.map_cons, List.map_cons, q, key_eqv, key_lt h1.1 h1.2 h2.2]
    have ih := row_ltAll t1 t2
    unfold PySem.W.rowLt at ih
    rw [ih]
    show _ = (if x = y then ltR _ _ else ltK x y)
    by_cases e : x = y
    · rw [if_pos (decide_eq_true e), if_pos e]
    · rw [if_neg (by rw [decide_eq_false e]; exact Bool.false_ne_true), if_neg e]
theorem row_lt {ks : List Kd} {a b : Row} (ha : RowK ks a) (hb : RowK ks b) : PySem.W.dataLt (rowD a) (rowD b) = ltR a b := by
  unfold rowD
  rw [PySem.W.dataLt_tuple]
  exact row_ltAll ha hb
theorem sort_is {ks : List Kd} {rs : List Row} (hK : ∀ r ∈ rs, RowK ks r) (nd : rs.Nodup) : rs.mergeSort (PySem.W.dataLe false rowD) = sortR rs := by
  have pm : (rs.mergeSort (PySem.W.dataLe false rowD)).Perm rs := List.mergeSort_perm rs _
  have pw : (rs.mergeSort (PySem.W.dataLe false rowD)).Pairwise (fun a b => PySem.W.dataLe false rowD a b = true) := PySem.W.sort_pairwise (PySem.W.sortLe_total _ _ _) rs
  refine sortR_unique ?_ fun y => pm.mem_iff
  have nd' : (rs.mergeSort (PySem.W.dataLe false rowD)).Pairwise (fun a b => a ≠ b) := pm.nodup_iff.mpr nd
  refine List.Pairwise.imp_of_mem (fun {a b} ha hb h => ?_) (pw.and nd')
  have ka := hK a (pm.mem_iff.mp ha)
  have kb := hK b (pm.mem_iff.mp hb)
  have h1 : (!PySem.W.dataLt (rowD b) (rowD a)) = true := h.1
  rw [row_lt kb ka] at h1
  rcases ltR_tri a b with z | z | z
  · exact z
  · exact absurd z h.2
  · rw [z] at h1
    exact absurd h1 Bool.false_ne_true

/-! ### rows read off the heap -/
section
variable {P : Program} {w : World} {h : Heap}
theorem items_read : ∀ {k : Row} {us : List Value}, ItemsAre (mixKind P w) k us → ReadsAll h us (k.map keyD) []
  | _, _, .nil => .nil
  | _, _, .cons h1 t => by
    have q := items_read t
    rcases keyIs_shape h1 with ⟨i, tk, rfl, rfl⟩ | ⟨x, tk, rfl, rfl⟩
    · exact ReadsAll.cons (.int i tk) q
    · exact ReadsAll.cons (.str x tk) q
theorem IsR.reads {k : Row} {b : Addr} (x : IsR P w h k b) : Reads h (.ref b) (rowD k) [] := by
  obtain ⟨o, its, n, ho, hc, hd, hi⟩ := x
  exact .tuple ho hc hd (items_read hi)
theorem depth_keys : ∀ k : Row, PyData.depthAll (k.map keyD) = 0
  | [] => rfl
  | x :: k => by
    have ih := depth_keys k
    have e : (keyD x).depth = 0 := by cases x <;> rfl
    simp only [List.map_cons, PyData.depthAll, e, ih]
    rfl
theorem depth_row (k : Row) : (rowD k).depth = 1 := by
  unfold rowD
  simp only [PyData.depth, depth_keys]
end
/-- these values are the rows rs, by address -/
abbrev RowsAre (P : Program) (w : World) (h : Heap) : List Value → List Row → Prop := PySem.W.EachIs fun v r => ∃ b, v = Value.ref b ∧ IsR P w h r b
section
variable {P : Program} {w : World} {A : Around} {E : Value → Shared → Prop} {s : Shared}
theorem RowsAre.stay {h h' : Heap} {vs : List Value} {rs : List Row} (e : RowsAre P w h vs rs) (k : ∀ b o, h.get? b = some o → o.cls = .type "tuple" → h'.get? b = some o) : RowsAre P w h' vs rs :=
  PySem.W.EachIs.mono (fun v r ⟨b, e1, o, its, n, ho, hc, q⟩ => ⟨b, e1, o, its, n, k b o ho hc, hc, q⟩) e
/-- rows of one shape can be sorted: more than one of them only where they have an item -/
theorem sortsAt_rows {vs : List Value} {rs : List Row} {ks : List Kd} (e : RowsAre P w s.heap vs rs) (hK : ∀ r ∈ rs, RowK ks r) (hne : ks ≠ [] ∨ rs.length ≤ 1) (hu : A.units + 1 < cLine) : PySem.W.SortsAt P w A s (PySem.W.dataKind s.heap (rs.map rowD)) vs := by
  have er : PySem.W.EachIs (fun v d => ∃ as, Reads s.heap v d as) vs (rs.map rowD) :=
    PySem.W.each_map (R := fun v d => ∃ as, Reads s.heap v d as) rowD (PySem.W.EachIs.mono (fun v r hv => by
      obtain ⟨b, rfl, x⟩ := hv
      exact ⟨[], x.reads⟩) e)
  have al : PySem.W.AllAlike (rs.map rowD) := fun d hd d' hd' => by
    obtain ⟨a, ha, rfl⟩ := List.mem_map.mp hd
    obtain ⟨b, hb, rfl⟩ := List.mem_map.mp hd'
    exact row_alike (hK a ha) (hK b hb)
  have dep : ∀ d ∈ rs.map rowD, A.units + d.depth < cLine := fun d hd => by
    obtain ⟨a, _, rfl⟩ := List.mem_map.mp hd
    rw [depth_row]
    exact hu
  by_cases c : ks = []
  · have l1 : rs.length ≤ 1 := hne.resolve_left fun z => z c
    refine ⟨fun v hv => ?_, general', fun E x y a b Q ha hb hq => ?_, fun h2 => ?_⟩
    · obtain ⟨d, hd, as, r⟩ := er.left v hv
      exact ⟨_, PySem.W.dataKind_some al hd r⟩
    · obtain ⟨d, as, hd, ra, rfl⟩ := PySem.W.dataKind_inv ha
      obtain ⟨d', as', hd', rb, rfl⟩ := PySem.W.dataKind_inv hb
      show wpAny _ _ (oneLt' false x y) _ _ _
      refine PySem.W.oneLt_alike (fun z => absurd z Bool.false_ne_true) ra rb (al d hd d' hd') ?_ ?_ hq
      · obtain ⟨a, _, rfl⟩ := List.mem_map.mp hd
        exact fun z => nomatch z
      · have := dep d hd
        have := Nat.min_le_left d.depth d'.depth
        omega
    · have := e.length
      omega
  · refine PySem.W.SortsAt.data er al (.inl fun d hd => ?_) dep
    obtain ⟨a, ha, rfl⟩ := List.mem_map.mp hd
    have q := hK a ha
    cases q with
    | nil => exact absurd rfl c
    | cons _ _ => exact ⟨_, _, rfl⟩
/-- list.sort of a new list of rows; R is whatever is known of its items -/
theorem sort_rows {R : Value → Row → Prop} {a : Addr} {n : Nat} {vs : List Value} {rs : List Row} {ks : List Kd} {Q : Value → Shared → Prop} (ho : s.heap.get? a = some (seqObj "list" vs.toArray n)) (e : PySem.W.EachIs R vs rs)
    (hR : ∀ v r, R v r → ∃ b, v = Value.ref b ∧ IsR P w s.heap r b) (hK : ∀ r ∈ rs, RowK ks r) (hne : ks ≠ [] ∨ rs.length ≤ 1)
    (nd : rs.Nodup) (hL : rs.length ≤ sizeLine) (hu : A.units + 2 < cLine) (h : ∀ out, out.length = rs.length → PySem.W.EachIs R out (sortR rs) → Q .none { s with heap := sortedHeap s.heap a vs (List.toArray out) }) :
    wpAny (model P w) A (call (.builtin "list.sort") [.ref a]) Q E s := by
  have keep : ∀ b o, s.heap.get? b = some o → o.cls = .type "tuple" → (PySem.W.sortingHeap s.heap a vs).get? b = some o := fun b o q hc => PySem.W.sortingHeap_old (fun z => by
    subst z
    rw [ho] at q
    cases q
    exact absurd hc (by show Value.type "list" ≠ Value.type "tuple"; decide)) q
  have e0 : RowsAre P w s.heap vs rs := PySem.W.EachIs.mono hR e
  have e' := e0.stay keep
  refine wpAny_call_entry slot_list_sort ⟨_, ho, rfl⟩ entry_list_sort (PySem.W.list_sort_vals (κ := PySem.W.dataKind (PySem.W.sortingHeap s.heap a vs) (rs.map rowD)) ho (sortsAt_rows (s := { s with heap := PySem.W.sortingHeap s.heap a vs }) e' hK hne (by show A.units + 1 + 1 < cLine; omega)) (by rw [e.length]; exact hL) ⟨.none, rfl, ?_⟩) (args_list_sort _)
  have er : PySem.W.EachIs (fun v b => ∃ as, Reads (PySem.W.sortingHeap s.heap a vs) v (rowD b) as) vs rs := PySem.W.EachIs.mono (fun v r hv => by
      obtain ⟨b, rfl, x⟩ := hv
      exact ⟨[], x.reads⟩) e'
  have al : PySem.W.AllAlike (rs.map rowD) := fun d hd d' hd' => by
    obtain ⟨a, ha, rfl⟩ := List.mem_map.mp hd
    obtain ⟨b, hb, rfl⟩ := List.mem_map.mp hd'
    exact row_alike (hK a ha) (hK b hb)
  have out := PySem.W.sortVals_data false e er al
  rw [sort_is hK nd] at out
  exact h _ (by rw [PySem.W.sortVals_length false rfl]; exact e.length) out
end
end K23

set_option Elab.async false
set_option linter.all false
set_option maxRecDepth 100000
set_option maxHeartbeats 4000000
/-! K23f: data that stand in the layer's heap; set(..), sorted(..) of rows as rules. -/
namespace K23
open PySem PySem.Spec PyProof.Rows L2

/-! ### data in the heap -/
section
variable {K : PySem.W.Frag} {H H' : Hp}
theorem same_t (e : Same H H') {a : Addr} {xs : List V} (h : SqT K H a xs) : SqT K H' a xs := by
  rcases h with (h | ⟨o, h⟩) | h
  · exact .inl (.inl (e _ _ h))
  · exact .inl (.inr ⟨o, e _ _ h⟩)
  · exact .inr h
mutual
theorem Dp.up (e : Same H H') : ∀ {d : PyData} {v : V}, Dp K H v d → Dp K H' v d
  | _, _, .non => .non
  | _, _, .bl b => .bl b
  | _, _, .int i => .int i
  | _, _, .str x => .str x
  | _, _, .lst h t => .lst (e.seq h) (DpAll.up e t)
  | _, _, .tup h t => .tup (same_t e h) (DpAll.up e t)
theorem DpAll.up (e : Same H H') : ∀ {ds : List PyData} {vs : List V}, DpAll K H vs ds → DpAll K H' vs ds
  | _, _, .nil => .nil
  | _, _, .cons h t => .cons (Dp.up e h) (DpAll.up e t)
end
theorem dp_list {v : V} {ds : List PyData} (h : Dp K H v (.list ds)) : ∃ a xs, v = .ref a ∧ SqL K H a xs ∧ DpAll K H xs ds := by
  cases h with
  | lst h t => exact ⟨_, _, rfl, h, t⟩
theorem dp_tup {v : V} {ds : List PyData} (h : Dp K H v (.tuple ds)) : ∃ a xs, v = .ref a ∧ SqT K H a xs ∧ DpAll K H xs ds := by
  cases h with
  | tup h t => exact ⟨_, _, rfl, h, t⟩
theorem dp_int {v : V} {i : Int} (h : Dp K H v (.int i)) : v = .int i := by cases h; rfl
theorem dp_str {v : V} {x : Str} (h : Dp K H v (.str x)) : v = .str x := by cases h; rfl
theorem dp_non {v : V} (h : Dp K H v .none) : v = .non := by cases h; rfl
theorem dpall_len : ∀ {xs : List V} {ds : List PyData}, DpAll K H xs ds → xs.length = ds.length
  | _, _, .nil => rfl
  | _, _, .cons _ t => congrArg Nat.succ (dpall_len t)
theorem dpall_get : ∀ {xs : List V} {ds : List PyData} {i : Nat} {d : PyData}, DpAll K H xs ds → ds[i]? = some d → ∃ v, xs[i]? = some v ∧ Dp K H v d
  | _, _, _, _, .nil, e => by simp at e
  | _, _, 0, _, .cons h _, e => by
    simp at e
    subst e
    exact ⟨_, rfl, h⟩
  | _, _, i + 1, _, .cons _ t, e => by
    obtain ⟨v, h1, h2⟩ := dpall_get (i := i) t (by simpa using e)
    exact ⟨v, by simpa using h1, h2⟩
theorem dpall_get2 {xs : List V} {ds : List PyData} {i : Nat} {v : V} (h : DpAll K H xs ds) (e : xs[i]? = some v) : ∃ d, ds[i]? = some d ∧ Dp K H v d := by
  have hl : i < ds.length := by
    rw [← dpall_len h]
    exact (List.getElem?_eq_some_iff.mp e).1
  obtain ⟨v', h1, h2⟩ := dpall_get h (List.getElem?_eq_getElem hl)
  rw [e] at h1
  cases h1
  exact ⟨_, List.getElem?_eq_getElem hl, h2⟩
theorem dpall_app : ∀ {xs ys : List V} {ds es : List PyData}, DpAll K H xs ds → DpAll K H ys es → DpAll K H (xs ++ ys) (ds ++ es)
  | _, _, _, _, .nil, q => q
  | _, _, _, _, .cons h t, q => .cons h (dpall_app t q)
theorem dpall_snoc {xs : List V} {v : V} {ds : List PyData} {d : PyData} (h : DpAll K H xs ds) (q : Dp K H v d) : DpAll K H (xs ++ [v]) (ds ++ [d]) := dpall_app h (.cons q .nil)
theorem dp_key {v : V} {k : Key} (h : Dp K H v (keyD k)) : v = kV k := by
  cases k <;> (cases h; rfl)
theorem key_dp (k : Key) : Dp K H (kV k) (keyD k) := by
  cases k with
  | inl i => exact .int i
  | inr x => exact .str x
theorem dpall_keys : ∀ {r : Row} {vs : List V}, DpAll K H vs (r.map keyD) → vs = r.map kV
  | [], _, h => by cases h; rfl
  | k :: r, _, h => by
    cases h with
    | cons h t => rw [dp_key h, dpall_keys t, List.map_cons]
theorem keys_dpall : ∀ (r : Row), DpAll K H (r.map kV) (r.map keyD)
  | [] => .nil
  | k :: r => .cons (key_dp k) (keys_dpall r)
theorem dp_row {v : V} {r : Row} (h : Dp K H v (rowD r)) : ∃ b, v = .ref b ∧ SqT K H b (r.map kV) := by
  obtain ⟨a, xs, e, h1, h2⟩ := dp_tup h
  exact ⟨a, e, dpall_keys h2 ▸ h1⟩
theorem row_dp {b : Addr} {r : Row} (h : SqT K H b (r.map kV)) : Dp K H (.ref b) (rowD r) := .tup h (keys_dpall r)
theorem same_new {p : Addr} (h : H p = none) (o : HO) : Same H (upd H p o) := fun b u q => by rw [upd_ne (ne_of_none q h)]; exact q
/-- the rows of a list, with their addresses -/
theorem rows_addr : ∀ {rs : List Row} {xs : List V}, DpAll K H xs (rs.map rowD) → ∃ ks : List (Addr × Row), xs = (ks.map fun p => V.ref p.1) ∧ ks.map (·.2) = rs ∧ ∀ p ∈ ks, SqT K H p.1 (p.2.map kV)
  | [], _, h => by
    cases h
    exact ⟨[], rfl, rfl, fun p hp => nomatch hp⟩
  | r :: rs, _, h => by
    cases h with
    | cons h t =>
      obtain ⟨b, rfl, hb⟩ := dp_row h
      obtain ⟨ks, e1, e2, e3⟩ := rows_addr t
      refine ⟨(b, r) :: ks, by rw [e1]; rfl, by rw [← e2]; rfl, fun p hp => ?_⟩
      rcases List.mem_cons.mp hp with e | hp
      · subst e
        exact hb
      · exact e3 p hp
theorem addr_rows : ∀ {ks : List (Addr × Row)}, (∀ p ∈ ks, SqT K H p.1 (p.2.map kV)) → DpAll K H (ks.map fun p => V.ref p.1) ((ks.map (·.2)).map rowD)
  | [], _ => .nil
  | p :: ks, h => .cons (row_dp (h p List.mem_cons_self)) (addr_rows fun q hq => h q (List.mem_cons_of_mem _ hq))
end
/-- a new list of these data at a -/
def NewL (K : PySem.W.Frag) (H H' : Hp) (a : Addr) (ds : List PyData) : Prop := Same H H' ∧ ∃ xs, H' a = some (.lst xs) ∧ DpAll K H' xs ds
theorem NewL.dp {K : PySem.W.Frag} {H H' : Hp} {a : Addr} {ds : List PyData} (h : NewL K H H' a ds) : Dp K H' (.ref a) (.list ds) := by
  obtain ⟨_, xs, e, t⟩ := h
  exact .lst (SqL.of e) t

/-! ### a list that is a permutation of another's images -/
theorem perm_lift {α β : Type} {f : α → β} {vs m : List β} (h : vs.Perm m) : ∀ L : List α, m = L.map f → ∃ L1 : List α, vs = L1.map f ∧ L1.Perm L := by
  induction h with
  | nil =>
    intro L e
    cases L with
    | nil => exact ⟨[], rfl, .refl _⟩
    | cons a L => cases e
  | cons x _ ih =>
    intro L e
    cases L with
    | nil => cases e
    | cons a L =>
      rw [List.map_cons, List.cons.injEq] at e
      obtain ⟨L1, e1, p⟩ := ih L e.2
      exact ⟨a :: L1, by rw [List.map_cons, e1, e.1], p.cons a⟩
  | swap x y l =>
    intro L e
    match L, e with
    | a :: b :: L, e =>
      rw [List.map_cons, List.map_cons, List.cons.injEq, List.cons.injEq] at e
      exact ⟨b :: a :: L, by rw [List.map_cons, List.map_cons, ← e.1, ← e.2.1, ← e.2.2], List.Perm.swap a b L⟩
  | trans _ _ ih1 ih2 =>
    intro L e
    obtain ⟨L2, e2, p2⟩ := ih2 L e
    obtain ⟨L1, e1, p1⟩ := ih1 L2 e2
    exact ⟨L1, e1, p1.trans p2⟩

/-! ### the set as a thing of the layer -/
def Set0 (P : Program) (w : World) (h : Heap) (a : Addr) (L : List (Addr × Row)) : Prop :=
  ∃ (es : Array (Int × Value)) (ep : Nat) (t : SetTable), (∃ o, h.get? a = some o ∧ o.ExactSet ∧ o.data = .set es ep t) ∧ es.toList = rowsAt P w L ∧ Tab t (L.map fun p => rhash P w p.2) ∧ (L.map (·.2)).Nodup ∧
    (w.params.followText "set-order" = true ∨ t.led = true) ∧ L.length * 5 < t.mask * 3
def SetHO (P : Program) (w : World) (a : Addr) (L : List (Addr × Row)) : HO := .ext fun h => Set0 P w h a L
section
variable {P : Program} {w : World}
theorem SetR.bare {h : Heap} {a : Addr} {L : List (Addr × Row)} {es : Array (Int × Value)} {ep : Nat} {t : SetTable} (R : SetR P w h a L es ep t) : Set0 P w h a L := ⟨es, ep, t, R.ob, R.rows, R.tab, R.nd, R.led, R.room⟩
theorem setHO_ok {H : Hp} {h : Heap} {a : Addr} {L : List (Addr × Row)} (R : Set0 P w h a L) : ObjOk P w H h a (SetHO P w a L) := by
  obtain ⟨es, ep, t, ⟨o, ho, r⟩, q⟩ := id R
  refine ⟨R, ⟨o, ho⟩, fun h1 h2 p k => ?_⟩
  obtain ⟨es', ep', t', ⟨o', ho', r'⟩, q'⟩ := p
  exact ⟨es', ep', t', ⟨o', k o' ho', r'⟩, q'⟩
theorem keys_items : ∀ {k : Row} {us : List Value}, Vals (k.map kV) us → ItemsAre (mixKind P w) k us
  | [], _, .nil => .nil
  | .inl i :: k, _, .cons r t => by
    obtain ⟨tk, rfl⟩ := r
    exact .cons (mixKind_int P w i tk) (keys_items t)
  | .inr x :: k, _, .cons r t => by
    obtain ⟨tk, rfl⟩ := r
    exact .cons (mixKind_str P w x tk) (keys_items t)
end
section
variable {X : Cx} {pins : List (Addr × Obj)} {σ : L2.St} {H : Hp} {s : Shared}
theorem row_at {b : Addr} {k : Row} (I : Inv X pins σ H s) (h : SqT X.K H b (k.map kV)) : IsR X.prog X.w s.heap k b := by
  obtain ⟨its, r, ⟨o, ho, hc, n, hd⟩, _⟩ := I.tuple h
  exact ⟨o, its.toArray, n, ho, hc, hd, by simpa using keys_items r⟩
theorem refs_vals : ∀ {ks : List (Addr × Row)} {us : List Value}, Vals (ks.map fun p => V.ref p.1) us → us = ks.map fun p => Value.ref p.1
  | [], _, .nil => rfl
  | p :: ks, _, .cons r t => by
    cases r
    rw [refs_vals t, List.map_cons]
theorem vals_refs' : ∀ (ks : List (Addr × Row)), Vals (ks.map fun p => V.ref p.1) (ks.map fun p => Value.ref p.1)
  | [] => .nil
  | p :: ks => .cons rfl (vals_refs' ks)
def rSetR (K : PySem.W.Frag) (P : Program) (w : World) : List V → Hp → VK → Prop := fun xs H Q => ∃ (l : Addr) (ks : List (Addr × Row)), xs = [V.ref l] ∧ SqL K H l (ks.map fun p => V.ref p.1) ∧ (∀ p ∈ ks, SqT K H p.1 (p.2.map kV)) ∧ ks.length ≤ 306 ∧
  ∀ a L, H a = none → (∀ p ∈ L, p ∈ ks) → (∀ p ∈ ks, p.2 ∈ L.map (·.2)) → (L.map (·.2)).Nodup → Q (.ref a) (upd H a (SetHO P w a L))
theorem cr_setR (hc : X.calm = true) (hu : X.A.units + 3 < cLine) : CallR X (.type "set") (rSetR X.K X.prog X.w) := by
  intro pins s σ H xs us Q I r h
  obtain ⟨l, ks, rfl, hl, hk, hf, q⟩ := h
  rw [Vals.ref1 r]
  obtain ⟨its, rv, pl, hz⟩ := I.list hl
  refine set_of_rows (P := X.prog) (w := X.w) ks (I.ok.hd hc) pl.isList (by simpa using refs_vals rv) (fun p hp => row_at I (hk p hp)) hf hu fun h' tk L es ep t R g k => ?_
  refine ⟨.ref s.heap.objs.size, upd H s.heap.objs.size (SetHO X.prog X.w s.heap.objs.size L), I.laid (t' := tk) k (Nat.le_refl _) (setHO_ok R.bare), rfl, q _ L (I.hok.fresh (Nat.le_refl _)) (fun p hp => List.mem_of_mem_take (g.sub p hp)) (fun p hp => g.all p ?_) R.nd⟩
  rw [List.take_length]
  exact hp
def rSortS (K : PySem.W.Frag) (P : Program) (w : World) : List V → Hp → VK → Prop := fun vs H Q => ∃ (a : Addr) (L : List (Addr × Row)) (ks : List Kd), vs = [V.ref a] ∧ H a = some (SetHO P w a L) ∧ (∀ p ∈ L, SqT K H p.1 (p.2.map kV)) ∧
  (∀ p ∈ L, RowK ks p.2) ∧ (ks ≠ [] ∨ L.length ≤ 1) ∧ ∀ (L' : List (Addr × Row)) (p : Addr), (∀ q ∈ L', SqT K H q.1 (q.2.map kV)) → L'.map (·.2) = sortR (L.map (·.2)) → H p = none → Q (.ref p) (upd H p (.lst (L'.map fun q => V.ref q.1)))
/-- values that are rows of the heap H -/
theorem out_rows {S : Addr → Row → Prop} : ∀ {out : List Value} {rs : List Row}, PySem.W.EachIs (fun v r => ∃ b, v = Value.ref b ∧ S b r) out rs → ∃ L' : List (Addr × Row), out = (L'.map fun q => Value.ref q.1) ∧ L'.map (·.2) = rs ∧ ∀ q ∈ L', S q.1 q.2
  | _, _, .nil => ⟨[], rfl, rfl, fun q hq => nomatch hq⟩
  | _, _, .cons (b := r) h t => by
    obtain ⟨b, rfl, hb⟩ := h
    obtain ⟨L', e1, e2, e3⟩ := out_rows t
    refine ⟨(b, r) :: L', by rw [e1, List.map_cons], by rw [List.map_cons, e2], fun q hq => ?_⟩
    rcases List.mem_cons.mp hq with e | hq
    · subst e
      exact hb
    · exact e3 q hq
theorem rows_out {S : Addr → Row → Prop} : ∀ {L : List (Addr × Row)}, (∀ q ∈ L, S q.1 q.2) → PySem.W.EachIs (fun v r => ∃ b, v = Value.ref b ∧ S b r) (L.map fun q => Value.ref q.1) (L.map (·.2))
  | [], _ => .nil
  | q :: L, h => .cons ⟨q.1, rfl, h q List.mem_cons_self⟩ (rows_out fun p hp => h p (List.mem_cons_of_mem _ hp))
/-- behind the collecting: the new list is sorted; s1 keeps s -/
theorem sort_new {S : Addr → Row → Prop} (hS : ∀ b r, S b r → SqT X.K H b (r.map kV)) {s1 : Shared} {L : List (Addr × Row)} {ks : List Kd} {Q : VK} {E : Value → Shared → Prop} {A : Around} (I : Inv X pins σ H s) (k1 : ∀ b o, s.heap.get? b = some o → s1.heap.get? b = some o) (hz : s.heap.objs.size ≤ s1.heap.objs.size) (g1 : s1.gens = s.gens) (o1 : s1.os = s.os)
    (hk : ∀ q ∈ L, S q.1 q.2) (hK : ∀ q ∈ L, RowK ks q.2) (hne : ks ≠ [] ∨ L.length ≤ 1) (nd : (L.map (·.2)).Nodup) (hL : L.length ≤ 1000) (hu : A.units + 2 < cLine)
    (q : ∀ (L' : List (Addr × Row)) (p : Addr), (∀ q ∈ L', S q.1 q.2) → L'.map (·.2) = sortR (L.map (·.2)) → H p = none → Q (.ref p) (upd H p (.lst (L'.map fun q => V.ref q.1)))) :
    wpAny (model X.prog X.w) A (call (.builtin "list.sort") [.ref s1.heap.objs.size]) (fun _ s' => EP X pins σ Q (.ref s1.heap.objs.size) s') E { s1 with heap := s1.heap.push (seqObj "list" (L.map fun q => Value.ref q.1).toArray 0) } := by
  have hoL : (s1.heap.push (seqObj "list" (L.map fun q => Value.ref q.1).toArray 0)).get? s1.heap.objs.size = some (seqObj "list" (L.map fun q => Value.ref q.1).toArray 0) := Heap.get?_push_size _ rfl
  refine sort_rows (P := X.prog) (w := X.w) (s := { s1 with heap := s1.heap.push (seqObj "list" (L.map fun q => Value.ref q.1).toArray 0) }) (ks := ks) hoL (rows_out hk) (fun v r hv => ?_) (fun r hr => ?_) (by rw [List.length_map]; exact hne) nd ?_ hu fun out hl ho => ?_
  · obtain ⟨b, rfl, hb⟩ := hv
    exact ⟨b, rfl, (row_at I (hS b r hb)).stay fun o e => Heap.get?_push_of_some _ (k1 b o e)⟩
  · obtain ⟨p, hp, rfl⟩ := List.mem_map.mp hr
    exact hK p hp
  · rw [List.length_map, sizeLine_eq]
    omega
  · obtain ⟨L', e1, e2, e3⟩ := out_rows ho
    obtain ⟨c, hcL⟩ := sortedHeap_at (vs := L.map fun q => Value.ref q.1) (out := out.toArray) hoL
    have kp : ∀ b o, s.heap.get? b = some o → (sortedHeap (s1.heap.push (seqObj "list" (L.map fun q => Value.ref q.1).toArray 0)) s1.heap.objs.size (L.map fun q => Value.ref q.1) out.toArray).get? b = some o := fun b o e => by
      have e' := k1 b o e
      have hlt := Heap.lt_size e'
      rw [sortedHeap_old (Nat.ne_of_lt hlt) (by rw [size_push']; exact Nat.lt_succ_of_lt hlt)]
      exact Heap.get?_push_of_some _ e'
    have hn : H s1.heap.objs.size = none := I.hok.fresh hz
    have hlen : (L'.map fun q => V.ref q.1).length ≤ sizeLine := by
      have : L'.length = out.length := by rw [e1, List.length_map]
      rw [List.length_map, this, hl, List.length_map, sizeLine_eq]
      omega
    have hv : Vals (L'.map fun q => V.ref q.1) out := by
      rw [e1]
      exact vals_refs' L'
    refine ⟨.ref s1.heap.objs.size, _, ?_, rfl, q L' _ e3 e2 hn⟩
    have J := I.call (ch := []) (g' := s1.gens) (t' := s1.toks) (d' := s1.drawn) (Un.laid (o := .lst (L'.map fun q => V.ref q.1)) kp hz hn) (I.hok.laid (o := .lst (L'.map fun q => V.ref q.1)) kp hz ⟨hlen, out, c, hv, hcL⟩) (by rw [g1]; exact I.bare) (fun _ z => nomatch z)
    have eo : ({ s1 with heap := sortedHeap (s1.heap.push (seqObj "list" (L.map fun q => Value.ref q.1).toArray 0)) s1.heap.objs.size (L.map fun q => Value.ref q.1) out.toArray } : Shared)
        = { s with heap := sortedHeap (s1.heap.push (seqObj "list" (L.map fun q => Value.ref q.1).toArray 0)) s1.heap.objs.size (L.map fun q => Value.ref q.1) out.toArray, gens := s1.gens, drawn := s1.drawn, toks := s1.toks } := by
      obtain ⟨a1, a2, a3, a4, a5⟩ := s1
      obtain ⟨b1, b2, b3, b4, b5⟩ := s
      cases o1
      rfl
    rw [eo]
    exact J
theorem cr_sortS (hc : X.calm = true) (hu : X.A.units + 8 < cLine) : CallR X (.builtin "sorted") (rSortS X.K X.prog X.w) := by
  intro pins s σ H vs us Q I r h
  obtain ⟨a, L, ks, rfl, ha, hk, hK, hne, q⟩ := h
  obtain ⟨es, ep, t, ob, rows, tab, nd, led, room⟩ : Set0 X.prog X.w s.heap a L := (I.hok a _ ha).1
  have R : SetR X.prog X.w s.heap a L es ep t := ⟨ob, rows, tab, nd, fun p hp => row_at I (hk p hp), led, room⟩
  obtain ⟨o, ho, hex, hd⟩ := ob
  have hfew := R.few
  have hsz := rows_size rows
  rw [Vals.ref1 r]
  refine Calls.call_function_entry kind_sorted plain_sorted entry_sorted (args_sorted1 _) ?_
  unfold Builtin.«sorted»
  refine wpAny_bind (m := checkCount "sorted" 1 1 _) (wpAny_pure ?_)
  refine wpAny_bind (collect_set (A := X.A.in1) (I.ok.hd hc) ⟨o, ho, hex.1, hd⟩ R.fits (by unfold scanBound; omega) R.tab.up R.led fun s1 vs k1 hz g1 o1 pm => ?_)
  have hes : es.toList.map (·.2) = L.map fun q => Value.ref q.1 := by
    rw [rows, rowsAt, List.map_map] <;> rfl
  rw [hes] at pm
  obtain ⟨L1, e1, p1⟩ := perm_lift pm L rfl
  subst e1
  have l1 := p1.length_eq
  refine wpAny_bind (wpAny_newList ?_ (by rw [List.length_map, sizeLine_eq]; omega))
  refine wpAny_bind (wpAny_holding (wpAny_mono (sort_new (S := fun b r => SqT X.K H b (r.map kV)) (fun _ _ z => z) (L := L1) (ks := ks) (Q := Q) I k1 hz g1 o1 (fun q hq => hk q (p1.mem_iff.mp hq)) (fun q hq => hK q (p1.mem_iff.mp hq)) (hne.imp id fun z => by omega) ((p1.map (·.2)).nodup_iff.mpr nd) (by omega) (by show X.A.units + 1 + 2 < cLine; omega) fun L' p h1 h2 hn => q L' p h1 ?_ hn) (fun u s' hs => ?_) fun _ _ z => z))
  · rw [h2]
    exact up_ext (up_sortR _) (up_sortR _) fun y => by rw [mem_sortR, mem_sortR, (p1.map (·.2)).mem_iff]
  · exact wpAny_pure ⟨_, rfl, hs⟩
end
end K23

set_option Elab.async false
set_option linter.all false
set_option maxRecDepth 100000
set_option maxHeartbeats 4000000
/-! K23g: rules the layer lacks: setdefault and sorted on a dict with tuple keys; min, max of keys; weaker readings. -/
namespace K23
open PySem PySem.Spec PyProof.Rows L2

/-! ### weaker readings -/
theorem pe_weak {X : Cx} {e : Expr} {t t' : TE} (h : PE X e t) (w : ∀ σ H Q, t' σ H Q → t σ H Q) : PE X e t' :=
  ⟨fun pins s σ H Q I q => h.run pins s σ H Q I (w σ H Q q)⟩
theorem cr_weak {X : Cx} {f : Value} {r r' : List V → Hp → VK → Prop} (h : CallR X f r) (w : ∀ xs H Q, r' xs H Q → r xs H Q) : CallR X f r' :=
  fun pins s σ H xs us Q I rv q => h pins s σ H xs us Q I rv (w xs H Q q)

/-! ### sorted(set(rows)), over data -/
def rSetD (K : PySem.W.Frag) (P : Program) (w : World) : List V → Hp → VK → Prop := fun xs H Q => ∃ (x : V) (rs : List Row), xs = [x] ∧ Dp K H x (rowsD rs) ∧ rs.length ≤ 306 ∧
  ∀ a L, H a = none → (∀ p ∈ L, SqT K H p.1 (p.2.map kV)) → (∀ r, r ∈ L.map (·.2) ↔ r ∈ rs) → (L.map (·.2)).Nodup → Q (.ref a) (upd H a (SetHO P w a L))
theorem cr_setD {X : Cx} (hc : X.calm = true) (hu : X.A.units + 3 < cLine) : CallR X (.type "set") (rSetD X.K X.prog X.w) := by
  refine cr_weak (cr_setR hc hu) fun xs H Q h => ?_
  obtain ⟨x, rs, rfl, hx, hl, q⟩ := h
  obtain ⟨a, vs, rfl, ha, hv⟩ := dp_list hx
  obtain ⟨ks, e1, e2, e3⟩ := rows_addr hv
  subst e1
  refine ⟨a, ks, rfl, ha, e3, by rw [← e2, List.length_map] at hl; exact hl, fun p L hp h1 h2 nd => q p L hp (fun z hz => e3 z (h1 z hz)) (fun r => ⟨fun hr => ?_, fun hr => ?_⟩) nd⟩
  · obtain ⟨z, hz, rfl⟩ := List.mem_map.mp hr
    rw [← e2]
    exact List.mem_map.mpr ⟨z, h1 z hz, rfl⟩
  · rw [← e2] at hr
    obtain ⟨z, hz, rfl⟩ := List.mem_map.mp hr
    exact h2 z hz
theorem nodup_nil : ∀ {ks : List Row}, ks.Nodup → (∀ k ∈ ks, k = []) → ks.length ≤ 1
  | [], _, _ => by simp
  | [_], _, _ => by simp
  | a :: b :: l, h, e => by
    have h1 := e a List.mem_cons_self
    have h2 := e b (List.mem_cons_of_mem _ List.mem_cons_self)
    rw [h1, h2] at h
    simp at h
/-- sorted(set(x)), x a list of rows of one shape: the two readings at once -/
theorem ss_use {K : PySem.W.Frag} {P : Program} {w : World} {x : V} {H1 : Hp} {Q : VK} (rs : List Row) (ks : List Kd) (hx : Dp K H1 x (rowsD rs)) (hk : ∀ r ∈ rs, RowK ks r) (hl : rs.length ≤ 306)
    (q : ∀ a H2, NewL K H1 H2 a ((sortR rs).map rowD) → Q (.ref a) H2) : rSetD K P w [x] H1 fun y H2 => rSortS K P w [y] H2 Q := by
  refine ⟨x, rs, rfl, hx, hl, fun a L ha hL hm nd => ?_⟩
  have na : ∀ {b : Addr} {xs : List V}, SqT K H1 b xs → SqT K (upd H1 a (SetHO P w a L)) b xs := fun z => same_t (same_new ha _) z
  refine ⟨a, L, ks, rfl, upd_same, fun p hp => na (hL p hp), fun p hp => hk _ ((hm _).mp (List.mem_map.mpr ⟨p, hp, rfl⟩)), ?_, fun L' p h1 h2 hp => ?_⟩
  · by_cases z : ks = []
    · right
      rw [← List.length_map (f := (·.2))]
      refine nodup_nil nd fun r hr => ?_
      have := hk r ((hm r).mp hr)
      rw [z] at this
      cases this
      rfl
    · exact .inl z
  refine q p _ ⟨fun b u e => ?_, _, upd_same, ?_⟩
  · have hb := same_new ha (SetHO P w a L) b u e
    exact same_new hp _ b u hb
  · have e2 : L'.map (·.2) = sortR rs := by
      rw [h2]
      exact sortR_unique (up_sortR _) fun y => by rw [mem_sortR, hm]
    rw [← e2]
    exact addr_rows fun q hq => same_t (same_new hp _) (h1 q hq)

/-! ### setdefault, tuple keys -/
section
variable {X : Cx} {pins : List (Addr × Obj)} {σ : L2.St} {H : Hp} {s : Shared} {a b : Addr} {r : Value} {d : V} {k : List Key} {A : Around} {E : Value → Shared → Prop}
theorem dT_setd {kvs : List (List Key × V)} {Q : Value → Shared → Prop} (hu : A.units + 1 < cLine) (I : Inv X pins σ H s) (e : H a = some (.dT kvs)) (eb : H b = some (.tup (k.map kV))) (rd : RelV d r) (hl : kvs.length < sizeLine)
    (h1 : ∀ v, valV kvs k = some v → ∀ (w' : Value) (s' : Shared), Inv X pins σ H s' → RelV v w' → Q w' s') (h2 : valV kvs k = none → ∀ (w' : Value) (s' : Shared), Inv X pins σ (upd H a (.dT (putK kvs k d))) s' → RelV d w' → Q w' s') :
    wpAny (model X.prog X.w) A (call (.builtin "dict.setdefault") [.ref a, .ref b, r]) Q E s := by
  obtain ⟨z, hd, xs, rel, dd⟩ := dt_of I.hok e
  have hz : xs.length ≤ sizeLine := by rw [← Paired.length rel]; exact z
  refine call_setdefault_heap (hsz := hz) (tupleKind_room_in1 hu) (key_of I.hok eb) hd dd (fun p hp => ?_) fun hn h' dd' hs => ?_
  · have q := rel.val k
    rw [hp] at q
    cases q0 : valV kvs k with
    | none =>
      rw [q0] at q
      exact (show False from q).elim
    | some v0 =>
      rw [q0] at q
      exact h1 v0 q0 _ _ (I.tok _) q
  · have q := rel.val k
    rw [hn] at q
    cases q0 : valV kvs k with
    | some v0 =>
      rw [q0] at q
      exact (show False from q).elim
    | none =>
      have hl2 : (putK kvs k d).length ≤ sizeLine := by
        have := length_putK kvs k d
        omega
      obtain ⟨o, es, ep, hq, g2, g3, g4, _, g5⟩ := dd'
      refine h2 q0 _ _ (d_write I (by rw [e]; exact True.intro) hs ⟨o, hq⟩ ⟨hl2, hd, _, (rel.put k eb rd).keeps fun c ys ec => ?_, o, es, ep, hq, g2, g3, g4, g5⟩) rd
      rw [upd_ne (ne_of ec e (fun z => nomatch z))]
      exact ec
end
/-- d.setdefault(y, z), tuple keys -/
def tDSetT (td ty tx : TE) : TE := fun σ H Q => td σ H fun x H1 => ∃ a, x = .ref a ∧ IsD H1 a ∧ ty σ H1 fun y H2 => tx σ H2 fun z H3 => ∃ (kvs : List (List Key × V)) (k : List Key) (b : Addr), H3 a = some (.dT kvs) ∧ y = .ref b ∧ H3 b = some (.tup (k.map kV)) ∧ kvs.length < sizeLine ∧
  (∀ v, valV kvs k = some v → Q v H3) ∧ (valV kvs k = none → Q z (upd H3 a (.dT (putK kvs k z))))
theorem pe_dsetT {X : Cx} {o e f : Expr} {td ty tx : TE} {apos cpos : Pos} (hu : X.A.units + 1 < cLine) (ho : PE X o td) (he : PE X e ty) (hf : PE X f tx) (m : M2 X o "setdefault" apos e f cpos) : PE X (.Call (.Attribute o "setdefault" apos) [e, f] [] cpos) (tDSetT td ty tx) := by
  refine ⟨fun pins s σ H Q I h => ?_⟩
  refine wpAny_Call_method m.base m.few m.line PySem.F.plainAttrs_dict PySem.F.slot_dict_setdefault PySem.F.type_dict_setdefault (thn (ho.run pins s σ H _ I h) fun u s1 ⟨x, H1, I1, rx, a, ex, d, q1⟩ => ?_)
  subst ex
  obtain rfl : u = Value.ref a := rx
  obtain ⟨t1, t2, _⟩ := isD_at I1 d
  refine ⟨t1, t2, ?_⟩
  rw [m.trees]
  refine Calls.callWith_builtin rfl (Calls.evalArgs_plain (Calls.spliced_cons (thn (he.run pins s1 σ H1 _ I1 q1) fun iv s2 ⟨y, H2, I2, ry, q2⟩ =>
    Calls.spliced_cons (thn (hf.run pins s2 σ H2 _ I2 q2) fun fv s3 ⟨z, H3, I3, rz, kvs, k, b, ea, ey, eb, hl, q3, q4⟩ => Calls.spliced_nil ?_))))
  subst ey
  cases (show iv = Value.ref b from ry)
  exact dT_setd hu I3 ea eb rz hl (fun v hv w' s4 I4 rw' => ⟨v, _, I4, rw', q3 v hv⟩) fun hn w' s4 I4 rw' => ⟨z, _, I4, rw', q4 hn⟩

/-! ### sorted(d), tuple keys -/
theorem keyed {H : Hp} : ∀ {kvs : List (List Key × V)} {xs : List (List Key × Addr × Value)}, KT H kvs xs → (xs.map fun x => (x.2.1, x.1)).map (·.2) = kvs.map (·.1) ∧ ∀ q ∈ (xs.map fun x => (x.2.1, x.1)), H q.1 = some (.tup (q.2.map kV))
  | _, _, .nil => ⟨rfl, fun q hq => nomatch hq⟩
  | _, _, .cons (b := x) h t => by
    obtain ⟨e1, e2⟩ := keyed t
    obtain ⟨h1, h2, _⟩ := h
    refine ⟨by simp only [List.map_cons] at e1 ⊢; rw [e1, ← h1], fun q hq => ?_⟩
    rw [List.map_cons] at hq
    rcases List.mem_cons.mp hq with e | hq
    · subst e
      exact by rw [← h1]; exact h2
    · exact e2 q hq
def rSortT : List V → Hp → VK → Prop := fun vs H Q => ∃ (a : Addr) (kvs : List (List Key × V)) (ks : List Kd), vs = [V.ref a] ∧ H a = some (.dT kvs) ∧ (∀ p ∈ kvs, RowK ks p.1) ∧ (ks ≠ [] ∨ kvs.length ≤ 1) ∧ (kvs.map (·.1)).Nodup ∧ kvs.length ≤ 1000 ∧
  ∀ (L' : List (Addr × Row)) (p : Addr), (∀ q ∈ L', H q.1 = some (.tup (q.2.map kV))) → L'.map (·.2) = sortR (kvs.map (·.1)) → H p = none → Q (.ref p) (upd H p (.lst (L'.map fun q => V.ref q.1)))
theorem cr_sortT {X : Cx} (hc : X.calm = true) (hu : X.A.units + 8 < cLine) : CallR X (.builtin "sorted") rSortT := by
  intro pins s σ H vs us Q I r h
  obtain ⟨a, kvs, ks, rfl, ha, hK, hne, nd, hl, q⟩ := h
  obtain ⟨z, hs, xs, pr, o, es, ep, ho, hx, hdt, he, hn⟩ := (show ObjOk X.prog X.w H s.heap a (.dT kvs) from I.hok a _ ha)
  have l1 : es.size = xs.length := size_of_entries he
  have l2 : kvs.length = xs.length := Paired.length pr
  obtain ⟨k1, k2⟩ := keyed pr
  rw [Vals.ref1 r]
  refine Calls.call_function_entry kind_sorted plain_sorted entry_sorted (args_sorted1 _) ?_
  unfold Builtin.«sorted»
  refine wpAny_bind (m := checkCount "sorted" 1 1 _) (wpAny_pure ?_)
  refine wpAny_bind (PySem.W.kdu_collect (A := X.A.in1) (kdl_raw hs hx hdt) (I.ok.hd hc) ho (by rw [sizeLine_eq]; omega) fun h' tk acc kp it => ?_)
  have ea : acc.toList = (xs.map fun x => (x.2.1, x.1)).map fun q => Value.ref q.1 := by
    rw [List.map_map]
    show acc.toList = xs.map fun x => Value.ref x.2.1
    have hl : acc.toList.length = xs.length := by rw [Array.length_toList, it.1]; exact l1
    apply List.ext_getElem?
    intro j
    rw [List.getElem?_map]
    cases hj : acc.toList[j]? with
    | none =>
      have h1 := List.getElem?_eq_none_iff.mp hj
      rw [List.getElem?_eq_none (by omega)]
      all_goals rfl
    | some v =>
      obtain ⟨en, hen, hv⟩ := it.2 j v (by rw [← Array.getElem?_toList]; exact hj)
      have qe := entry_at he j
      rw [hen] at qe
      cases hb : xs[j]? with
      | none =>
        rw [hb] at qe
        exact nomatch (show some en = none from qe)
      | some b =>
        rw [hb] at qe
        have e2 : en = entryOfKey (tupleKind (mixKind X.prog X.w)) b := Option.some.inj qe
        rw [hv, e2]
        all_goals rfl
  generalize hL : (xs.map fun x => (x.2.1, x.1)) = L at *
  have lL : L.length = kvs.length := by rw [← hL, List.length_map, l2]
  refine wpAny_bind (wpAny_newList ?_ (by rw [ea, List.length_map, sizeLine_eq]; omega))
  rw [ea]
  refine wpAny_bind (wpAny_holding (wpAny_mono (sort_new (S := fun b r => H b = some (.tup (r.map kV))) (fun b r e => .inl (.inl e)) (L := L) (ks := ks) (Q := Q) (s := { s with heap := h', toks := tk }) (s1 := { s with heap := h', toks := tk }) (I.kept kp) (fun _ _ e => e) (Nat.le_refl _) rfl rfl k2 (fun q hq => ?_) (by rw [lL]; exact hne) (by rw [k1]; exact nd) (by omega) (by show X.A.units + 1 + 2 < cLine; omega) fun L' p h1 h2 hn => q L' p h1 (by rw [h2, k1]) hn) (fun u s' hs => ?_) fun _ _ z => z))
  · have : q.2 ∈ L.map (·.2) := List.mem_map.mpr ⟨q, hq, rfl⟩
    rw [k1] at this
    obtain ⟨y, hy, e⟩ := List.mem_map.mp this
    rw [← e]
    exact hK y hy
  · exact wpAny_pure ⟨_, rfl, hs⟩

/-! ### min, max of keys of one kind -/
def minK : List Key → Key
  | [] => .inl 0
  | x :: xs => xs.foldl (fun a y => if ltK y a = true then y else a) x
def maxK : List Key → Key
  | [] => .inl 0
  | x :: xs => xs.foldl (fun a y => if ltK a y = true then y else a) x
theorem pick_mem (f : Key → Key → Bool) : ∀ (xs : List Key) (x : Key), xs.foldl (fun a y => if f a y = true then y else a) x ∈ x :: xs
  | [], x => List.mem_cons_self
  | y :: ys, x => by
    rw [List.foldl_cons]
    have := pick_mem f ys (if f x y = true then y else x)
    rcases List.mem_cons.mp this with e | h
    · rw [e]
      split
      · exact List.mem_cons_of_mem _ List.mem_cons_self
      · exact List.mem_cons_self
    · exact List.mem_cons_of_mem _ (List.mem_cons_of_mem _ h)
theorem minK_mem {xs : List Key} (h : xs ≠ []) : minK xs ∈ xs := by
  cases xs with
  | nil => exact absurd rfl h
  | cons x xs => exact pick_mem (fun a y => ltK y a) xs x
theorem maxK_mem {xs : List Key} (h : xs ≠ []) : maxK xs ∈ xs := by
  cases xs with
  | nil => exact absurd rfl h
  | cons x xs => exact pick_mem (fun a y => ltK a y) xs x
theorem minD_keys {k : Kd} (hk : k ≠ .cond) : ∀ (xs : List Key) (x : Key), HasK k (kV x) → (∀ y ∈ xs, HasK k (kV y)) → PySem.W.minD (keyD x) (xs.map keyD) = keyD (minK (x :: xs))
  | [], _, _, _ => rfl
  | y :: ys, x, hx, hy => by
    have h1 := hy y List.mem_cons_self
    have e : (if PySem.W.dataLt (keyD y) (keyD x) = true then keyD y else keyD x) = keyD (if ltK y x = true then y else x) := by
      rw [key_lt hk h1 hx]
      split <;> rfl
    have ih := minD_keys hk ys (if ltK y x = true then y else x) (by split <;> assumption) fun z hz => hy z (List.mem_cons_of_mem _ hz)
    unfold PySem.W.minD at ih ⊢
    rw [List.map_cons, List.foldl_cons]
    refine Eq.trans ?_ ih
    exact congrArg (fun z => List.foldl _ z _) e
theorem maxD_keys {k : Kd} (hk : k ≠ .cond) : ∀ (xs : List Key) (x : Key), HasK k (kV x) → (∀ y ∈ xs, HasK k (kV y)) → PySem.W.maxD (keyD x) (xs.map keyD) = keyD (maxK (x :: xs))
  | [], _, _, _ => rfl
  | y :: ys, x, hx, hy => by
    have h1 := hy y List.mem_cons_self
    have e : (if PySem.W.dataLt (keyD x) (keyD y) = true then keyD y else keyD x) = keyD (if ltK x y = true then y else x) := by
      rw [key_lt hk hx h1]
      split <;> rfl
    have ih := maxD_keys hk ys (if ltK x y = true then y else x) (by split <;> assumption) fun z hz => hy z (List.mem_cons_of_mem _ hz)
    unfold PySem.W.maxD at ih ⊢
    rw [List.map_cons, List.foldl_cons]
    refine Eq.trans ?_ ih
    exact congrArg (fun z => List.foldl _ z _) e
theorem keys_reads {h : Heap} : ∀ {ks : List Key} {us : List Value}, Vals (ks.map kV) us → ReadsAll h us (ks.map keyD) []
  | [], _, .nil => .nil
  | .inl i :: k, _, .cons r t => by
    obtain ⟨tk, rfl⟩ := r
    exact ReadsAll.cons (.int i tk) (keys_reads t)
  | .inr x :: k, _, .cons r t => by
    obtain ⟨tk, rfl⟩ := r
    exact ReadsAll.cons (.str x tk) (keys_reads t)
theorem keys_alike {k : Kd} (hk : k ≠ .cond) {xs : List Key} (h : ∀ y ∈ xs, HasK k (kV y)) : PySem.W.AlikeAll (xs.map keyD) := by
  refine ⟨fun x hx y hy => ?_, fun x hx => ?_⟩
  · obtain ⟨a, ha, rfl⟩ := List.mem_map.mp hx
    obtain ⟨b, hb, rfl⟩ := List.mem_map.mp hy
    exact key_alike hk (h a ha) (h b hb)
  · obtain ⟨a, ha, rfl⟩ := List.mem_map.mp hx
    cases a <;> exact fun z => nomatch z
theorem rel_of_reads {h : Heap} {v : Value} {k : Key} {as : List Addr} (r : Reads h v (keyD k) as) : RelV (kV k) v := by
  cases k with
  | inl i =>
    cases r
    exact ⟨_, rfl⟩
  | inr x =>
    cases r
    exact ⟨_, rfl⟩
def rPickK (K : PySem.W.Frag) (f : List Key → Key) : List V → Hp → VK → Prop := fun vs H Q => ∃ (a : Addr) (xs : List Key) (k : Kd), vs = [V.ref a] ∧ SqL K H a (xs.map kV) ∧ k ≠ .cond ∧ (∀ y ∈ xs, HasK k (kV y)) ∧ xs ≠ [] ∧ Q (kV (f xs)) H
theorem cr_minK {X : Cx} (hc : X.calm = true) (hu : X.A.units + 3 < cLine) : CallR X (.builtin "min") (rPickK X.K minK) := by
  intro pins s σ H vs us Q I r h
  obtain ⟨a, xs, k, rfl, hs, hk, hx, hne, q⟩ := h
  obtain ⟨its, rv, hl, _⟩ := I.list hs
  rw [Vals.ref1 r]
  cases xs with
  | nil => exact absurd rfl hne
  | cons x xs =>
    refine PySem.W.min_list_data (x := keyD x) (xs := xs.map keyD) (I.ok.hd hc) hl.isList (by simpa using keys_reads rv) (keys_alike hk hx) ?_ fun i v h' tk bs _ hr hkp => ⟨kV (minK (x :: xs)), H, I.kept hkp, ?_, q⟩
    · have := depth_keys (x :: xs)
      rw [List.map_cons] at this
      rw [this]
      omega
    · rw [minD_keys hk xs x (hx x List.mem_cons_self) fun y hy => hx y (List.mem_cons_of_mem _ hy)] at hr
      exact rel_of_reads hr
theorem cr_maxK {X : Cx} (hc : X.calm = true) (hu : X.A.units + 3 < cLine) : CallR X (.builtin "max") (rPickK X.K maxK) := by
  intro pins s σ H vs us Q I r h
  obtain ⟨a, xs, k, rfl, hs, hk, hx, hne, q⟩ := h
  obtain ⟨its, rv, hl, _⟩ := I.list hs
  rw [Vals.ref1 r]
  cases xs with
  | nil => exact absurd rfl hne
  | cons x xs =>
    refine PySem.W.max_list_data (x := keyD x) (xs := xs.map keyD) (I.ok.hd hc) hl.isList (by simpa using keys_reads rv) (keys_alike hk hx) ?_ fun i v h' tk bs _ hr hkp => ⟨kV (maxK (x :: xs)), H, I.kept hkp, ?_, q⟩
    · have := depth_keys (x :: xs)
      rw [List.map_cons] at this
      rw [this]
      omega
    · rw [maxD_keys hk xs x (hx x List.mem_cons_self) fun y hy => hx y (List.mem_cons_of_mem _ hy)] at hr
      exact rel_of_reads hr
end K23

set_option Elab.async false
set_option linter.all false
set_option maxRecDepth 100000
set_option maxHeartbeats 4000000
/-! K23h: the mirror: what a question means. -/
namespace K23
open PySem PySem.Spec PyProof.Rows L2

inductive Ar where
  | add | sub | mul | div | mod
inductive Cm where
  | eq | ne | lt | le | gt | ge
inductive Ag where
  | sum | least | greatest
def Ar.nm : Ar → Str
  | .add => "add" | .sub => "sub" | .mul => "mul" | .div => "div" | .mod => "mod"
def Cm.nm : Cm → Str
  | .eq => "eq" | .ne => "ne" | .lt => "lt" | .le => "le" | .gt => "gt" | .ge => "ge"
def Ag.nm : Ag → Str
  | .sum => "sum" | .least => "least" | .greatest => "greatest"
def loNm : Bool → Str
  | true => "and"
  | false => "or"
def kdNm : Kd → Str
  | .num => "number" | .txt => "text" | .cond => "truth"
def wrapI (n : Int) : Int := (n + big) % (2 * big + 1) - big
def arI : Ar → Int → Int → Int
  | .add, x, y => wrapI (x + y)
  | .sub, x, y => wrapI (x - y)
  | .mul, x, y => wrapI (x * y)
  | .div, x, y => if y = 0 then 0 else wrapI (x.fdiv y)
  | .mod, x, y => if y = 0 then x else x - y * x.fdiv y
def cmB : Cm → Key → Key → Bool
  | .eq, a, b => decide (a = b)
  | .ne, a, b => !decide (a = b)
  | .lt, a, b => ltK a b
  | .le, a, b => !ltK b a
  | .gt, a, b => ltK b a
  | .ge, a, b => !ltK a b
def loB : Bool → Bool → Bool → Bool
  | true, a, b => a && b
  | false, a, b => a || b
def iV : V → Int
  | .int i => i
  | _ => 0
def bV : V → Bool
  | .bl b => b
  | _ => false
def arV (o : Ar) (x y : V) : V := .int (arI o (iV x) (iV y))
def cmV (o : Cm) (x y : V) : V := .bl (cmB o (keyOf x) (keyOf y))
def loV (o : Bool) (x y : V) : V := .bl (loB o (bV x) (bV y))
def agV : Ag → List V → V
  | .sum, vs => .int (wrapI (vs.map iV).sum)
  | .least, vs => kV (minK (vs.map keyOf))
  | .greatest, vs => kV (maxK (vs.map keyOf))
def cellK (lv : Lv) (u s c : Nat) : Key := ((lv.reverse[u]?.getD [])[s]?.getD [])[c]?.getD (.inl 0)
def cross (rss : List (List Row)) : List Ch := rss.foldl (fun cs rows => cs.flatMap fun c => rows.map fun r => c ++ [r]) [[]]
def keyM (cs : List (Nat × Nat)) (ch : Ch) : Row := cs.map fun p => (ch[p.1]?.getD [])[p.2]?.getD (.inl 0)
def groupsM (grp : Option (List (Nat × Nat))) (chs : List Ch) : List (List Ch) :=
  match grp with
  | none => chs.map fun c => [c]
  | some cs => (sortR (chs.map (keyM cs))).map fun k => chs.filter fun c => decide (keyM cs c = k)
def memR (r : Row) (l : List Row) : Bool := l.any fun y => decide (r = y)
theorem memR_iff {r : Row} {l : List Row} : memR r l = true ↔ r ∈ l := by
  unfold memR
  rw [List.any_eq_true]
  exact ⟨fun ⟨y, h, e⟩ => by rw [of_decide_eq_true e]; exact h, fun h => ⟨r, h, decide_eq_true rfl⟩⟩
def headC (ms : List Ch) : Ch := ms.headD []
def choicesM (tb : Str → List Row) (srcs : List (Str × List Kd)) (wh : Option (PyData × Sem)) (lv : Lv) : List Ch :=
  match wh with
  | none => cross (srcs.map fun s => tb s.1)
  | some x => (cross (srcs.map fun s => tb s.1)).filter fun c => bV (x.2 (lv ++ [c]) [])
def havM (hav : Option (PyData × Sem)) (lv : Lv) (ms : List Ch) : Bool :=
  match hav with
  | none => true
  | some x => bV (x.2 (lv ++ [headC ms]) ms)
def rowM (items : List (PyData × Kd × Sem)) (lv : Lv) (ms : List Ch) : Row := items.map fun x => keyOf (x.2.2 (lv ++ [headC ms]) ms)
def selM (tb : Str → List Row) (items : List (PyData × Kd × Sem)) (srcs : List (Str × List Kd)) (wh : Option (PyData × Sem)) (grp : Option (List (Nat × Nat))) (hav : Option (PyData × Sem)) (lv : Lv) : List Row :=
  sortR (((groupsM grp (choicesM tb srcs wh lv)).filter (havM hav lv)).map (rowM items lv))
def optD : Option (PyData × Sem) → PyData
  | none => .none
  | some x => x.1
def cellD (u s c : Nat) : PyData := .tuple [.str "cell", .int u, .int s, .int c]
def optG : Option (List (Nat × Nat)) → PyData
  | none => .none
  | some cs => .list (cs.map fun p => cellD 0 p.1 p.2)

section
variable (tb : Str → List Row) (sch : List (Str × List Kd))
mutual
inductive RepE : Nat → Bool → Sc → PyData → Kd → Sem → Prop
  | num {n : Nat} {g : Bool} {sc : Sc} (i : Int) (h1 : -big ≤ i) (h2 : i ≤ big) : RepE n g sc (.tuple [.str "number", .int i]) .num fun _ _ => .int i
  | txt {n : Nat} {g : Bool} {sc : Sc} (x : Str) (h : TxOk x) : RepE n g sc (.tuple [.str "text", .str x]) .txt fun _ _ => .str x
  | cell {n : Nat} {g : Bool} {sc : Sc} (u s c : Nat) {scn : List (List Kd)} {ks : List Kd} {k : Kd} (h1 : sc[u]? = some scn) (h2 : scn[s]? = some ks) (h3 : ks[c]? = some k) (hb : u < 100 ∧ s < 100 ∧ c < 100) : RepE n g sc (cellD u s c) k fun lv _ => kV (cellK lv u s c)
  | neg {n n' : Nat} {g : Bool} {sc : Sc} {d : PyData} {f : Sem} (h : n' < n) (e : RepE n' g sc d .num f) : RepE n g sc (.tuple [.str "neg", d]) .num fun lv ms => .int (wrapI (0 - iV (f lv ms)))
  | nt {n n' : Nat} {g : Bool} {sc : Sc} {d : PyData} {f : Sem} (h : n' < n) (e : RepE n' g sc d .cond f) : RepE n g sc (.tuple [.str "not", d]) .cond fun lv ms => .bl (!bV (f lv ms))
  | ex {n n' m : Nat} {g : Bool} {sc : Sc} {d : PyData} {ks : List Kd} {q : Lv → List Row} (h : n' < n) (e : RepQ n' m sc d ks q) : RepE n g sc (.tuple [.str "exists", d]) .cond fun lv _ => .bl (decide (0 < (q lv).length))
  | cnt {n : Nat} {sc : Sc} : RepE n true sc (.tuple [.str "count"]) .num fun _ ms => .int ms.length
  | ag {n n' : Nat} {sc : Sc} {d : PyData} {k : Kd} {f : Sem} (o : Ag) (h : n' < n) (e : RepE n' false sc d k f) (hk : k ≠ .cond) (ho : o = .sum → k = .num) : RepE n true sc (.tuple [.str o.nm, d]) k fun lv ms => agV o (ms.map fun c => f (lv.dropLast ++ [c]) [])
  | ar {n n' : Nat} {g : Bool} {sc : Sc} {d1 d2 : PyData} {f1 f2 : Sem} (o : Ar) (h : n' < n) (e1 : RepE n' g sc d1 .num f1) (e2 : RepE n' g sc d2 .num f2) : RepE n g sc (.tuple [.str o.nm, d1, d2]) .num fun lv ms => arV o (f1 lv ms) (f2 lv ms)
  | cm {n n' : Nat} {g : Bool} {sc : Sc} {d1 d2 : PyData} {k : Kd} {f1 f2 : Sem} (o : Cm) (h : n' < n) (hk : k ≠ .cond) (e1 : RepE n' g sc d1 k f1) (e2 : RepE n' g sc d2 k f2) : RepE n g sc (.tuple [.str o.nm, d1, d2]) .cond fun lv ms => cmV o (f1 lv ms) (f2 lv ms)
  | lo {n n' : Nat} {g : Bool} {sc : Sc} {d1 d2 : PyData} {f1 f2 : Sem} (o : Bool) (h : n' < n) (e1 : RepE n' g sc d1 .cond f1) (e2 : RepE n' g sc d2 .cond f2) : RepE n g sc (.tuple [.str (loNm o), d1, d2]) .cond fun lv ms => loV o (f1 lv ms) (f2 lv ms)
inductive RepQ : Nat → Nat → Sc → PyData → List Kd → (Lv → List Row) → Prop
  | sel {n n' m : Nat} {sc : Sc} (items : List (PyData × Kd × Sem)) (srcs : List (Str × List Kd)) (wh : Option (PyData × Sem)) (grp : Option (List (Nat × Nat))) (hav : Option (PyData × Sem))
      (h : n' < n) (hm : 1 ≤ m) (hs : ∀ s ∈ srcs, s ∈ sch) (hl : srcs.length ≤ 3) (hne : items ≠ []) (hil : items.length ≤ 100) (hik : ∀ x ∈ items, x.2.1 ≠ Kd.cond) (hi : ∀ x ∈ items, RepE n' true (srcs.map (·.2) :: sc) x.1 x.2.1 x.2.2)
      (hw : ∀ x, wh = some x → RepE n' false (srcs.map (·.2) :: sc) x.1 .cond x.2) (hg : ∀ cs, grp = some cs → cs.length ≤ 4 ∧ ∀ p ∈ cs, ∃ ks k, (srcs.map (·.2))[p.1]? = some ks ∧ ks[p.2]? = some k)
      (hh : ∀ x, hav = some x → RepE n' true (srcs.map (·.2) :: sc) x.1 .cond x.2) :
      RepQ n m sc (.tuple [.str "select", .list (items.map (·.1)), .list (srcs.map fun s => .str s.1), optD wh, optG grp, optD hav]) (items.map (·.2.1)) (selM tb items srcs wh grp hav)
  | uni {n n' m m1 m2 : Nat} {sc : Sc} {d1 d2 : PyData} {ks : List Kd} {q1 q2 : Lv → List Row} (h : n' < n) (hm : m1 + m2 ≤ m) (h11 : m ≤ 11) (e1 : RepQ n' m1 sc d1 ks q1) (e2 : RepQ n' m2 sc d2 ks q2) :
      RepQ n m sc (.tuple [.str "union", d1, d2]) ks fun lv => sortR (q1 lv ++ q2 lv)
  | exc {n n' m m1 m2 : Nat} {sc : Sc} {d1 d2 : PyData} {ks : List Kd} {q1 q2 : Lv → List Row} (h : n' < n) (hm : m1 + m2 ≤ m) (h11 : m ≤ 11) (e1 : RepQ n' m1 sc d1 ks q1) (e2 : RepQ n' m2 sc d2 ks q2) :
      RepQ n m sc (.tuple [.str "except", d1, d2]) ks fun lv => (q1 lv).filter fun r => !memR r (q2 lv)
  | int {n n' m m1 m2 : Nat} {sc : Sc} {d1 d2 : PyData} {ks : List Kd} {q1 q2 : Lv → List Row} (h : n' < n) (hm : m1 + m2 ≤ m) (h11 : m ≤ 11) (e1 : RepQ n' m1 sc d1 ks q1) (e2 : RepQ n' m2 sc d2 ks q2) :
      RepQ n m sc (.tuple [.str "intersect", d1, d2]) ks fun lv => (q1 lv).filter fun r => memR r (q2 lv)
end
end

/-! ### bounds -/
theorem wrapI_le (n : Int) : -big ≤ wrapI n ∧ wrapI n ≤ big := by
  unfold wrapI
  have h1 : (0 : Int) < 2 * big + 1 := by decide
  have h2 := Int.emod_nonneg (n + big) (by omega : 2 * big + 1 ≠ 0)
  have h3 := Int.emod_lt_of_pos (n + big) h1
  omega
theorem modI_le {x y : Int} (h : y ≠ 0) : x - y * x.fdiv y = x.fmod y := by
  have := Int.mul_fdiv_add_fmod x y
  omega
theorem fmod_abs (x : Int) {y : Int} (h : y ≠ 0) : (x.fmod y).natAbs < y.natAbs := by
  rcases Int.lt_or_gt_of_ne h with c | c
  · have e : x.fmod y = -((-x).fmod (-y)) := by rw [Int.neg_fmod_neg, Int.neg_neg]
    have h1 := Int.fmod_nonneg_of_pos (-x) (b := -y) (by omega)
    have h2 := Int.fmod_lt_of_pos (-x) (b := -y) (by omega)
    omega
  · have h1 := Int.fmod_nonneg_of_pos x c
    have h2 := Int.fmod_lt_of_pos x c
    omega
theorem arI_le (o : Ar) {x y : Int} (hx : -big ≤ x ∧ x ≤ big) (hy : -big ≤ y ∧ y ≤ big) : -big ≤ arI o x y ∧ arI o x y ≤ big := by
  cases o with
  | add => exact wrapI_le _
  | sub => exact wrapI_le _
  | mul => exact wrapI_le _
  | div =>
    show -big ≤ (if y = 0 then 0 else wrapI (x.fdiv y)) ∧ (if y = 0 then 0 else wrapI (x.fdiv y)) ≤ big
    split
    · exact ⟨by decide, by decide⟩
    · exact wrapI_le _
  | mod =>
    show -big ≤ (if y = 0 then x else x - y * x.fdiv y) ∧ (if y = 0 then x else x - y * x.fdiv y) ≤ big
    split
    · exact hx
    · rename_i c
      rw [modI_le c]
      have := fmod_abs x c
      omega

/-! ### choices -/
theorem cross_conf : ∀ (rss : List (List Row)) (scs : List (List Kd)) (cs : List Ch) (sc0 : List (List Kd)), Paired (fun ks rows => ∀ r ∈ rows, RowK ks r) scs rss → (∀ c ∈ cs, ChK sc0 c) →
    ∀ c ∈ rss.foldl (fun cs rows => cs.flatMap fun c => rows.map fun r => c ++ [r]) cs, ChK (sc0 ++ scs) c
  | _, _, cs, sc0, .nil, hc => fun c h => by rw [List.append_nil]; exact hc c h
  | rows :: rss, ks :: scs, cs, sc0, .cons h1 t, hc => fun c h => by
    have := cross_conf rss scs (cs.flatMap fun c => rows.map fun r => c ++ [r]) (sc0 ++ [ks]) t (fun c' h' => by
      obtain ⟨c0, hc0, h2⟩ := List.mem_flatMap.mp h'
      obtain ⟨r, hr, rfl⟩ := List.mem_map.mp h2
      exact paired_app (hc c0 hc0) (.cons (h1 r hr) .nil)) c h
    rwa [List.append_assoc] at this
where
  paired_app {α β : Type} {F : α → β → Prop} : ∀ {l l' : List α} {m m' : List β}, Paired F l m → Paired F l' m' → Paired F (l ++ l') (m ++ m')
    | _, _, _, _, .nil, q => q
    | _, _, _, _, .cons h t, q => .cons h (paired_app t q)
theorem cross_len : ∀ (rss : List (List Row)) (cs : List Ch), (∀ rows ∈ rss, rows.length ≤ 3) → (rss.foldl (fun cs rows => cs.flatMap fun c => rows.map fun r => c ++ [r]) cs).length ≤ cs.length * 3 ^ rss.length
  | [], cs, _ => by simp
  | rows :: rss, cs, h => by
    have h1 := cross_len rss (cs.flatMap fun c => rows.map fun r => c ++ [r]) fun r hr => h r (List.mem_cons_of_mem _ hr)
    have h2 : (cs.flatMap fun c => rows.map fun r => c ++ [r]).length = cs.length * rows.length := by
      clear h1
      induction cs with
      | nil => simp
      | cons c cs ih =>
        rw [List.flatMap_cons, List.length_append, ih, List.length_map, List.length_cons, Nat.succ_mul]
        omega
    have h3 := h rows List.mem_cons_self
    rw [List.foldl_cons]
    refine Nat.le_trans h1 ?_
    rw [h2, List.length_cons, Nat.pow_succ]
    calc cs.length * rows.length * 3 ^ rss.length ≤ cs.length * 3 * 3 ^ rss.length := Nat.mul_le_mul_right _ (Nat.mul_le_mul_left _ h3)
      _ = cs.length * (3 ^ rss.length * 3) := by rw [Nat.mul_assoc, Nat.mul_comm 3]
def TbOk (tb : Str → List Row) (sch : List (Str × List Kd)) : Prop := ∀ s ∈ sch, (tb s.1).length ≤ 3 ∧ ∀ r ∈ tb s.1, RowK s.2 r
def Mem (sc : Sc) (ms : List Ch) : Prop := ms ≠ [] ∧ ms.length ≤ 27 ∧ ∃ scn sc', sc = scn :: sc' ∧ ∀ c ∈ ms, ChK scn c
section
variable {tb : Str → List Row} {sch : List (Str × List Kd)}
theorem src_paired (T : TbOk tb sch) : ∀ {srcs : List (Str × List Kd)}, (∀ s ∈ srcs, s ∈ sch) → Paired (fun ks rows => ∀ r ∈ rows, RowK ks r) (srcs.map (·.2)) (srcs.map fun s => tb s.1)
  | [], _ => .nil
  | s :: l, h => .cons (T s (h s List.mem_cons_self)).2 (src_paired T fun x hx => h x (List.mem_cons_of_mem _ hx))
theorem cross_all (T : TbOk tb sch) {srcs : List (Str × List Kd)} (hs : ∀ s ∈ srcs, s ∈ sch) : ∀ c ∈ cross (srcs.map fun s => tb s.1), ChK (srcs.map (·.2)) c := by
  have := cross_conf (srcs.map fun s => tb s.1) (srcs.map (·.2)) [[]] [] (src_paired T hs) (fun c hc => by
    rcases List.mem_cons.mp hc with e | h
    · rw [e]; exact .nil
    · exact nomatch h)
  rwa [List.nil_append] at this
theorem cross_27 (T : TbOk tb sch) {srcs : List (Str × List Kd)} (hs : ∀ s ∈ srcs, s ∈ sch) (hl : srcs.length ≤ 3) : (cross (srcs.map fun s => tb s.1)).length ≤ 27 := by
  have := cross_len (srcs.map fun s => tb s.1) [[]] fun rows hr => by
    obtain ⟨s, h, rfl⟩ := List.mem_map.mp hr
    exact (T s (hs s h)).1
  rw [List.length_map] at this
  have h3 : 3 ^ srcs.length ≤ 3 ^ 3 := Nat.pow_le_pow_right (by decide) hl
  unfold cross
  simp only [List.length_singleton, Nat.one_mul] at this
  exact Nat.le_trans this h3
theorem choices_all (T : TbOk tb sch) {srcs : List (Str × List Kd)} (hs : ∀ s ∈ srcs, s ∈ sch) (wh : Option (PyData × Sem)) (lv : Lv) : ∀ c ∈ choicesM tb srcs wh lv, ChK (srcs.map (·.2)) c := by
  intro c hc
  cases wh with
  | none => exact cross_all T hs c hc
  | some x => exact cross_all T hs c ((List.mem_filter.mp hc).1)
theorem choices_27 (T : TbOk tb sch) {srcs : List (Str × List Kd)} (hs : ∀ s ∈ srcs, s ∈ sch) (hl : srcs.length ≤ 3) (wh : Option (PyData × Sem)) (lv : Lv) : (choicesM tb srcs wh lv).length ≤ 27 := by
  cases wh with
  | none => exact cross_27 T hs hl
  | some x => exact Nat.le_trans (List.length_filter_le _ _) (cross_27 T hs hl)
theorem groups_mem {grp : Option (List (Nat × Nat))} {chs : List Ch} {ms : List Ch} (h : ms ∈ groupsM grp chs) : ms ≠ [] ∧ ms.length ≤ chs.length ∧ ∀ c ∈ ms, c ∈ chs := by
  cases grp with
  | none =>
    obtain ⟨c, hc, rfl⟩ := List.mem_map.mp h
    refine ⟨by simp, ?_, fun c' h' => ?_⟩
    · cases chs with
      | nil => exact nomatch hc
      | cons a l => simp
    · rcases List.mem_cons.mp h' with e | z
      · rw [e]; exact hc
      · exact nomatch z
  | some cs =>
    obtain ⟨k, hk, rfl⟩ := List.mem_map.mp h
    rw [mem_sortR] at hk
    obtain ⟨c, hc, e⟩ := List.mem_map.mp hk
    refine ⟨fun z => ?_, List.length_filter_le _ _, fun c' h' => (List.mem_filter.mp h').1⟩
    have : c ∈ chs.filter fun c => decide (keyM cs c = k) := List.mem_filter.mpr ⟨hc, decide_eq_true e⟩
    rw [z] at this
    exact nomatch this
theorem groups_len (grp : Option (List (Nat × Nat))) (chs : List Ch) : (groupsM grp chs).length ≤ chs.length := by
  cases grp with
  | none => unfold groupsM; rw [List.length_map]; exact Nat.le_refl _
  | some cs =>
    unfold groupsM
    rw [List.length_map]
    refine Nat.le_trans (sortR_len _) ?_
    rw [List.length_map]; exact Nat.le_refl _
theorem head_mem {ms : List Ch} (h : ms ≠ []) : headC ms ∈ ms := by
  cases ms with
  | nil => exact absurd rfl h
  | cons c l => exact List.mem_cons_self
theorem groups_Mem (T : TbOk tb sch) {srcs : List (Str × List Kd)} (hs : ∀ s ∈ srcs, s ∈ sch) (hl : srcs.length ≤ 3) {wh : Option (PyData × Sem)} {lv : Lv} {sc : Sc} {grp : Option (List (Nat × Nat))} {ms : List Ch} (hm : ms ∈ groupsM grp (choicesM tb srcs wh lv)) (hc : Conf sc lv) :
    Mem (srcs.map (·.2) :: sc) ms ∧ Conf (srcs.map (·.2) :: sc) (lv ++ [headC ms]) := by
  obtain ⟨h1, h2, h3⟩ := groups_mem hm
  have ha : ∀ c ∈ ms, ChK (srcs.map (·.2)) c := fun c h => choices_all T hs wh lv c (h3 c h)
  exact ⟨⟨h1, Nat.le_trans h2 (choices_27 T hs hl wh lv), _, _, rfl, ha⟩, conf_push hc (ha _ (head_mem h1))⟩
/-! ### soundness -/
theorem cell_has {sc : Sc} {lv : Lv} {u s c : Nat} {scn : List (List Kd)} {ks : List Kd} {k : Kd} (h : Conf sc lv) (h1 : sc[u]? = some scn) (h2 : scn[s]? = some ks) (h3 : ks[c]? = some k) :
    ∃ (ch : Ch) (r : Row) (key : Key), lv.reverse[u]? = some ch ∧ ch[s]? = some r ∧ r[c]? = some key ∧ cellK lv u s c = key ∧ k ≠ .cond ∧ HasK k (kV key) := by
  obtain ⟨ch, e1, q1⟩ := paired_get h h1
  obtain ⟨r, e2, q2⟩ := paired_get q1 h2
  obtain ⟨key, e3, q3⟩ := paired_get q2 h3
  exact ⟨ch, r, key, e1, e2, e3, by unfold cellK; rw [e1, Option.getD_some, e2, Option.getD_some, e3, Option.getD_some], q3.1, q3.2⟩
theorem agV_has {o : Ag} {k : Kd} (hk : k ≠ .cond) (ho : o = .sum → k = .num) {vs : List V} (hv : ∀ v ∈ vs, HasK k v) (hne : vs ≠ []) : HasK k (agV o vs) := by
  have hm : ∀ y ∈ vs.map keyOf, HasK k (kV y) := fun y hy => by
    obtain ⟨v, h, rfl⟩ := List.mem_map.mp hy
    rw [kV_keyOf (hv v h) hk]
    exact hv v h
  have hn : vs.map keyOf ≠ [] := fun z => hne (List.map_eq_nil_iff.mp z)
  cases o with
  | sum =>
    rw [ho rfl]
    exact wrapI_le _
  | least => exact hm _ (minK_mem hn)
  | greatest => exact hm _ (maxK_mem hn)
theorem cond_has {v : V} (h : HasK .cond v) : v = .bl (bV v) := by
  obtain ⟨b, rfl⟩ := h.bl
  rfl
theorem num_has {v : V} (h : HasK .num v) : v = .int (iV v) ∧ -big ≤ iV v ∧ iV v ≤ big := by
  obtain ⟨b, rfl, q⟩ := h.int
  exact ⟨rfl, q⟩
theorem sound (T : TbOk tb sch) : ∀ n : Nat, (∀ {g : Bool} {sc : Sc} {d : PyData} {k : Kd} {f : Sem}, RepE tb sch n g sc d k f → ∀ (lv : Lv) (ms : List Ch), Conf sc lv → (g = true → Mem sc ms) → HasK k (f lv ms)) ∧
    (∀ {m : Nat} {sc : Sc} {d : PyData} {ks : List Kd} {q : Lv → List Row}, RepQ tb sch n m sc d ks q → ∀ lv : Lv, Conf sc lv → (∀ r ∈ q lv, RowK ks r) ∧ (q lv).length ≤ 27 * m) := by
  intro n
  induction n using Nat.strongRecOn with
  | _ n ih =>
    refine ⟨fun {g sc d k f} h lv ms hc hM => ?_, fun {m sc d ks q} h lv hc => ?_⟩
    · cases h with
      | num i h1 h2 => exact ⟨h1, h2⟩
      | txt x h => exact h
      | cell u s c h1 h2 h3 hb =>
        obtain ⟨_, _, key, _, _, _, e, _, q⟩ := cell_has hc h1 h2 h3
        show HasK k (kV (cellK lv u s c))
        rw [e]
        exact q
      | neg h e => exact wrapI_le _
      | nt h e => exact trivial
      | ex h e => exact trivial
      | cnt =>
        obtain ⟨_, h2, _⟩ := hM rfl
        have : big = 1000000000000000000 := rfl
        exact ⟨by omega, by omega⟩
      | ag o h e hk ho =>
        obtain ⟨h1, h2, scn, sc', rfl, h3⟩ := hM rfl
        obtain ⟨lv', c0, rfl, hc', _⟩ := conf_pop hc
        refine agV_has hk ho (fun v hv => ?_) (by simpa using h1)
        obtain ⟨c, hcm, rfl⟩ := List.mem_map.mp hv
        rw [List.dropLast_concat]
        exact (ih _ h).1 e _ _ (conf_push hc' (h3 c hcm)) fun z => nomatch z
      | ar o h e1 e2 =>
        have a1 := num_has ((ih _ h).1 e1 lv ms hc hM)
        have a2 := num_has ((ih _ h).1 e2 lv ms hc hM)
        exact arI_le o a1.2 a2.2
      | cm o h hk e1 e2 => exact trivial
      | lo o h e1 e2 => exact trivial
    · cases h with
      | sel items srcs wh grp hav h hm hs hl hne hil hik hi hw hg hh =>
        refine ⟨fun r hr => ?_, ?_⟩
        · unfold selM at hr
          rw [mem_sortR] at hr
          obtain ⟨gs, hgs, rfl⟩ := List.mem_map.mp hr
          obtain ⟨M, C⟩ := groups_Mem T hs hl (List.mem_filter.mp hgs).1 hc
          refine paired_map items fun x hx => ⟨hik x hx, ?_⟩
          have q := (ih _ h).1 (hi x hx) _ gs C fun _ => M
          rw [kV_keyOf q (hik x hx)]
          exact q
        · unfold selM
          refine Nat.le_trans (sortR_len _) ?_
          rw [List.length_map]
          have h1 := List.length_filter_le (havM hav lv) (groupsM grp (choicesM tb srcs wh lv))
          have h2 := groups_len grp (choicesM tb srcs wh lv)
          have h3 := choices_27 T hs hl wh lv
          omega
      | uni h hm h11 e1 e2 =>
        obtain ⟨a1, a2⟩ := (ih _ h).2 e1 lv hc
        obtain ⟨b1, b2⟩ := (ih _ h).2 e2 lv hc
        refine ⟨fun r hr => ?_, ?_⟩
        · rw [mem_sortR] at hr
          exact (List.mem_append.mp hr).elim (a1 r) (b1 r)
        · refine Nat.le_trans (sortR_len _) ?_
          rw [List.length_append]
          omega
      | exc h hm h11 e1 e2 =>
        obtain ⟨a1, a2⟩ := (ih _ h).2 e1 lv hc
        refine ⟨fun r hr => a1 r (List.mem_filter.mp hr).1, ?_⟩
        refine Nat.le_trans (List.length_filter_le _ _) ?_
        omega
      | int h hm h11 e1 e2 =>
        obtain ⟨a1, a2⟩ := (ih _ h).2 e1 lv hc
        refine ⟨fun r hr => a1 r (List.mem_filter.mp hr).1, ?_⟩
        refine Nat.le_trans (List.length_filter_le _ _) ?_
        omega
/-- without gatherings the members don't matter -/
theorem indep : ∀ (n : Nat) {sc : Sc} {d : PyData} {k : Kd} {f : Sem}, RepE tb sch n false sc d k f → ∀ (lv : Lv) (ms ms' : List Ch), f lv ms = f lv ms' := by
  intro n
  induction n using Nat.strongRecOn with
  | _ n ih =>
    intro sc d k f h lv ms ms'
    cases h with
    | num i h1 h2 => rfl
    | txt x h => rfl
    | cell u s c h1 h2 h3 hb => rfl
    | neg h e => show V.int _ = V.int _; rw [ih _ h e lv ms ms']
    | nt h e => show V.bl _ = V.bl _; rw [ih _ h e lv ms ms']
    | ex h e => rfl
    | ar o h e1 e2 => show arV _ _ _ = arV _ _ _; rw [ih _ h e1 lv ms ms', ih _ h e2 lv ms ms']
    | cm o h hk e1 e2 => show cmV _ _ _ = cmV _ _ _; rw [ih _ h e1 lv ms ms', ih _ h e2 lv ms ms']
    | lo o h e1 e2 => show loV _ _ _ = loV _ _ _; rw [ih _ h e1 lv ms ms', ih _ h e2 lv ms ms']
theorem RepQ.kinds {n m : Nat} {sc : Sc} {d : PyData} {ks : List Kd} {q : Lv → List Row} (h : RepQ tb sch n m sc d ks q) : ks ≠ [] := by
  induction n using Nat.strongRecOn generalizing m d q with
  | _ n ih =>
    cases h with
    | sel items srcs wh grp hav h hm hs hl hne hil hik hi hw hg hh => exact fun z => hne (List.map_eq_nil_iff.mp z)
    | uni h hm h11 e1 e2 => exact ih _ h e1
    | exc h hm h11 e1 e2 => exact ih _ h e1
    | int h hm h11 e1 e2 => exact ih _ h e1
end
end K23

set_option Elab.async false
set_option linter.all false
set_option maxRecDepth 100000
set_option maxHeartbeats 4000000
/-! K23i: operators on keys, readings over data, comprehensions over data. -/
namespace K23
open PySem PySem.Spec PyProof.Rows L2

section
variable {X : Cx}
/-! ### operators -/
def rCatL (K : PySem.W.Frag) : R2 := fun x y H Q => ∃ l b xs zs, x = .ref l ∧ y = .ref b ∧ SqL K H l xs ∧ SqL K H b zs ∧ xs.length + zs.length ≤ sizeLine ∧ ∀ p, H p = none → Q (.ref p) (upd H p (.lst (xs ++ zs)))
theorem op_catL : OpR X (binaryOp .Add) (rCatL X.K) := by
  intro pins s σ H x y v u Q I rx ry h
  obtain ⟨l, b, xs, zs, rfl, rfl, hl, hb, hz, q⟩ := h
  cases rx
  cases ry
  obtain ⟨its, r, pl, _⟩ := I.list hl
  obtain ⟨its2, r2, pl2, _⟩ := I.list hb
  have e1 := r.length
  have e2 := r2.length
  obtain ⟨⟨cls, dd, data, sl⟩, ho, hc, n, hd⟩ := pl.isList
  obtain ⟨⟨cls2, dd2, data2, sl2⟩, ho2, hc2, n2, hd2⟩ := pl2.isList
  simp only at hc hd hc2 hd2
  subst hc hd hc2 hd2
  have e : its.toArray ++ its2.toArray = (its ++ its2).toArray := by simp
  refine concat_meets ⟨_, ho, rfl⟩ ⟨_, ho2, rfl⟩ noFill_list_add seq_list_add PySem.F.slot_list_add PySem.F.entry_list_add (PySem.F.args_list_add_2 _ _) (list_addW l b its.toArray its2.toArray n n2 dd dd2 sl sl2 (by rw [List.size_toArray, List.size_toArray]; omega)) ⟨ho, ho2, ?_⟩
  rw [e]
  exact ⟨.ref _, _, I.lnew (t' := s.toks) (r.append r2) (by rw [List.length_append]; omega), rfl, q _ I.fresh⟩
def CDivB (i j : Int) : Prop := j ≠ 0 ∧ j.natAbs < 2 ^ 64
theorem op_fdivB : OpR X (binaryOp .FloorDiv) (rI CDivB fun i j => .int (i.fdiv j)) := opI fun _ _ _ _ _ _ _ hc q => floordiv_int hc.1 q (.inl (PyProof.noPylong_of_log2 (Nat.lt_of_lt_of_le (PySem.Flt.log2_lt_of (by decide) hc.2) (by decide))))
/-- len, list, tuple: the readings under names -/
def rLenS (K : PySem.W.Frag) : List V → Hp → VK → Prop := fun xs H Q => ∃ p ys, xs = [.ref p] ∧ (SqL K H p ys ∨ SqT K H p ys) ∧ Q (.int ys.length) H
theorem cr_len {K : PySem.W.Frag} (e : X.K = K := by rfl) : CallR X (.builtin "len") (rLenS K) := e ▸ call_len_seq
def rListOf (K : PySem.W.Frag) : List V → Hp → VK → Prop := fun xs H Q => ∃ p ys, xs = [.ref p] ∧ (SqL K H p ys ∨ SqT K H p ys) ∧ ∀ l, H l = none → Q (.ref l) (upd H l (.lst ys))
theorem cr_listOf {K : PySem.W.Frag} (e : X.K = K := by rfl) : CallR X (.type "list") (rListOf K) := e ▸ call_list_of
def rTupOf (K : PySem.W.Frag) : List V → Hp → VK → Prop := fun xs H Q => ∃ p ys, xs = [.ref p] ∧ ((SqL K H p ys ∧ ∀ l, H l = none → Q (.ref l) (upd H l (.tup ys))) ∨ (SqT K H p ys ∧ Q (.ref p) H))
theorem cr_tupOf {K : PySem.W.Frag} (e : X.K = K := by rfl) : CallR X (.type "tuple") (rTupOf K) := e ▸ call_tuple_of
def rAbs : List V → Hp → VK → Prop := fun xs H Q => ∃ i, xs = [.int i] ∧ Q (.int (if i < 0 then -i else i)) H
theorem cr_abs : CallR X (.builtin "abs") rAbs := call_abs
def rInt1 : List V → Hp → VK → Prop := fun xs H Q => (∃ i, xs = [.int i] ∧ Q (.int i) H) ∨ ∃ k, xs = [.bl k] ∧ Q (.int (if k then 1 else 0)) H
theorem cr_int1 : CallR X (.type "int") rInt1 := call_int1
/-- two keys of one kind -/
def rK (g : Key → Key → Bool) : R2 := fun x y H Q => ∃ k, k ≠ Kd.cond ∧ HasK k x ∧ HasK k y ∧ Q (.bl (g (keyOf x) (keyOf y))) H
theorem rK_of {f : Value → Value → PySem.Sem Value} {g : Key → Key → Bool} {c1 : Int → Int → Bool} {c2 : Str → Str → Bool} (h1 : OpR X f (rI0 fun i j => .bl (c1 i j))) (h2 : OpR X f (fun x y H Q => ∃ i j, x = .str i ∧ y = .str j ∧ Q (.bl (c2 i j)) H))
    (g1 : ∀ i j, c1 i j = g (.inl i) (.inl j)) (g2 : ∀ i j, c2 i j = g (.inr i) (.inr j)) : OpR X f (rK g) := by
  intro pins s σ H x y v u Q I rx ry h
  obtain ⟨k, hk, hx, hy, q⟩ := h
  cases k with
  | num =>
    obtain ⟨i, rfl, _⟩ := hx.int
    obtain ⟨j, rfl, _⟩ := hy.int
    exact h1 pins s σ H _ _ v u Q I rx ry ⟨i, j, rfl, rfl, by show Q (.bl (c1 i j)) H; rw [g1]; exact q⟩
  | txt =>
    obtain ⟨i, rfl, _⟩ := hx.str
    obtain ⟨j, rfl, _⟩ := hy.str
    exact h2 pins s σ H _ _ v u Q I rx ry ⟨i, j, rfl, rfl, by show Q (.bl (c2 i j)) H; rw [g2]; exact q⟩
  | cond => exact absurd rfl hk
theorem op_ltK : OpR X (compareOp .Lt) (rK (cmB .lt)) := rK_of op_lt op_lt_str (fun i j => rfl) fun i j => rfl
theorem op_gtK : OpR X (compareOp .Gt) (rK (cmB .gt)) := rK_of op_gt op_gt_str (fun i j => rfl) fun i j => rfl
theorem op_leK : OpR X (compareOp .LtE) (rK (cmB .le)) := rK_of op_le op_le_str (fun i j => by
  show decide (i ≤ j) = !decide (j < i)
  by_cases h : i ≤ j
  · rw [decide_eq_true h, decide_eq_false (by omega)]; rfl
  · rw [decide_eq_false h, decide_eq_true (by omega)]; rfl) fun i j => rfl
theorem op_geK : OpR X (compareOp .GtE) (rK (cmB .ge)) := rK_of op_ge op_ge_str (fun i j => by
  show decide (j ≤ i) = !decide (i < j)
  by_cases h : j ≤ i
  · rw [decide_eq_true h, decide_eq_false (by omega)]; rfl
  · rw [decide_eq_false h, decide_eq_true (by omega)]; rfl) fun i j => rfl
theorem key_inj {k : Kd} {x y : V} (hk : k ≠ .cond) (hx : HasK k x) (hy : HasK k y) : decide (x = y) = decide (keyOf x = keyOf y) ∧ scal x y = true := by
  cases k with
  | num =>
    obtain ⟨i, rfl, _⟩ := hx.int
    obtain ⟨j, rfl, _⟩ := hy.int
    refine ⟨?_, rfl⟩
    rw [Bool.eq_iff_iff]
    simp [keyOf]
  | txt =>
    obtain ⟨i, rfl, _⟩ := hx.str
    obtain ⟨j, rfl, _⟩ := hy.str
    refine ⟨?_, rfl⟩
    rw [Bool.eq_iff_iff]
    simp [keyOf]
  | cond => exact absurd rfl hk
theorem op_eqK : OpR X (compareOp .Eq) (rK (cmB .eq)) := fun pins s σ H x y v u Q I rx ry ⟨k, hk, hx, hy, q⟩ =>
  op_eq pins s σ H x y v u Q I rx ry ⟨(key_inj hk hx hy).2, by rw [(key_inj hk hx hy).1]; exact q⟩
theorem op_neK : OpR X (compareOp .NotEq) (rK (cmB .ne)) := fun pins s σ H x y v u Q I rx ry ⟨k, hk, hx, hy, q⟩ =>
  op_ne pins s σ H x y v u Q I rx ry ⟨(key_inj hk hx hy).2, by rw [(key_inj hk hx hy).1]; exact q⟩
/-- a text against a written text -/
def tEqS (c : Str) (t : TE) : TT := fun σ H Q => t σ H fun x H1 => ∃ s, x = .str s ∧ Q (decide (s = c)) H1
theorem pt_eqS {e : Expr} {c : Str} {t : TE} {k : Nat} {p pos : Pos} (he : PE X e t) : PT X (.Compare e [.Eq] [.Constant (.str c) k p] pos) (tEqS c t) := by
  refine ⟨fun pins s σ H Q I h => ?_⟩
  refine wpAny_isTrue_Compare1 (thn (he.run pins s σ H _ I h) fun v s1 ⟨x, H1, I1, r1, z, e1, q1⟩ => thn ((pe_str (X := X) (x := c) (j := k) (pos := p)).run pins s1 σ H1 (fun y H' => y = .str c ∧ H' = H1) I1 ⟨rfl, rfl⟩) fun u s2 ⟨y, H2, I2, r2, e2, e3⟩ => ?_) (nomark _)
  subst e1 e2 e3
  refine thn (op_eq pins s2 σ H2 _ _ v u (fun b H' => b = .bl (decide (z = c)) ∧ H' = H2) I2 r1 r2 ⟨rfl, ?_, rfl⟩) fun b s3 ⟨w', H3, I3, r3, e4, e5⟩ => ?_
  · congr 1
    rw [Bool.eq_iff_iff]
    simp
  · subst e4 e5
    cases r3
    exact wpAny_truthy_bool ⟨H3, I3, q1⟩
/-- the same as a value -/
def tEqSV (c : Str) (t : TE) : TE := fun σ H Q => t σ H fun x H1 => ∃ s, x = .str s ∧ Q (.bl (decide (s = c))) H1
theorem pe_eqS {e : Expr} {c : Str} {t : TE} {k : Nat} {p pos : Pos} (he : PE X e t) : PE X (.Compare e [.Eq] [.Constant (.str c) k p] pos) (tEqSV c t) := by
  refine ⟨fun pins s σ H Q I h => ?_⟩
  refine wpAny_Compare1 (thn (he.run pins s σ H _ I h) fun v s1 ⟨x, H1, I1, r1, z, e1, q1⟩ => thn ((pe_str (X := X) (x := c) (j := k) (pos := p)).run pins s1 σ H1 (fun y H' => y = .str c ∧ H' = H1) I1 ⟨rfl, rfl⟩) fun u s2 ⟨y, H2, I2, r2, e2, e3⟩ => ?_) (nomark _)
  subst e1 e2 e3
  refine op_eq pins s2 σ H2 _ _ v u Q I2 r1 r2 ⟨rfl, ?_⟩
  have e : decide (V.str z = V.str c) = decide (z = c) := by
    rw [Bool.eq_iff_iff]
    simp
  rw [e]
  exact q1
end

/-! ### the rules with K by name (for terms within a comprehension) -/
section
variable {X : Cx} {K : PySem.W.Frag}
theorem ix_tupK (e : X.K = K := by rfl) : IxR X (rIxT K) := e ▸ ix_tup
theorem ix_listK (e : X.K = K := by rfl) : IxR X (rIxL K) := e ▸ ix_list
theorem op_catK (e : X.K = K := by rfl) : OpR X (binaryOp .Add) (rCatL K) := e ▸ op_catL
theorem sl_listK (e : X.K = K := by rfl) : SlR X (rSlL K) := e ▸ sl_list
theorem op_inK (e : X.K = K := by rfl) : OpR X (compareOp .In) (rIn K false) := e ▸ op_in_seq
theorem op_inDK (hu : X.A.units + 65 < cLine) (e : X.K = K := by rfl) : OpR X (compareOp .In) (rInD K) := e ▸ op_inD hu
theorem op_notInDK (hu : X.A.units + 65 < cLine) (e : X.K = K := by rfl) : OpR X (compareOp .NotIn) (rNotInD K) := e ▸ op_notInD hu
theorem op_eqDK (hu : X.A.units + 64 < cLine) (e : X.K = K := by rfl) : OpR X (compareOp .Eq) (rEqD K) := e ▸ op_eqD hu
theorem mt_indexK (e : X.K = K := by rfl) : MtR X "list.index" (rIndex K) := e ▸ mt_index
theorem pi_listK {tg l : Expr} {tl : TE} (hl : PE X l tl) (e : X.K = K := by rfl) : PI X tg l (iList K tl) := e ▸ pi_list hl
end
theorem iteFd {b : Bool} {A B : Prop} (h : b = false) (q : B) : if b = true then A else B := by
  subst h
  exact iteF q
theorem iteTd {b : Bool} {A B : Prop} (h : b = true) (q : A) : if b = true then A else B := by
  subst h
  exact iteT q
/-! ### constants and argument lists by readings that unfold -/
abbrev tI (v : V) : TE := fun _ H Q => Q v H
abbrev tNilA : TA := fun _ H Q => Q [] H
section
variable {X : Cx}
theorem pe_intA {i j pos} : PE X (.Constant (.int i) j pos) (tI (.int i)) := pe_int
theorem pe_strA {x j pos} : PE X (.Constant (.str x) j pos) (tI (.str x)) := pe_str
theorem pe_nonA {j pos} : PE X (.Constant .none j pos) (tI .non) := pe_non
theorem pa_nilA : PA X [] tNilA := pa_nil
end
/-! ### readings over data -/
section
variable {K : PySem.W.Frag} {H : Hp} {x y : V} {ds es : List PyData} {d : PyData} {Q : VK}
theorem ixT_d {j : Int} (i : Nat) (h : Dp K H x (.tuple ds)) (e : ds[i]? = some d) (q : ∀ v, Dp K H v d → Q v H) (hj : j = (i : Int) := by rfl) : rIxT K x (.int j) H Q := by
  subst hj
  obtain ⟨a, xs, rfl, h1, h2⟩ := dp_tup h
  obtain ⟨v, e1, e2⟩ := dpall_get h2 e
  exact ⟨a, xs, i, v, rfl, rfl, h1, atI_nat e1, q v e2⟩
theorem ixL_d {j : Int} (i : Nat) (h : Dp K H x (.list ds)) (e : ds[i]? = some d) (q : ∀ v, Dp K H v d → Q v H) (hj : j = (i : Int) := by rfl) : rIxL K x (.int j) H Q := by
  subst hj
  obtain ⟨a, xs, rfl, h1, h2⟩ := dp_list h
  obtain ⟨v, e1, e2⟩ := dpall_get h2 e
  exact ⟨a, xs, i, v, rfl, rfl, h1, atI_nat e1, q v e2⟩
theorem len_d (h : Dp K H x (.list ds)) (q : Q (.int ds.length) H) : rLenS K [x] H Q := by
  obtain ⟨a, xs, rfl, h1, h2⟩ := dp_list h
  exact ⟨a, xs, rfl, .inl h1, by rw [dpall_len h2]; exact q⟩
theorem listOf_d (h : Dp K H x (.list ds) ∨ Dp K H x (.tuple ds)) (q : ∀ p xs, H p = none → DpAll K H xs ds → Q (.ref p) (upd H p (.lst xs))) : rListOf K [x] H Q := by
  rcases h with h | h
  · obtain ⟨a, xs, rfl, h1, h2⟩ := dp_list h
    exact ⟨a, xs, rfl, .inl h1, fun l hl => q l xs hl h2⟩
  · obtain ⟨a, xs, rfl, h1, h2⟩ := dp_tup h
    exact ⟨a, xs, rfl, .inr h1, fun l hl => q l xs hl h2⟩
theorem cat_d (h1 : Dp K H x (.list ds)) (h2 : Dp K H y (.list es)) (hl : ds.length + es.length ≤ 100000) (q : ∀ p xs ys, H p = none → DpAll K H xs ds → DpAll K H ys es → Q (.ref p) (upd H p (.lst (xs ++ ys)))) : rCatL K x y H Q := by
  obtain ⟨a, xs, rfl, g1, g2⟩ := dp_list h1
  obtain ⟨b, ys, rfl, k1, k2⟩ := dp_list h2
  exact ⟨a, b, xs, ys, rfl, rfl, g1, k1, by rw [dpall_len g2, dpall_len k2, sizeLine_eq]; omega, fun p hp => q p xs ys hp g2 k2⟩
theorem newL_of {p : Addr} {xs : List V} (hp : H p = none) (h : DpAll K H xs ds) : NewL K H (upd H p (.lst xs)) p ds := ⟨same_new hp _, xs, upd_same, DpAll.up (same_new hp _) h⟩
theorem newT_of {p : Addr} {xs : List V} (hp : H p = none) (h : DpAll K H xs ds) : Dp K (upd H p (.tup xs)) (.ref p) (.tuple ds) := .tup (.inl (.inl upd_same)) (DpAll.up (same_new hp _) h)
theorem same_upd {V : Hp} (h : Same V H) {p : Addr} (hp : H p = none) (o : HO) : Same (upd V p o) (upd H p o) := by
  intro b u e
  by_cases c : b = p
  · subst c
    rw [upd_same] at e ⊢
    exact e
  · rw [upd_ne c] at e ⊢
    exact h b u e
theorem same_none {V : Hp} (h : Same V H) {p : Addr} (hp : H p = none) : V p = none := by
  cases e : V p with
  | none => rfl
  | some o =>
    rw [h p o e] at hp
    cases hp
theorem Same.trn {H1 H2 H3 : Hp} (h : Same H1 H2) (g : Same H2 H3) : Same H1 H3 := fun b u e => g b u (h b u e)
theorem Same.rfl' {H : Hp} : Same H H := fun _ _ e => e

/-! ### a comprehension over data -/
theorem lc_gen {α : Type} {a : Addr} {xs : List V} {as : List α} {Rel : α → V → Prop} {g : TG} {tt : TT} {te : TE} {vs : List Nat} {σ : L2.St} {D : Addr} {Qd : Hp → Prop} (F : α → Bool) (G : α → PyData)
    (hx : SqL K H a xs) (hlen : xs.length = as.length) (hrel : ∀ (i : Nat) (c : α) (x : V), as[i]? = some c → xs[i]? = some x → Rel c x) (hD : H D = none) (hl : as.length ≤ 100000)
    (hs : ∀ (c : α) (x : V) (W H1 : Hp), c ∈ as → Rel c x → Same H W → Same W H1 → W D = none → H1 D ≠ none → ∀ (Kp : VK) (Sk : Hp → Prop),
      (F c = true → ∀ y H4 W', Same W W' → Same W' H4 → Same H1 H4 → W' D = none → Dp K W' y (G c) → Kp y H4) → (F c = false → ∀ H3, Same H1 H3 → Sk H3) →
      g x (wipe σ vs) H1 fun σ2 H2 => wipe σ2 vs = wipe σ vs ∧ tt σ2 H2 fun b H3 => if b = true then te σ2 H3 Kp else Sk H3)
    (q : ∀ H' ys, Same H H' → H' D = some (.lst ys) → (∃ W, Same H W ∧ Same W H' ∧ W D = none ∧ DpAll K W ys ((as.filter F).map G)) → DpAll K H' ys ((as.filter F).map G) → Qd H') :
    ∃ W : Nat → Nat → Hp → Prop, (∃ m, W 0 m (upd H D (.lst []))) ∧ ∀ i m H, W i m H →
      ((Itl K a).stop i H ∧ Qd H) ∨ ((Itl K a).go i H ∧ ∃ Nx : Hp → Prop, (∀ H', Nx H' → ∃ m', m' < m ∧ W (i + 1) m' H') ∧ ∀ x H', (Itl K a).yld i H x H' → g x (wipe σ vs) H' fun σ2 H2 => wipe σ2 vs = wipe σ vs ∧ tt σ2 H2 fun b H3 =>
        if b = true then te σ2 H3 fun y H4 => ∃ acc, H4 D = some (.lst acc) ∧ acc.length < sizeLine ∧ Nx (upd H4 D (.lst (acc ++ [y]))) else Nx H3) := by
  refine lc_list (xs := xs) (fun i H' => ∃ W acc, Same H W ∧ Same W H' ∧ W D = none ∧ H' D = some (.lst acc) ∧ DpAll K W acc (((as.take i).filter F).map G)) ⟨H, [], Same.rfl', same_new hD _, hD, upd_same, .nil⟩
    (fun i H' hi ⟨W, acc, s1, s2, _⟩ => (Same.trn s1 s2).seq hx) (fun i x H' hi ⟨W, acc, s1, s2, hW, ha, hda⟩ => ?_) fun H' ⟨W, acc, s1, s2, hW, ha, hda⟩ => ?_
  · have hlt : i < as.length := by
      rw [← hlen]
      exact (List.getElem?_eq_some_iff.mp hi).1
    have e3 : as[i]? = some as[i] := List.getElem?_eq_getElem hlt
    generalize as[i] = c at e3
    have et : as.take (i + 1) = as.take i ++ [c] := by
      rw [List.take_add_one, e3]
      rfl
    refine hs c x W H' (List.mem_of_getElem? e3) (hrel i c x e3 hi) s1 s2 hW (by rw [ha]; exact fun z => nomatch z) _ _ (fun hF y H4 W' g1 g2 g3 g4 g5 => ?_) (fun hF H3 g1 => ?_)
    · refine ⟨acc, g3 _ _ ha, ?_, W', acc ++ [y], Same.trn s1 g1, ?_, g4, upd_same, ?_⟩
      · have l1 := dpall_len hda
        rw [List.length_map] at l1
        have l2 := List.length_filter_le F (as.take i)
        have l3 := List.length_take_le i as
        rw [sizeLine_eq]
        omega
      · intro b u e
        have : b ≠ D := fun z => by
          rw [z, g4] at e
          cases e
        rw [upd_ne this]
        exact g2 b u e
      · rw [et, List.filter_append, List.map_append]
        have : ([c].filter F) = [c] := by simp [hF]
        rw [this]
        exact dpall_snoc (DpAll.up g1 hda) g5
    · refine ⟨W, acc, s1, Same.trn s2 g1, hW, g1 _ _ ha, ?_⟩
      rw [et, List.filter_append, List.map_append]
      have : ([c].filter F) = [] := by simp [hF]
      rw [this, List.map_nil, List.append_nil]
      exact hda
  · rw [hlen, List.take_length] at hda
    exact q H' acc (Same.trn s1 s2) ha ⟨W, s1, s2, hW, hda⟩ (DpAll.up s2 hda)
theorem lc_dp {α : Type} {a : Addr} {xs : List V} {as : List α} {enc : α → PyData} {g : TG} {tt : TT} {te : TE} {vs : List Nat} {σ : L2.St} {D : Addr} {Qd : Hp → Prop} (F : α → Bool) (G : α → PyData)
    (hx : SqL K H a xs) (hd : DpAll K H xs (as.map enc)) (hD : H D = none) (hl : as.length ≤ 100000)
    (hs : ∀ (c : α) (x : V) (W H1 : Hp), c ∈ as → Dp K H x (enc c) → Same H W → Same W H1 → W D = none → H1 D ≠ none → ∀ (Kp : VK) (Sk : Hp → Prop),
      (F c = true → ∀ y H4 W', Same W W' → Same W' H4 → Same H1 H4 → W' D = none → Dp K W' y (G c) → Kp y H4) → (F c = false → ∀ H3, Same H1 H3 → Sk H3) →
      g x (wipe σ vs) H1 fun σ2 H2 => wipe σ2 vs = wipe σ vs ∧ tt σ2 H2 fun b H3 => if b = true then te σ2 H3 Kp else Sk H3)
    (q : ∀ H' ys, Same H H' → H' D = some (.lst ys) → (∃ W, Same H W ∧ Same W H' ∧ W D = none ∧ DpAll K W ys ((as.filter F).map G)) → DpAll K H' ys ((as.filter F).map G) → Qd H') :
    ∃ W : Nat → Nat → Hp → Prop, (∃ m, W 0 m (upd H D (.lst []))) ∧ ∀ i m H, W i m H →
      ((Itl K a).stop i H ∧ Qd H) ∨ ((Itl K a).go i H ∧ ∃ Nx : Hp → Prop, (∀ H', Nx H' → ∃ m', m' < m ∧ W (i + 1) m' H') ∧ ∀ x H', (Itl K a).yld i H x H' → g x (wipe σ vs) H' fun σ2 H2 => wipe σ2 vs = wipe σ vs ∧ tt σ2 H2 fun b H3 =>
        if b = true then te σ2 H3 fun y H4 => ∃ acc, H4 D = some (.lst acc) ∧ acc.length < sizeLine ∧ Nx (upd H4 D (.lst (acc ++ [y]))) else Nx H3) := by
  refine lc_gen (Rel := fun c x => Dp K H x (enc c)) F G hx (by rw [dpall_len hd, List.length_map]) (fun i c x e1 e2 => ?_) hD hl hs q
  obtain ⟨d, f1, f2⟩ := dpall_get2 hd e2
  rw [List.getElem?_map, e1] at f1
  cases f1
  exact f2
end
end K23

set_option Elab.async false
set_option linter.all false
set_option maxRecDepth 100000
set_option maxHeartbeats 4000000
/-! K23j: the program's small defs. -/
namespace K23
open PySem PySem.Spec PyProof.Rows L2

def top (i : Nat) : Stmt := PySem.Challenge.pw_pastamended_k23_whole_plain_answers.main.body.getD i (.Pass ⟨0, 0, 0, 0⟩)
theorem HU {k n : Nat} {A : Around} (hr : Room k A) (h : n ≤ 100 := by decide) : A.units + n < cLine := by
  have := hr.un
  omega
/-- the module's names -/
structure Glb (mg : Str → Option Value) : Prop where
  len : mg "len" = none
  list : mg "list" = none
  min : mg "min" = none
  max : mg "max" = none
  sum : mg "sum" = none
  sorted : mg "sorted" = none
  set : mg "set" = none
  tuple : mg "tuple" = none
  int : mg "int" = none
  abs : mg "abs" = none
  range : mg "range" = none
  repr : mg "repr" = none
  MOST : ∃ u, mg "MOST" = some u ∧ RelV (.int big) u
structure DefN (K : PySem.W.Frag) (mg : Str → Option Value) (x : Str) (i : Nat) : Prop where
  ex : ∃ f fd, C8.Def K mg x (top i) f fd ∧ fd.defaults = .none
section
variable {P : Program} {w : World} {K : PySem.W.Frag} {mg : Str → Option Value} {base : Heap}
theorem cal_of {x : Str} {i : Nat} {N ps : List Str} {k : Nat} {sp : Sp} (D : DefN K mg x i) (S : FnScope N ps (C8.fnScope (top i)))
    (hb : ∀ (kV doc pm : Value) (an : Option Addr) (cdv ct : Value) (us : List Value), us.length = ps.length → bindArgs (PySem.W.fnOf x x (C8.fnArgs (top i)) (C8.fnBody (top i)) (C8.fnScope (top i)) .none kV doc pm an cdv ct) ⟨us, []⟩ = pure (ps.zip us))
    (len : ∀ vs H Q E, sp vs H Q E → vs.length = ps.length)
    (hbody : ∀ (f : Addr) (cdv : Value) (A : Around) (outer : List Env) (s : Shared) (H : Hp) (vs : List V) (Q : VK) (E : XK), Room k (A.deeper (envOfC x (C8.fnScope (top i)) s.heap.objs.size f cdv)) → sp vs H Q E →
      ∃ t, PSs (cxOf C8.CX0 P w K mg base N x (C8.fnScope (top i)) f cdv A outer s H E).nox (C8.fnBody (top i)) t ∧ t { nx := fun _ H' => Q .non H', rt := Q } (start N vs) H) : C8.Cal P w K mg base (k + 1) x sp [] := by
  obtain ⟨f, fd, F, df⟩ := D.ex
  exact C8.cal0 F (F.fn.binds df hb) .nil S len (hbody f)

/-! ### wrap, quotient, remainder, arithmetic, compared, operator_value -/
def spWrap : Sp := fun vs H Q _ => ∃ n : Int, vs = [.int n] ∧ Q (.int (wrapI n)) H
theorem ok_wrap (Z : Glb mg) (D : DefN K mg "wrap" 2) : C8.Cal P w K mg base 1 "wrap" spWrap [] := by
  have S : FnScope ["n"] ["n"] (C8.fnScope (top 2)) := C8.fnScope_by (by decide +kernel)
  refine cal_of D S (fun _ _ _ _ _ _ us hl => match us, hl with | [_], _ => rfl) (fun vs H Q E h => ?_) fun f cdv A outer s H vs Q E hr h => ?_
  · obtain ⟨n, rfl, _⟩ := h
    rfl
  obtain ⟨n, rfl, q⟩ := h
  refine ⟨_, (pss_one (ps_ret (pe_op (op_sub) (pe_op (op_mod) (pe_op (op_add) (pv 0) (C8.pe_gc rfl Z.MOST)) (pe_op (op_add) (pe_op (op_mul) pe_intA (C8.pe_gc rfl Z.MOST)) pe_intA)) (C8.pe_gc rfl Z.MOST)))), ?_⟩
  refine ⟨_, rfl, _, _, rfl, rfl, _, _, rfl, rfl, .inl ⟨by decide, by decide⟩, _, _, rfl, rfl, _, _, rfl, rfl, (by decide : (0 : Int) < 2 * big + 1), _, _, rfl, rfl, q⟩
def spQuo : Sp := fun vs H Q _ => ∃ x y : Int, vs = [.int x, .int y] ∧ y.natAbs < 2 ^ 64 ∧ Q (.int (arI .div x y)) H
theorem ok_quotient (Z : Glb mg) (D : DefN K mg "quotient" 3) (c_wrap : C8.Cal P w K mg base 1 "wrap" spWrap []) : C8.Cal P w K mg base 2 "quotient" spQuo [] := by
  have S : FnScope ["x", "y"] ["x", "y"] (C8.fnScope (top 3)) := C8.fnScope_by (by decide +kernel)
  refine cal_of D S (fun _ _ _ _ _ _ us hl => match us, hl with | [_, _], _ => rfl) (fun vs H Q E h => ?_) fun f cdv A outer s H vs Q E hr h => ?_
  · obtain ⟨x, y, rfl, _⟩ := h
    rfl
  obtain ⟨x, y, rfl, hy, q⟩ := h
  refine ⟨_, (pss_cons (ps_if (pt_cmpR (op_eq) (pv 1) pe_intA (nomark _))
      (pss_one (ps_ret pe_intA))
      pss_nil)
    (pss_one (ps_ret (C8.pe_c c_wrap hr (by omega) rfl (pa_cons (pe_op (op_fdivB) (pv 0) (pv 1)) pa_nilA))))), ?_⟩
  refine ⟨_, rfl, rfl, _, rfl, ?_⟩
  refine ite2 (fun c => ?_) (fun c => ?_)
  · have c' : V.int y = V.int 0 := of_decide_eq_true c
    cases c'
    exact q
  · have c' : y ≠ 0 := fun z => c (by rw [z]; exact decide_eq_true rfl)
    refine ⟨_, rfl, _, rfl, _, _, rfl, rfl, ⟨c', hy⟩, _, rfl, ?_⟩
    have e : arI .div x y = wrapI (x.fdiv y) := by
      show (if y = 0 then 0 else wrapI (x.fdiv y)) = _
      rw [if_neg c']
    rw [← e]
    exact q
def spRem : Sp := fun vs H Q _ => ∃ x y : Int, vs = [.int x, .int y] ∧ y.natAbs < 2 ^ 64 ∧ Q (.int (arI .mod x y)) H
theorem ok_remainder (Z : Glb mg) (D : DefN K mg "remainder" 4) : C8.Cal P w K mg base 1 "remainder" spRem [] := by
  have S : FnScope ["x", "y"] ["x", "y"] (C8.fnScope (top 4)) := C8.fnScope_by (by decide +kernel)
  refine cal_of D S (fun _ _ _ _ _ _ us hl => match us, hl with | [_, _], _ => rfl) (fun vs H Q E h => ?_) fun f cdv A outer s H vs Q E hr h => ?_
  · obtain ⟨x, y, rfl, _⟩ := h
    rfl
  obtain ⟨x, y, rfl, hy, q⟩ := h
  refine ⟨_, (pss_cons (ps_if (pt_cmpR (op_eq) (pv 1) pe_intA (nomark _))
      (pss_one (ps_ret (pv 0)))
      pss_nil)
    (pss_one (ps_ret (pe_op (op_sub) (pv 0) (pe_op (op_mul) (pv 1) (pe_op (op_fdivB) (pv 0) (pv 1))))))), ?_⟩
  refine ⟨_, rfl, rfl, _, rfl, ?_⟩
  refine ite2 (fun c => ?_) (fun c => ?_)
  · have c' : V.int y = V.int 0 := of_decide_eq_true c
    cases c'
    exact ⟨_, rfl, q⟩
  · have c' : y ≠ 0 := fun z => c (by rw [z]; exact decide_eq_true rfl)
    have h2 : (2 : Nat) ^ 64 = 18446744073709551616 := by decide
    refine ⟨_, rfl, _, rfl, _, rfl, _, rfl, _, _, rfl, rfl, ⟨c', hy⟩, _, _, rfl, rfl, .inl ⟨by omega, by omega⟩, _, _, rfl, rfl, ?_⟩
    have e : arI .mod x y = x - y * x.fdiv y := by
      show (if y = 0 then x else x - y * x.fdiv y) = _
      rw [if_neg c']
    rw [e] at q
    exact q
def spAri : Sp := fun vs H Q _ => ∃ (o : Ar) (x y : Int), vs = [.str o.nm, .int x, .int y] ∧ (-big ≤ x ∧ x ≤ big) ∧ (-big ≤ y ∧ y ≤ big) ∧ Q (.int (arI o x y)) H
theorem big_lt {y : Int} (h : -big ≤ y ∧ y ≤ big) : y.natAbs < 2 ^ 64 := by
  have : big = 1000000000000000000 := rfl
  have h2 : (2 : Nat) ^ 64 = 18446744073709551616 := by decide
  omega
theorem ok_arithmetic (Z : Glb mg) (D : DefN K mg "arithmetic" 6) (c_wrap : C8.Cal P w K mg base 1 "wrap" spWrap []) (c_quotient : C8.Cal P w K mg base 2 "quotient" spQuo []) (c_remainder : C8.Cal P w K mg base 1 "remainder" spRem []) : C8.Cal P w K mg base 3 "arithmetic" spAri [] := by
  have S : FnScope ["op", "x", "y"] ["op", "x", "y"] (C8.fnScope (top 6)) := C8.fnScope_by (by decide +kernel)
  refine cal_of D S (fun _ _ _ _ _ _ us hl => match us, hl with | [_, _, _], _ => rfl) (fun vs H Q E h => ?_) fun f cdv A outer s H vs Q E hr h => ?_
  · obtain ⟨o, x, y, rfl, _⟩ := h
    rfl
  obtain ⟨o, x, y, rfl, hx, hy, q⟩ := h
  have hy' := big_lt hy
  refine ⟨_, (pss_cons (ps_if (pt_eqS (pv 0))
      (pss_one (ps_ret (C8.pe_c c_wrap hr (by omega) rfl (pa_cons (pe_op (op_add) (pv 1) (pv 2)) pa_nilA))))
      pss_nil)
    (pss_cons (ps_if (pt_eqS (pv 0))
      (pss_one (ps_ret (C8.pe_c c_wrap hr (by omega) rfl (pa_cons (pe_op (op_sub) (pv 1) (pv 2)) pa_nilA))))
      pss_nil)
    (pss_cons (ps_if (pt_eqS (pv 0))
      (pss_one (ps_ret (C8.pe_c c_wrap hr (by omega) rfl (pa_cons (pe_op (op_mul) (pv 1) (pv 2)) pa_nilA))))
      pss_nil)
    (pss_cons (ps_if (pt_eqS (pv 0))
      (pss_one (ps_ret (C8.pe_c c_quotient hr (by omega) rfl (pa_cons (pv 1) (pa_cons (pv 2) pa_nilA)))))
      pss_nil)
    (pss_one (ps_ret (C8.pe_c c_remainder hr (by omega) rfl (pa_cons (pv 1) (pa_cons (pv 2) pa_nilA))))))))), ?_⟩
  refine ⟨_, rfl, _, rfl, ?_⟩
  cases o with
  | add => exact iteT ⟨_, rfl, _, rfl, _, _, rfl, rfl, _, rfl, q⟩
  | sub => exact iteF ⟨_, rfl, _, rfl, iteT ⟨_, rfl, _, rfl, _, _, rfl, rfl, _, rfl, q⟩⟩
  | mul => exact iteF ⟨_, rfl, _, rfl, iteF ⟨_, rfl, _, rfl, iteT ⟨_, rfl, _, rfl, _, _, rfl, rfl, .inl ⟨by have := (show big = 1000000000000000000 from rfl); omega, by have := (show big = 1000000000000000000 from rfl); omega⟩, _, rfl, q⟩⟩⟩
  | div => exact iteF ⟨_, rfl, _, rfl, iteF ⟨_, rfl, _, rfl, iteF ⟨_, rfl, _, rfl, iteT ⟨_, rfl, _, rfl, _, _, rfl, hy', q⟩⟩⟩⟩
  | mod => exact iteF ⟨_, rfl, _, rfl, iteF ⟨_, rfl, _, rfl, iteF ⟨_, rfl, _, rfl, iteF ⟨_, rfl, _, rfl, _, _, rfl, hy', q⟩⟩⟩⟩
def spCmp : Sp := fun vs H Q _ => ∃ (o : Cm) (x y : V) (k : Kd), vs = [.str o.nm, x, y] ∧ k ≠ .cond ∧ HasK k x ∧ HasK k y ∧ Q (cmV o x y) H
theorem ok_compared (Z : Glb mg) (D : DefN K mg "compared" 7) : C8.Cal P w K mg base 1 "compared" spCmp [] := by
  have S : FnScope ["op", "x", "y"] ["op", "x", "y"] (C8.fnScope (top 7)) := C8.fnScope_by (by decide +kernel)
  refine cal_of D S (fun _ _ _ _ _ _ us hl => match us, hl with | [_, _, _], _ => rfl) (fun vs H Q E h => ?_) fun f cdv A outer s H vs Q E hr h => ?_
  · obtain ⟨o, x, y, k, rfl, _⟩ := h
    rfl
  obtain ⟨o, x, y, k, rfl, hk, hx, hy, q⟩ := h
  refine ⟨_, (pss_cons (ps_if (pt_eqS (pv 0))
      (pss_one (ps_ret (pe_cmpR (op_eqK) (pv 1) (pv 2) (nomark _))))
      pss_nil)
    (pss_cons (ps_if (pt_eqS (pv 0))
      (pss_one (ps_ret (pe_cmpR (op_neK) (pv 1) (pv 2) (nomark _))))
      pss_nil)
    (pss_cons (ps_if (pt_eqS (pv 0))
      (pss_one (ps_ret (pe_cmpR (op_ltK) (pv 1) (pv 2) (nomark _))))
      pss_nil)
    (pss_cons (ps_if (pt_eqS (pv 0))
      (pss_one (ps_ret (pe_cmpR (op_leK) (pv 1) (pv 2) (nomark _))))
      pss_nil)
    (pss_cons (ps_if (pt_eqS (pv 0))
      (pss_one (ps_ret (pe_cmpR (op_gtK) (pv 1) (pv 2) (nomark _))))
      pss_nil)
    (pss_one (ps_ret (pe_cmpR (op_geK) (pv 1) (pv 2) (nomark _))))))))), ?_⟩
  refine ⟨_, rfl, _, rfl, ?_⟩
  cases o with
  | eq => exact iteT ⟨_, rfl, _, rfl, k, hk, hx, hy, q⟩
  | ne => exact iteF ⟨_, rfl, _, rfl, iteT ⟨_, rfl, _, rfl, k, hk, hx, hy, q⟩⟩
  | lt => exact iteF ⟨_, rfl, _, rfl, iteF ⟨_, rfl, _, rfl, iteT ⟨_, rfl, _, rfl, k, hk, hx, hy, q⟩⟩⟩
  | le => exact iteF ⟨_, rfl, _, rfl, iteF ⟨_, rfl, _, rfl, iteF ⟨_, rfl, _, rfl, iteT ⟨_, rfl, _, rfl, k, hk, hx, hy, q⟩⟩⟩⟩
  | gt => exact iteF ⟨_, rfl, _, rfl, iteF ⟨_, rfl, _, rfl, iteF ⟨_, rfl, _, rfl, iteF ⟨_, rfl, _, rfl, iteT ⟨_, rfl, _, rfl, k, hk, hx, hy, q⟩⟩⟩⟩⟩
  | ge => exact iteF ⟨_, rfl, _, rfl, iteF ⟨_, rfl, _, rfl, iteF ⟨_, rfl, _, rfl, iteF ⟨_, rfl, _, rfl, iteF ⟨_, rfl, _, rfl, k, hk, hx, hy, q⟩⟩⟩⟩⟩
/-- what the three kinds of operators ask and give -/
def OpvAt (nm : Str) (x y : V) (Q : V → Prop) : Prop := (∃ o : Ar, nm = o.nm ∧ HasK .num x ∧ HasK .num y ∧ Q (arV o x y)) ∨ (∃ (o : Cm) (k : Kd), nm = o.nm ∧ k ≠ .cond ∧ HasK k x ∧ HasK k y ∧ Q (cmV o x y)) ∨ ∃ o : Bool, nm = loNm o ∧ HasK .cond x ∧ HasK .cond y ∧ Q (loV o x y)
def spOpv : Sp := fun vs H Q _ => ∃ (nm : Str) (x y : V), vs = [.str nm, x, y] ∧ OpvAt nm x y fun v => ∀ H', Same H H' → Q v H'
theorem ok_opv (Z : Glb mg) (D : DefN K mg "operator_value" 8) (c_arithmetic : C8.Cal P w K mg base 3 "arithmetic" spAri []) (c_compared : C8.Cal P w K mg base 1 "compared" spCmp []) : C8.Cal P w K mg base 4 "operator_value" spOpv [] := by
  have S : FnScope ["op", "x", "y"] ["op", "x", "y"] (C8.fnScope (top 8)) := C8.fnScope_by (by decide +kernel)
  refine cal_of D S (fun _ _ _ _ _ _ us hl => match us, hl with | [_, _, _], _ => rfl) (fun vs H Q E h => ?_) fun f cdv A outer s H vs Q E hr h => ?_
  · obtain ⟨nm, x, y, rfl, _⟩ := h
    rfl
  obtain ⟨nm, x, y, rfl, h⟩ := h
  refine ⟨_, (pss_cons (ps_if (pt_eqS (pv 0))
      (pss_one (ps_ret (pe_and (pv 1) (pe_one (pv 2)))))
      pss_nil)
    (pss_cons (ps_if (pt_eqS (pv 0))
      (pss_one (ps_ret (pe_or (pv 1) (pe_one (pv 2)))))
      pss_nil)
    (pss_cons (ps_if (pt_cmpR (op_inK (K := K)) (pv 0) (pe_tup (pa_cons pe_strA (pa_cons pe_strA (pa_cons pe_strA (pa_cons pe_strA (pa_cons pe_strA pa_nilA)))))) (by with_unfolding_all rfl))
      (pss_one (ps_ret (C8.pe_c c_arithmetic hr (by omega) rfl (pa_cons (pv 0) (pa_cons (pv 1) (pa_cons (pv 2) pa_nilA))))))
      pss_nil)
    (pss_one (ps_ret (C8.pe_c c_compared hr (by omega) rfl (pa_cons (pv 0) (pa_cons (pv 1) (pa_cons (pv 2) pa_nilA))))))))), ?_⟩
  refine ⟨_, rfl, _, rfl, ?_⟩
  rcases h with ⟨o, rfl, hx, hy, q⟩ | ⟨o, k, rfl, hk, hx, hy, q⟩ | ⟨o, rfl, hx, hy, q⟩
  · obtain ⟨i, rfl, hi⟩ := hx.int
    obtain ⟨j, rfl, hj⟩ := hy.int
    have go : ∀ p, H p = none → Q (.int (arI o i j)) (upd H p (.tup [.str "add", .str "sub", .str "mul", .str "div", .str "mod"])) := fun p hp => q _ (same_new hp _)
    cases o <;> exact iteF ⟨_, rfl, _, rfl, iteF ⟨_, rfl, (by show 5 ≤ sizeLine; decide), fun p hp => ⟨p, _, rfl, .inr (.inl (.inl upd_same)), rfl, rfl, _, rfl, iteT ⟨_, rfl, _, rfl, _, rfl, _, i, j, rfl, hi, hj, go p hp⟩⟩⟩⟩
  · have go : ∀ p, H p = none → Q (cmV o x y) (upd H p (.tup [.str "add", .str "sub", .str "mul", .str "div", .str "mod"])) := fun p hp => q _ (same_new hp _)
    cases o <;> exact iteF ⟨_, rfl, _, rfl, iteF ⟨_, rfl, (by show 5 ≤ sizeLine; decide), fun p hp => ⟨p, _, rfl, .inr (.inl (.inl upd_same)), rfl, rfl, _, rfl, iteF ⟨_, rfl, _, rfl, _, rfl, _, x, y, k, rfl, hk, hx, hy, go p hp⟩⟩⟩⟩
  · obtain ⟨a, rfl⟩ := hx.bl
    obtain ⟨b, rfl⟩ := hy.bl
    have go : Q (loV o (.bl a) (.bl b)) H := q _ Same.rfl'
    cases o with
    | true => exact iteT ⟨_, rfl, a, rfl, by cases a <;> first | exact iteF go | exact iteT ⟨_, rfl, go⟩⟩
    | false => exact iteF ⟨_, rfl, _, rfl, iteT ⟨_, rfl, a, rfl, by cases a <;> first | exact iteF ⟨_, rfl, go⟩ | exact iteT go⟩⟩
end
end K23

set_option Elab.async false
set_option linter.all false
set_option maxRecDepth 100000
set_option maxHeartbeats 4000000
/-! K23k: gathered, group_value, value_of. -/
namespace K23
open PySem PySem.Spec PyProof.Rows L2

/-! ### contracts -/
def lvD (lv : Lv) : PyData := .list (lv.map chD)
/-- the tables at t -/
def TabAt (tb : Str → List Row) (sch : List (Str × List Kd)) (K : PySem.W.Frag) (H : Hp) (t : Addr) : Prop := ∃ kvs, H t = some (.dK kvs) ∧ ∀ s ∈ sch, ∃ v, valV kvs (Sum.inr s.1) = some v ∧ Dp K H v (rowsD (tb s.1))
theorem TabAt.up {tb : Str → List Row} {sch : List (Str × List Kd)} {K : PySem.W.Frag} {H H' : Hp} {t : Addr} (h : TabAt tb sch K H t) (e : Same H H') : TabAt tb sch K H' t := by
  obtain ⟨kvs, h1, h2⟩ := h
  exact ⟨kvs, e _ _ h1, fun s hs => let ⟨v, a, b⟩ := h2 s hs; ⟨v, a, Dp.up e b⟩⟩
section
variable (tb : Str → List Row) (sch : List (Str × List Kd)) (K : PySem.W.Frag)
/-- group_value of an expression of depth below n -/
def spGV (n : Nat) : Sp := fun vs H Q _ => ∃ (ve vc vl : V) (t : Addr) (d : PyData) (n' : Nat) (g : Bool) (sc : Sc) (k : Kd) (f : Sem) (lv : Lv) (ms : List Ch), vs = [ve, vc, vl, .ref t] ∧ n' < n ∧ RepE tb sch n' g sc d k f ∧ Dp K H ve d ∧ Dp K H vc (chsD ms) ∧ Dp K H vl (lvD lv) ∧
  TabAt tb sch K H t ∧ Conf sc lv ∧ lv.length + n' ≤ 1000 ∧ (g = true → Mem sc ms) ∧ ∀ H', Same H H' → Q (f lv ms) H'
def spGath (n : Nat) : Sp := fun vs H Q _ => ∃ (ve vc vl : V) (t : Addr) (sc : Sc) (lv : Lv) (ms : List Ch), vs = [ve, vc, vl, .ref t] ∧ Dp K H vc (chsD ms) ∧ Dp K H vl (lvD lv) ∧ TabAt tb sch K H t ∧ Mem sc ms ∧ Conf sc.tail lv ∧ lv.length ≤ 999 ∧
  ((Dp K H ve (.tuple [.str "count"]) ∧ ∀ H', Same H H' → Q (.int ms.length) H') ∨
   ∃ (o : Ag) (n' : Nat) (d : PyData) (k : Kd) (f : Sem), Dp K H ve (.tuple [.str o.nm, d]) ∧ n' < n ∧ RepE tb sch n' false sc d k f ∧ lv.length + 1 + n' ≤ 1000 ∧ k ≠ .cond ∧ (o = .sum → k = .num) ∧ ∀ H', Same H H' → Q (agV o (ms.map fun c => f (lv ++ [c]) [])) H')
/-- value_of: a condition, no members -/
def spVal (n : Nat) : Sp := fun vs H Q _ => ∃ (ve vl : V) (t : Addr) (d : PyData) (n' : Nat) (sc : Sc) (k : Kd) (f : Sem) (lv : Lv), vs = [ve, vl, .ref t] ∧ n' < n ∧ RepE tb sch n' false sc d k f ∧ Dp K H ve d ∧ Dp K H vl (lvD lv) ∧
  TabAt tb sch K H t ∧ Conf sc lv ∧ lv.length + n' ≤ 1000 ∧ ∀ H', Same H H' → Q (f lv []) H'
/-- plain_answer of a question of depth below n; the levels may be a tuple -/
def spAns (n : Nat) : Sp := fun vs H Q _ => ∃ (vq vl : V) (t : Addr) (d : PyData) (n' m : Nat) (sc : Sc) (ks : List Kd) (q : Lv → List Row) (lv : Lv), vs = [vq, .ref t, vl] ∧ n' < n ∧ RepQ tb sch n' m sc d ks q ∧ Dp K H vq d ∧
  (Dp K H vl (lvD lv) ∨ Dp K H vl (.tuple (lv.map chD))) ∧ TabAt tb sch K H t ∧ Conf sc lv ∧ lv.length + n' ≤ 1000 ∧ ∀ a H', NewL K H H' a ((q lv).map rowD) → Q (.ref a) H'
end

/-! ### helpers -/
theorem cutV_init (xs : List V) (h : xs ≠ []) : cutV xs none (some ((xs.length : Int) - 1)) = xs.dropLast := by
  have hl : 0 < xs.length := List.length_pos_iff.mpr h
  have e : ((xs.length : Int) - 1) = ((xs.length - 1 : Nat) : Int) := by omega
  unfold cutV
  rw [e, HT.sIx_nat, HT.sIx_none, List.drop_zero, Nat.sub_zero, Nat.min_eq_left (by omega), List.dropLast_eq_take]
section
variable {K : PySem.W.Frag} {H : Hp}
theorem dpall_take : ∀ {xs : List V} {ds : List PyData} (n : Nat), DpAll K H xs ds → DpAll K H (xs.take n) (ds.take n)
  | _, _, 0, _ => by rw [List.take_zero, List.take_zero]; exact .nil
  | _, _, n + 1, .nil => by simp; exact .nil
  | _, _, n + 1, .cons h t => by
    rw [List.take_succ_cons, List.take_succ_cons]
    exact .cons h (dpall_take n t)
theorem lenpos (l : List Row) : V.bl (decide (0 < l.length)) = V.bl (decide ((0 : Int) < (l.length : Int))) := congrArg V.bl (decide_eq_decide.mpr (by omega))
theorem lv_get {sc : Sc} {lv : Lv} {u : Nat} {scn : List (List Kd)} (h : Conf sc lv) (e : sc[u]? = some scn) : ∃ ch, lv.reverse[u]? = some ch ∧ u < lv.length ∧ lv[lv.length - 1 - u]? = some ch := by
  obtain ⟨ch, e1, _⟩ := paired_get h e
  have hu := (List.getElem?_eq_some_iff.mp e1).1
  rw [List.length_reverse] at hu
  refine ⟨ch, e1, hu, ?_⟩
  rw [List.getElem?_reverse hu] at e1
  exact e1
theorem snoc_d {xs : List V} {x : V} {ds : List PyData} {d : PyData} {p : Addr} (hp : H p = none) (h : DpAll K H xs ds) (hx : Dp K H x d) : Dp K (upd H p (.lst (xs ++ [x]))) (.ref p) (.list (ds ++ [d])) :=
  (newL_of hp (dpall_snoc h hx)).dp
end
section
variable {tb : Str → List Row} {sch : List (Str × List Kd)} {P : Program} {w : World} {K : PySem.W.Frag} {mg : Str → Option Value} {base : Heap}
theorem ok_gathered (T : TbOk tb sch) (Z : Glb mg) (D : DefN K mg "gathered" 9) {n : Nat} (c_wrap : C8.Cal P w K mg base 1 "wrap" spWrap []) (c_group_value : C8.Cal P w K mg base (8 * n + 8) "group_value" (spGV tb sch K n) []) :
    C8.Cal P w K mg base (8 * n + 9) "gathered" (spGath tb sch K n) [] := by
  have S : FnScope ["e", "choices", "outer", "tables", "found", "choice"] ["e", "choices", "outer", "tables"] (C8.fnScope (top 9)) := C8.fnScope_by (by decide +kernel)
  refine cal_of D S (fun _ _ _ _ _ _ us hl => match us, hl with | [_, _, _, _], _ => rfl) (fun vs H Q E h => ?_) fun fa cdv A outer s H vs Q E hr h => ?_
  · obtain ⟨ve, vc, vl, t, sc, lv, ms, rfl, _⟩ := h
    rfl
  obtain ⟨ve, vc, vl, t, sc, lv, ms, rfl, hc, hl, ht, hM, hC, h9, h⟩ := h
  refine ⟨_, (pss_cons (ps_if (pt_eqS (pe_ix (ix_tupK (K := K)) (pv 0) pe_intA (fun _ _ => rfl)))
      (pss_one (ps_ret (pe_callB (id := "len") (cr_len (K := K)) (by rfl) Z.len (by decide +kernel) (pa_cons (pv 1) pa_nilA))))
      pss_nil)
    (pss_cons (ps_setLc (i := 4) (own := [("choice", 5)]) (g := gName 5) (by rfl) S.nd rfl rfl (sw_true rfl rfl rfl (by decide +kernel)) (pi_listK (K := K) (pv 1)) (blkOk_by (own := [("choice", 5)]) (N := ["e", "choices", "outer", "tables", "found", "choice"]) (sc := C8.fnScope (top 9)) (by decide +kernel)) (fun _ _ _ _ _ => pg_name (i := 5) S.nd rfl (by first | exact .inl rfl | exact .inr rfl)) (fun _ _ _ _ _ => pts_nil) (fun _ _ _ _ _ => (C8.pe_c c_group_value hr (by omega) rfl (pa_cons (pe_ix (ix_tupK (K := K)) (pv 0) pe_intA (fun _ _ => rfl)) (pa_cons (pe_lst (pa_cons (pv 5) pa_nilA)) (pa_cons (pe_op (op_catK (K := K)) (pe_callTy (T := "list") (cr_listOf (K := K)) (by rfl) Z.list (by decide +kernel) (pa_cons (pv 2) pa_nilA)) (pe_lst (pa_cons (pv 5) pa_nilA))) (pa_cons (pv 3) pa_nilA)))))))
    (pss_cons (ps_if (pt_eqS (pe_ix (ix_tupK (K := K)) (pv 0) pe_intA (fun _ _ => rfl)))
      (pss_one (ps_ret (C8.pe_c c_wrap hr (by omega) rfl (pa_cons (pe_callB (id := "sum") (cr_sum rfl) (by rfl) Z.sum (by decide +kernel) (pa_cons (pv 4) pa_nilA)) pa_nilA))))
      pss_nil)
    (pss_cons (ps_if (pt_eqS (pe_ix (ix_tupK (K := K)) (pv 0) pe_intA (fun _ _ => rfl)))
      (pss_one (ps_ret (pe_callB (id := "min") (cr_minK rfl (HU hr)) (by rfl) Z.min (by decide +kernel) (pa_cons (pv 4) pa_nilA))))
      pss_nil)
    (pss_one (ps_ret (pe_callB (id := "max") (cr_maxK rfl (HU hr)) (by rfl) Z.max (by decide +kernel) (pa_cons (pv 4) pa_nilA)))))))), ?_⟩
  rcases h with ⟨he, q⟩ | ⟨o, n', d, k, f, he, hn, e, hln, hk, ho, q⟩
  · refine ⟨_, rfl, ixT_d 0 he rfl fun v hv => ?_⟩
    cases dp_str hv
    refine ⟨_, rfl, iteT ⟨_, rfl, len_d hc ?_⟩⟩
    rw [List.length_map]
    exact q _ Same.rfl'
  · refine ⟨_, rfl, ixT_d 0 he rfl fun v hv => ?_⟩
    cases dp_str hv
    refine ⟨_, rfl, iteFd (by cases o <;> decide +kernel) ?_⟩
    obtain ⟨ca, cs, rfl, hca, hcs⟩ := dp_list hc
    obtain ⟨h1, h2, scn, sc', rfl, h3⟩ := hM
    refine ⟨_, rfl, ca, rfl, ⟨_, hca⟩, fun D hD => ?_⟩
    have h27 : ms.length ≤ 100000 := by omega
    have has : ∀ c ∈ ms, HasK k (f (lv ++ [c]) []) := fun c hc => (sound T n').1 e _ _ (conf_push hC (h3 c hc)) fun z => nomatch z
    refine lc_dp (as := ms) (enc := chD) (fun _ => true) (fun c => keyD (keyOf (f (lv ++ [c]) []))) hca hcs hD h27 (fun c x W H1 hcm hx s1 s2 hW _ Kp Sk hK hS => ?_) fun H' ys s1 hys _ hyd => ?_
    · have s3 := Same.trn s1 s2
      refine ⟨rfl, _, rfl, ixT_d 1 (Dp.up s3 he) rfl fun v1 hv1 => ?_⟩
      refine ⟨_, rfl, by show 1 ≤ sizeLine; decide, fun p1 hp1 => ?_⟩
      refine ⟨_, rfl, listOf_d (.inl (Dp.up (Same.trn s3 (same_new hp1 _)) hl)) fun p2 xs2 hp2 hxs2 => ?_⟩
      refine ⟨_, rfl, by show 1 ≤ sizeLine; decide, fun p3 hp3 => ?_⟩
      have t1 : Same H H1 := s3
      have t2 := Same.trn t1 (same_new hp1 (.lst [x]))
      have t3 := Same.trn t2 (same_new hp2 (.lst xs2))
      have t4 := Same.trn t3 (same_new hp3 (.lst [x]))
      have u1 := same_new hp1 (.lst [x])
      have u2 := Same.trn u1 (same_new hp2 (.lst xs2))
      have u3 := Same.trn u2 (same_new hp3 (.lst [x]))
      have xd : Dp K (upd H1 p1 (.lst [x])) x (chD c) := Dp.up (Same.trn t1 u1) hx
      have xd2 := Dp.up (same_new hp2 (.lst xs2)) xd
      refine cat_d (ds := lv.map chD) (es := [chD c]) ((newL_of hp2 hxs2).dp |> Dp.up (same_new hp3 _)) (newL_of hp3 (DpAll.cons xd2 .nil)).dp (by rw [List.length_map, List.length_singleton]; omega) fun p4 xs4 ys4 hp4 hx4 hy4 => ?_
      have u4 := Same.trn u3 (same_new hp4 (.lst (xs4 ++ ys4)))
      have t5 := Same.trn t1 u4
      refine ⟨_, rfl, v1, .ref p1, .ref p4, t, d, n', false, scn :: sc', k, f, lv ++ [c], [c], rfl, hn, e, Dp.up u4 hv1, ?_, ?_, TabAt.up ht t5, conf_push hC (h3 c hcm), (by rw [List.length_append, List.length_singleton]; omega), (fun z => nomatch z), fun H' s5 => ?_⟩
      · exact Dp.up (Same.trn (Same.trn (same_new hp2 _) (same_new hp3 _)) (same_new hp4 _)) (newL_of hp1 (DpAll.cons (Dp.up t1 hx) .nil)).dp
      · unfold lvD
        rw [List.map_append]
        exact (newL_of hp4 (dpall_app hx4 hy4)).dp
      · rw [indep n' e (lv ++ [c]) [c] []]
        refine hK rfl _ _ W Same.rfl' (Same.trn s2 (Same.trn u4 s5)) (Same.trn u4 s5) hW ?_
        have e1 := key_dp (K := K) (H := W) (keyOf (f (lv ++ [c]) []))
        rw [kV_keyOf (has c hcm) hk] at e1
        exact e1
    · have hys' : ys = (ms.map fun c => keyOf (f (lv ++ [c]) [])).map kV := by
        refine dpall_keys (r := ms.map fun c => keyOf (f (lv ++ [c]) [])) (K := K) (H := H') ?_
        rw [List.map_map]
        rw [List.filter_eq_self.mpr fun _ _ => rfl] at hyd
        exact hyd
      have hkk : ∀ y ∈ (ms.map fun c => keyOf (f (lv ++ [c]) [])), HasK k (kV y) := fun y hy => by
        obtain ⟨c, hcm, rfl⟩ := List.mem_map.mp hy
        rw [kV_keyOf (has c hcm) hk]
        exact has c hcm
      have hne : (ms.map fun c => keyOf (f (lv ++ [c]) [])) ≠ [] := fun z => h1 (List.map_eq_nil_iff.mp z)
      have q' : Q (agV o (ms.map fun c => f (lv ++ [c]) [])) H' := q H' s1
      have emm : (ms.map fun c => f (lv ++ [c]) []).map keyOf = ms.map fun c => keyOf (f (lv ++ [c]) []) := by rw [List.map_map]; rfl
      refine ⟨_, rfl, ixT_d 0 (Dp.up s1 he) rfl fun v hv => ?_⟩
      cases dp_str hv
      refine ⟨_, rfl, ?_⟩
      cases o with
      | sum =>
        refine iteT ⟨_, rfl, D, (ms.map fun c => iV (f (lv ++ [c]) [])), rfl, ?_, _, rfl, ?_⟩
        · refine .inl (.inl ?_)
          rw [hys, hys', List.map_map, List.map_map]
          refine congrArg (fun z => some (HO.lst z)) (List.map_congr_left fun c hcm => ?_)
          have a1 := has c hcm
          rw [ho rfl] at a1
          obtain ⟨i, e2, _⟩ := a1.int
          show kV (keyOf (f (lv ++ [c]) [])) = V.int (iV (f (lv ++ [c]) []))
          rw [e2]
          rfl
        · have e3 : agV .sum (ms.map fun c => f (lv ++ [c]) []) = .int (wrapI (ms.map fun c => iV (f (lv ++ [c]) [])).sum) := by
            show V.int (wrapI ((ms.map fun c => f (lv ++ [c]) []).map iV).sum) = _
            rw [List.map_map]
            rfl
          rw [e3] at q'
          exact q'
      | least =>
        refine iteF ⟨_, rfl, ixT_d 0 (Dp.up s1 he) rfl fun v hv => ?_⟩
        cases dp_str hv
        refine ⟨_, rfl, iteT ⟨_, rfl, D, _, k, rfl, .inl (.inl (by rw [hys, hys'])), hk, hkk, hne, ?_⟩⟩
        have e3 : agV .least (ms.map fun c => f (lv ++ [c]) []) = kV (minK (ms.map fun c => keyOf (f (lv ++ [c]) []))) := by
          rw [← emm]
          rfl
        rw [e3] at q'
        exact q'
      | greatest =>
        refine iteF ⟨_, rfl, ixT_d 0 (Dp.up s1 he) rfl fun v hv => ?_⟩
        cases dp_str hv
        refine ⟨_, rfl, iteF ⟨_, rfl, D, _, k, rfl, .inl (.inl (by rw [hys, hys'])), hk, hkk, hne, ?_⟩⟩
        have e3 : agV .greatest (ms.map fun c => f (lv ++ [c]) []) = kV (maxK (ms.map fun c => keyOf (f (lv ++ [c]) []))) := by
          rw [← emm]
          rfl
        rw [e3] at q'
        exact q'
theorem ok_group_value (T : TbOk tb sch) (Z : Glb mg) (D : DefN K mg "group_value" 10) {n : Nat} (c_wrap : C8.Cal P w K mg base 1 "wrap" spWrap []) (c_operator_value : C8.Cal P w K mg base 4 "operator_value" spOpv [])
    (c_group_value : C8.Cal P w K mg base (8 * n + 8) "group_value" (spGV tb sch K n) []) (c_gathered : C8.Cal P w K mg base (8 * n + 9) "gathered" (spGath tb sch K n) []) (c_plain_answer : C8.Cal P w K mg base (8 * n + 4) "plain_answer" (spAns tb sch K n) []) :
    C8.Cal P w K mg base (8 * n + 15 + 1) "group_value" (spGV tb sch K (n + 1)) [] := by
  have S : FnScope ["e", "choices", "levels", "tables", "op", "x"] ["e", "choices", "levels", "tables"] (C8.fnScope (top 10)) := C8.fnScope_by (by decide +kernel)
  refine cal_of D S (fun _ _ _ _ _ _ us hl => match us, hl with | [_, _, _, _], _ => rfl) (fun vs H Q E h => ?_) fun fa cdv A outer s H vs Q E hr h => ?_
  · obtain ⟨ve, vc, vl, t, d, n', g, sc, k, f, lv, ms, rfl, _⟩ := h
    rfl
  obtain ⟨ve, vc, vl, t, d, n', g, sc, k, f, lv, ms, rfl, hn, e, he, hc, hl, ht, hC, h9, hM, q⟩ := h
  refine ⟨_, (pss_cons (ps_set (i := 4) S.nd rfl (by first | exact .inl rfl | exact .inr rfl) (pe_ix (ix_tupK (K := K)) (pv 0) pe_intA (fun _ _ => rfl)))
    (pss_cons (ps_if (PW.pt (pw_or (pt_eqS (pv 4)) (pw_or (pt_eqS (pv 4)) (pw_or1 (pt_eqS (pv 4))))))
      (pss_one (ps_ret (pe_ix (ix_tupK (K := K)) (pv 0) pe_intA (fun _ _ => rfl))))
      pss_nil)
    (pss_cons (ps_if (pt_eqS (pv 4))
      (pss_one (ps_ret (pe_ix (ix_tupK (K := K)) (pe_ix (ix_listK (K := K)) (pe_ix (ix_listK (K := K)) (pv 2) (pe_op (op_sub) (pe_op (op_sub) (pe_callB (id := "len") (cr_len (K := K)) (by rfl) Z.len (by decide +kernel) (pa_cons (pv 2) pa_nilA)) pe_intA) (pe_ix (ix_tupK (K := K)) (pv 0) pe_intA (fun _ _ => rfl))) (fun _ _ => rfl)) (pe_ix (ix_tupK (K := K)) (pv 0) pe_intA (fun _ _ => rfl)) (fun _ _ => rfl)) (pe_ix (ix_tupK (K := K)) (pv 0) pe_intA (fun _ _ => rfl)) (fun _ _ => rfl))))
      pss_nil)
    (pss_cons (ps_if (pt_eqS (pv 4))
      (pss_one (ps_ret (C8.pe_c c_wrap hr (by omega) rfl (pa_cons (pe_op (op_sub) pe_intA (C8.pe_c c_group_value hr (by omega) rfl (pa_cons (pe_ix (ix_tupK (K := K)) (pv 0) pe_intA (fun _ _ => rfl)) (pa_cons (pv 1) (pa_cons (pv 2) (pa_cons (pv 3) pa_nilA)))))) pa_nilA))))
      pss_nil)
    (pss_cons (ps_if (pt_eqS (pv 4))
      (pss_one (ps_ret (pe_not (C8.pe_c c_group_value hr (by omega) rfl (pa_cons (pe_ix (ix_tupK (K := K)) (pv 0) pe_intA (fun _ _ => rfl)) (pa_cons (pv 1) (pa_cons (pv 2) (pa_cons (pv 3) pa_nilA))))))))
      pss_nil)
    (pss_cons (ps_if (pt_eqS (pv 4))
      (pss_one (ps_ret (pe_cmpR (op_gt) (pe_callB (id := "len") (cr_len (K := K)) (by rfl) Z.len (by decide +kernel) (pa_cons (C8.pe_c c_plain_answer hr (by omega) rfl (pa_cons (pe_ix (ix_tupK (K := K)) (pv 0) pe_intA (fun _ _ => rfl)) (pa_cons (pv 3) (pa_cons (pv 2) pa_nilA)))) pa_nilA)) pe_intA (nomark _))))
      pss_nil)
    (pss_cons (ps_if (pt_cmpR (op_inK (K := K)) (pv 4) (pe_tup (pa_cons pe_strA (pa_cons pe_strA (pa_cons pe_strA (pa_cons pe_strA pa_nilA))))) (by with_unfolding_all rfl))
      (pss_one (ps_ret (C8.pe_c c_gathered hr (by omega) rfl (pa_cons (pv 0) (pa_cons (pv 1) (pa_cons (pe_slice (sl_listK (K := K)) (pv 2) po_none (po_some (pe_op (op_sub) (pe_callB (id := "len") (cr_len (K := K)) (by rfl) Z.len (by decide +kernel) (pa_cons (pv 2) pa_nilA)) pe_intA))) (pa_cons (pv 3) pa_nilA)))))))
      pss_nil)
    (pss_cons (ps_set (i := 5) S.nd rfl (by first | exact .inl rfl | exact .inr rfl) (C8.pe_c c_group_value hr (by omega) rfl (pa_cons (pe_ix (ix_tupK (K := K)) (pv 0) pe_intA (fun _ _ => rfl)) (pa_cons (pv 1) (pa_cons (pv 2) (pa_cons (pv 3) pa_nilA))))))
    (pss_one (ps_ret (C8.pe_c c_operator_value hr (by omega) rfl (pa_cons (pv 4) (pa_cons (pv 5) (pa_cons (C8.pe_c c_group_value hr (by omega) rfl (pa_cons (pe_ix (ix_tupK (K := K)) (pv 0) pe_intA (fun _ _ => rfl)) (pa_cons (pv 1) (pa_cons (pv 2) (pa_cons (pv 3) pa_nilA))))) pa_nilA)))))))))))))), ?_⟩
  have S0 := (sound T n').1 e lv ms hC hM
  -- a call of group_value on a part
  have part : ∀ {n2 : Nat} {d2 : PyData} {k2 : Kd} {f2 : Sem} {v : V} {Q2 : VK} {H2 : Hp}, n2 < n' → RepE tb sch n2 g sc d2 k2 f2 → Same H H2 → Dp K H2 v d2 → (∀ H', Same H H' → Q2 (f2 lv ms) H') → spGV tb sch K n [v, vc, vl, .ref t] H2 Q2 C8.E0 := fun {n2 d2 k2 f2 v Q2 H2} hn2 e2 s2 hv q2 =>
    ⟨v, vc, vl, t, d2, n2, g, sc, k2, f2, lv, ms, rfl, by omega, e2, hv, Dp.up s2 hc, Dp.up s2 hl, ht.up s2, hC, by omega, hM, fun H' s3 => q2 H' (Same.trn s2 s3)⟩
  have sndE : ∀ {n2 : Nat} {d2 : PyData} {k2 : Kd} {f2 : Sem}, RepE tb sch n2 g sc d2 k2 f2 → HasK k2 (f2 lv ms) := fun {n2 d2 k2 f2} e2 => (sound T n2).1 e2 lv ms hC hM
  obtain ⟨la, ls, rfl, hla, hls⟩ := dp_list hl
  have gath : g = true → ∀ {p p2 : Addr} {o1 : HO}, H p = none → upd H p o1 p2 = none → (∀ H2, Same H H2 → (Dp K H2 ve (.tuple [.str "count"]) ∧ ∀ H', Same H2 H' → Q (.int ms.length) H') ∨
      ∃ (o : Ag) (n' : Nat) (d : PyData) (k : Kd) (f : Sem), Dp K H2 ve (.tuple [.str o.nm, d]) ∧ n' < n ∧ RepE tb sch n' false sc d k f ∧ lv.dropLast.length + 1 + n' ≤ 1000 ∧ k ≠ .cond ∧ (o = .sum → k = .num) ∧ ∀ H', Same H2 H' → Q (agV o (ms.map fun c => f (lv.dropLast ++ [c]) [])) H') →
      spGath tb sch K n [ve, vc, .ref p2, .ref t] (upd (upd H p o1) p2 (.lst (cutV ls none (some ((ls.length : Int) - 1))))) Q C8.E0 := fun hg {p p2 o1} hp hp2 hq => by
    obtain ⟨m1, m2, scn, sc', rfl, m3⟩ := hM hg
    obtain ⟨lv', c0, rfl, hC', _⟩ := conf_pop hC
    have s2 : Same H (upd (upd H p o1) p2 (.lst (cutV ls none (some ((ls.length : Int) - 1))))) := Same.trn (same_new hp _) (same_new hp2 _)
    have hne : ls ≠ [] := fun z => by
      have := dpall_len hls
      rw [z] at this
      simp at this
    have hcut := cutV_init ls hne
    refine ⟨ve, vc, .ref p2, t, scn :: sc', lv', ms, rfl, Dp.up s2 hc, ?_, ht.up s2, ⟨m1, m2, scn, sc', rfl, m3⟩, hC', by rw [List.length_append, List.length_singleton] at h9; omega, ?_⟩
    · rw [hcut]
      refine (newL_of hp2 ?_).dp
      have := dpall_take (ls.length - 1) (DpAll.up (same_new hp o1) hls)
      rw [List.map_append] at this
      have e1 : ls.length - 1 = (lv'.map chD).length := by
        rw [dpall_len hls, List.map_append, List.length_append]
        rfl
      rw [← List.dropLast_eq_take, e1, List.take_left] at this
      exact this
    · have := hq _ s2
      rw [List.dropLast_concat] at this
      exact this
  cases e with
  | num i h1 h2 =>
    refine ⟨_, rfl, ixT_d 0 he rfl fun v hv => ?_⟩
    cases dp_str hv
    refine ⟨_, rfl, _, rfl, iteTd rfl (iteTd rfl ⟨_, rfl, ixT_d 1 he rfl fun v hv => ?_⟩)⟩
    cases dp_int hv
    exact q _ Same.rfl'
  | txt x h =>
    refine ⟨_, rfl, ixT_d 0 he rfl fun v hv => ?_⟩
    cases dp_str hv
    refine ⟨_, rfl, _, rfl, iteFd rfl ⟨_, rfl, _, rfl, iteTd rfl (iteTd rfl ⟨_, rfl, ixT_d 1 he rfl fun v hv => ?_⟩)⟩⟩
    cases dp_str hv
    exact q _ Same.rfl'
  | cell u s c h1 h2 h3 hb =>
    refine ⟨_, rfl, ixT_d 0 he rfl fun v hv => ?_⟩
    cases dp_str hv
    refine ⟨_, rfl, _, rfl, iteFd rfl ⟨_, rfl, _, rfl, iteFd rfl ⟨_, rfl, _, rfl, iteFd rfl ⟨_, rfl, _, rfl, iteTd rfl ?_⟩⟩⟩⟩
    obtain ⟨ch, r, key, e1, e2, e3, e4, _, _⟩ := cell_has hC h1 h2 h3
    obtain ⟨ch', e1', hu, e5⟩ := lv_get hC h1
    rw [e1] at e1'
    cases e1'
    refine ⟨_, rfl, _, rfl, len_d hl ⟨_, _, rfl, rfl, _, rfl, ixT_d 1 he rfl fun v1 hv1 => ?_⟩⟩
    cases dp_int hv1
    refine ⟨_, _, rfl, rfl, ixL_d (lv.length - 1 - u) (d := chD ch) hl (by rw [List.getElem?_map, e5]; rfl) (fun v2 hv2 => ?_) (by rw [List.length_map]; omega)⟩
    refine ⟨_, rfl, ixT_d 2 he rfl fun v3 hv3 => ?_⟩
    cases dp_int hv3
    refine ixL_d s (d := rowD r) hv2 (by rw [List.getElem?_map, e2]; rfl) fun v4 hv4 => ?_
    refine ⟨_, rfl, ixT_d 3 he rfl fun v5 hv5 => ?_⟩
    cases dp_int hv5
    refine ixT_d c (d := keyD key) hv4 (by rw [List.getElem?_map, e3]; rfl) fun v6 hv6 => ?_
    rw [dp_key hv6, ← e4]
    exact q _ Same.rfl'
  | neg h e =>
    refine ⟨_, rfl, ixT_d 0 he rfl fun v hv => ?_⟩
    cases dp_str hv
    refine ⟨_, rfl, _, rfl, iteFd rfl ⟨_, rfl, _, rfl, iteFd rfl ⟨_, rfl, _, rfl, iteFd rfl ⟨_, rfl, _, rfl, iteFd rfl ⟨_, rfl, _, rfl, iteTd rfl ?_⟩⟩⟩⟩⟩
    refine ⟨_, rfl, ixT_d 1 he rfl fun v1 hv1 => ⟨_, rfl, _, rfl, _, rfl, part h e Same.rfl' hv1 fun H' s1 => ?_⟩⟩
    exact ⟨_, _, rfl, (num_has (sndE e)).1, _, rfl, q _ s1⟩
  | nt h e =>
    refine ⟨_, rfl, ixT_d 0 he rfl fun v hv => ?_⟩
    cases dp_str hv
    refine ⟨_, rfl, _, rfl, iteFd rfl ⟨_, rfl, _, rfl, iteFd rfl ⟨_, rfl, _, rfl, iteFd rfl ⟨_, rfl, _, rfl, iteFd rfl ⟨_, rfl, _, rfl, iteFd rfl ⟨_, rfl, _, rfl, iteTd rfl ?_⟩⟩⟩⟩⟩⟩
    refine ⟨_, rfl, ixT_d 1 he rfl fun v1 hv1 => ⟨_, rfl, _, rfl, _, rfl, part h e Same.rfl' hv1 fun H' s1 => ?_⟩⟩
    exact ⟨_, cond_has (sndE e), q _ s1⟩
  | ex h e =>
    refine ⟨_, rfl, ixT_d 0 he rfl fun v hv => ?_⟩
    cases dp_str hv
    refine ⟨_, rfl, _, rfl, iteFd rfl ⟨_, rfl, _, rfl, iteFd rfl ⟨_, rfl, _, rfl, iteFd rfl ⟨_, rfl, _, rfl, iteFd rfl ⟨_, rfl, _, rfl, iteFd rfl ⟨_, rfl, _, rfl, iteFd rfl ⟨_, rfl, _, rfl, iteTd rfl ?_⟩⟩⟩⟩⟩⟩⟩
    refine ⟨_, rfl, ixT_d 1 he rfl fun v1 hv1 => ⟨_, rfl, _, rfl, _, _, t, _, _, _, _, _, _, lv, rfl, by omega, e, hv1, .inl hl, ht, hC, by omega, fun a H' N => ?_⟩⟩
    refine len_d N.dp ⟨_, _, rfl, rfl, ?_⟩
    rw [List.length_map]
    have q' : Q (V.bl (decide (0 < (_ : List Row).length))) H' := q H' N.1
    rw [lenpos] at q'
    exact q'
  | cnt =>
    refine ⟨_, rfl, ixT_d 0 he rfl fun v hv => ?_⟩
    cases dp_str hv
    refine ⟨_, rfl, _, rfl, iteFd rfl ⟨_, rfl, _, rfl, iteFd rfl ⟨_, rfl, _, rfl, iteFd rfl ⟨_, rfl, _, rfl, iteFd rfl ⟨_, rfl, _, rfl, iteFd rfl ⟨_, rfl, _, rfl, iteFd rfl ⟨_, rfl, _, rfl, iteFd rfl ?_⟩⟩⟩⟩⟩⟩⟩
    refine ⟨_, rfl, by show 4 ≤ sizeLine; decide, fun p hp => ⟨p, _, rfl, .inr (.inl (.inl upd_same)), rfl, rfl, _, rfl, iteTd rfl ?_⟩⟩
    refine ⟨_, rfl, _, rfl, _, rfl, _, rfl, la, ls, rfl, .inl ((same_new hp _).seq hla), _, _, rfl, rfl, _, rfl, la, ls, rfl, (same_new hp _).seq hla, fun p2 hp2 => ⟨_, rfl, ?_⟩⟩
    exact gath rfl hp hp2 fun H2 s2 => .inl ⟨Dp.up s2 he, fun H' s3 => q _ (Same.trn s2 s3)⟩
  | ag o h e hk ho =>
    refine ⟨_, rfl, ixT_d 0 he rfl fun v hv => ?_⟩
    cases dp_str hv
    have go : ∀ {p p2 : Addr} {o1 : HO}, H p = none → upd H p o1 p2 = none → spGath tb sch K n [ve, vc, .ref p2, .ref t] (upd (upd H p o1) p2 (.lst (cutV ls none (some ((ls.length : Int) - 1))))) Q C8.E0 := fun {p p2 o1} hp hp2 =>
      gath rfl hp hp2 fun H2 s2 => .inr ⟨o, _, _, _, _, Dp.up s2 he, by omega, e, by rw [List.length_dropLast]; obtain ⟨m1, m2, scn, sc', rfl, m3⟩ := hM rfl; have := conf_len hC; rw [List.length_cons] at this; omega, hk, ho, fun H' s3 => q _ (Same.trn s2 s3)⟩
    cases o <;>
    exact ⟨_, rfl, _, rfl, iteFd rfl ⟨_, rfl, _, rfl, iteFd rfl ⟨_, rfl, _, rfl, iteFd rfl ⟨_, rfl, _, rfl, iteFd rfl ⟨_, rfl, _, rfl, iteFd rfl ⟨_, rfl, _, rfl, iteFd rfl ⟨_, rfl, _, rfl, iteFd rfl
      ⟨_, rfl, by show 4 ≤ sizeLine; decide, fun p hp => ⟨p, _, rfl, .inr (.inl (.inl upd_same)), rfl, rfl, _, rfl, iteTd rfl
        ⟨_, rfl, _, rfl, _, rfl, _, rfl, la, ls, rfl, .inl ((same_new hp _).seq hla), _, _, rfl, rfl, _, rfl, la, ls, rfl, (same_new hp _).seq hla, fun p2 hp2 => ⟨_, rfl, go hp hp2⟩⟩⟩⟩⟩⟩⟩⟩⟩⟩⟩
  | ar o h e1 e2 =>
    refine ⟨_, rfl, ixT_d 0 he rfl fun v hv => ?_⟩
    cases dp_str hv
    have opv : ∀ {H3 : Hp}, Same H H3 → spOpv [.str o.nm, _, _] H3 Q C8.E0 := fun {H3} s3 => ⟨_, _, _, rfl, .inl ⟨o, rfl, sndE e1, sndE e2, fun H' s4 => q _ (Same.trn s3 s4)⟩⟩
    cases o <;>
    exact ⟨_, rfl, _, rfl, iteFd rfl ⟨_, rfl, _, rfl, iteFd rfl ⟨_, rfl, _, rfl, iteFd rfl ⟨_, rfl, _, rfl, iteFd rfl ⟨_, rfl, _, rfl, iteFd rfl ⟨_, rfl, _, rfl, iteFd rfl ⟨_, rfl, _, rfl, iteFd rfl
      ⟨_, rfl, by show 4 ≤ sizeLine; decide, fun p hp => ⟨p, _, rfl, .inr (.inl (.inl upd_same)), rfl, rfl, _, rfl, iteFd rfl
        ⟨_, rfl, ixT_d 1 (Dp.up (same_new hp _) he) rfl fun v1 hv1 => ⟨_, rfl, _, rfl, _, rfl, part h e1 (same_new hp _) hv1 fun H2 s2 =>
          ⟨_, rfl, _, rfl, _, rfl, ixT_d 2 (Dp.up s2 he) rfl fun v2 hv2 => ⟨_, rfl, _, rfl, _, rfl, part h e2 s2 hv2 fun H3 s3 => opv s3⟩⟩⟩⟩⟩⟩⟩⟩⟩⟩⟩⟩⟩
  | cm o h hk e1 e2 =>
    refine ⟨_, rfl, ixT_d 0 he rfl fun v hv => ?_⟩
    cases dp_str hv
    have opv : ∀ {H3 : Hp}, Same H H3 → spOpv [.str o.nm, _, _] H3 Q C8.E0 := fun {H3} s3 => ⟨_, _, _, rfl, .inr (.inl ⟨o, _, rfl, hk, sndE e1, sndE e2, fun H' s4 => q _ (Same.trn s3 s4)⟩)⟩
    cases o <;>
    exact ⟨_, rfl, _, rfl, iteFd rfl ⟨_, rfl, _, rfl, iteFd rfl ⟨_, rfl, _, rfl, iteFd rfl ⟨_, rfl, _, rfl, iteFd rfl ⟨_, rfl, _, rfl, iteFd rfl ⟨_, rfl, _, rfl, iteFd rfl ⟨_, rfl, _, rfl, iteFd rfl
      ⟨_, rfl, by show 4 ≤ sizeLine; decide, fun p hp => ⟨p, _, rfl, .inr (.inl (.inl upd_same)), rfl, rfl, _, rfl, iteFd rfl
        ⟨_, rfl, ixT_d 1 (Dp.up (same_new hp _) he) rfl fun v1 hv1 => ⟨_, rfl, _, rfl, _, rfl, part h e1 (same_new hp _) hv1 fun H2 s2 =>
          ⟨_, rfl, _, rfl, _, rfl, ixT_d 2 (Dp.up s2 he) rfl fun v2 hv2 => ⟨_, rfl, _, rfl, _, rfl, part h e2 s2 hv2 fun H3 s3 => opv s3⟩⟩⟩⟩⟩⟩⟩⟩⟩⟩⟩⟩⟩
  | lo o h e1 e2 =>
    refine ⟨_, rfl, ixT_d 0 he rfl fun v hv => ?_⟩
    cases dp_str hv
    have opv : ∀ {H3 : Hp}, Same H H3 → spOpv [.str (loNm o), _, _] H3 Q C8.E0 := fun {H3} s3 => ⟨_, _, _, rfl, .inr (.inr ⟨o, rfl, sndE e1, sndE e2, fun H' s4 => q _ (Same.trn s3 s4)⟩)⟩
    cases o <;>
    exact ⟨_, rfl, _, rfl, iteFd rfl ⟨_, rfl, _, rfl, iteFd rfl ⟨_, rfl, _, rfl, iteFd rfl ⟨_, rfl, _, rfl, iteFd rfl ⟨_, rfl, _, rfl, iteFd rfl ⟨_, rfl, _, rfl, iteFd rfl ⟨_, rfl, _, rfl, iteFd rfl
      ⟨_, rfl, by show 4 ≤ sizeLine; decide, fun p hp => ⟨p, _, rfl, .inr (.inl (.inl upd_same)), rfl, rfl, _, rfl, iteFd rfl
        ⟨_, rfl, ixT_d 1 (Dp.up (same_new hp _) he) rfl fun v1 hv1 => ⟨_, rfl, _, rfl, _, rfl, part h e1 (same_new hp _) hv1 fun H2 s2 =>
          ⟨_, rfl, _, rfl, _, rfl, ixT_d 2 (Dp.up s2 he) rfl fun v2 hv2 => ⟨_, rfl, _, rfl, _, rfl, part h e2 s2 hv2 fun H3 s3 => opv s3⟩⟩⟩⟩⟩⟩⟩⟩⟩⟩⟩⟩⟩
theorem ok_value_of (Z : Glb mg) (D : DefN K mg "value_of" 11) {n : Nat} (c_group_value : C8.Cal P w K mg base (8 * n + 8) "group_value" (spGV tb sch K n) []) : C8.Cal P w K mg base (8 * n + 9) "value_of" (spVal tb sch K n) [] := by
  have S : FnScope ["e", "levels", "tables"] ["e", "levels", "tables"] (C8.fnScope (top 11)) := C8.fnScope_by (by decide +kernel)
  refine cal_of D S (fun _ _ _ _ _ _ us hl => match us, hl with | [_, _, _], _ => rfl) (fun vs H Q E h => ?_) fun fa cdv A outer s H vs Q E hr h => ?_
  · obtain ⟨ve, vl, t, d, n', sc, k, f, lv, rfl, _⟩ := h
    rfl
  obtain ⟨ve, vl, t, d, n', sc, k, f, lv, rfl, hn, e, he, hl, ht, hC, h9, q⟩ := h
  refine ⟨_, (pss_one (ps_ret (C8.pe_c c_group_value hr (by omega) rfl (pa_cons (pv 0) (pa_cons (pe_lst pa_nilA) (pa_cons (pe_callTy (T := "list") (cr_listOf (K := K)) (by rfl) Z.list (by decide +kernel) (pa_cons (pv 1) pa_nilA)) (pa_cons (pv 2) pa_nilA))))))), ?_⟩
  refine ⟨_, rfl, by show 0 ≤ sizeLine; decide, fun p hp => ?_⟩
  have s1 := same_new hp (.lst [])
  refine ⟨_, rfl, listOf_d (.inl (Dp.up s1 hl)) fun p2 xs hp2 hxs => ?_⟩
  have s2 := Same.trn s1 (same_new hp2 (.lst xs))
  exact ⟨_, rfl, _, _, _, t, d, n', false, sc, k, f, lv, [], rfl, hn, e, Dp.up s2 he, Dp.up (same_new hp2 _) (newL_of (ds := []) hp .nil).dp, (newL_of hp2 hxs).dp, ht.up s2, hC, h9, (fun z => nomatch z), fun H' s3 => q _ (Same.trn s2 s3)⟩
end
end K23

set_option Elab.async false
set_option linter.all false
set_option maxRecDepth 100000
set_option maxHeartbeats 4000000
/-! K23l: plain_choices, plain_groups. -/
namespace K23
open PySem PySem.Spec PyProof.Rows L2

theorem RepE.tup {tb : Str → List Row} {sch : List (Str × List Kd)} {n : Nat} {g : Bool} {sc : Sc} {d : PyData} {k : Kd} {f : Sem} (e : RepE tb sch n g sc d k f) : ∃ ds, d = .tuple ds := by
  cases e <;> exact ⟨_, rfl⟩
/-! ### a comprehension with two for, over data -/
theorem flat_len {α β : Type} (bs : List β) (G : α → β → PyData) : ∀ l : List α, (l.flatMap fun c => bs.map (G c)).length = l.length * bs.length
  | [] => by simp
  | c :: l => by
    rw [List.flatMap_cons, List.length_append, flat_len bs G l, List.length_map, List.length_cons, Nat.succ_mul]
    omega
theorem lc2_dp {α β : Type} {K : PySem.W.Frag} {H : Hp} {a : Addr} {xs : List V} {as : List α} {bs : List β} {enc : α → PyData} {encB : β → PyData} {wi1 : TI} {te : TE} {σ : L2.St} {D : Addr} {Qd : Hp → Prop} {i1 i2 : Nat} {vs vs1 : List Nat} (G : α → β → PyData)
    (hx : SqL K H a xs) (hd : DpAll K H xs (as.map enc)) (hD : H D = none) (hl : as.length * bs.length ≤ 100000) (w1 : ∀ x, wipe ((wipe σ vs).set i1 (some x)) vs = wipe σ vs)
    (w2 : ∀ x z, wipe ((wipe ((wipe σ vs).set i1 (some x)) vs1).set i2 (some z)) vs1 = wipe ((wipe σ vs).set i1 (some x)) vs1)
    (hin : ∀ x H1, Same H H1 → ∀ R : It → Hp → Prop, (∀ b zs, SqL K H b zs → DpAll K H zs (bs.map encB) → R (Itl K b) H1) → wi1 ((wipe σ vs).set i1 (some x)) H1 R)
    (hte : ∀ (c : α) (x : V) (b : β) (z : V) (W H1 : Hp), c ∈ as → b ∈ bs → Dp K H x (enc c) → Dp K H z (encB b) → Same H W → Same W H1 → W D = none → H1 D ≠ none → ∀ Kp : VK,
      (∀ y H4 W', Same W W' → Same W' H4 → Same H1 H4 → W' D = none → Dp K W' y (G c b) → Kp y H4) → te ((wipe ((wipe σ vs).set i1 (some x)) vs1).set i2 (some z)) H1 Kp)
    (q : ∀ H' ys, Same H H' → H' D = some (.lst ys) → DpAll K H' ys (as.flatMap fun c => bs.map (G c)) → Qd H') :
    ∃ W : Nat → Nat → Hp → Prop, (∃ m, W 0 m (upd H D (.lst []))) ∧ ∀ i m H, W i m H →
      ((Itl K a).stop i H ∧ Qd H) ∨ ((Itl K a).go i H ∧ ∃ Nx : Hp → Prop, (∀ H', Nx H' → ∃ m', m' < m ∧ W (i + 1) m' H') ∧ ∀ x H', (Itl K a).yld i H x H' → gName i1 x (wipe σ vs) H' fun σ2 H2 => wipe σ2 vs = wipe σ vs ∧ tYes σ2 H2 fun b H3 =>
        if b = true then wi1 σ2 H3 fun J1 H4 => ∃ W1 : Nat → Nat → Hp → Prop, (∃ m, W1 0 m H4) ∧ ∀ j k H, W1 j k H →
          (J1.stop j H ∧ Nx H) ∨ (J1.go j H ∧ ∃ Nx1 : Hp → Prop, (∀ H', Nx1 H' → ∃ k', k' < k ∧ W1 (j + 1) k' H') ∧ ∀ x H', J1.yld j H x H' → gName i2 x (wipe σ2 vs1) H' fun σ3 H5 => wipe σ3 vs1 = wipe σ2 vs1 ∧ tYes σ3 H5 fun b H6 =>
            if b = true then te σ3 H6 fun y H7 => ∃ acc, H7 D = some (.lst acc) ∧ acc.length < sizeLine ∧ Nx1 (upd H7 D (.lst (acc ++ [y]))) else Nx1 H6)
        else Nx H3) := by
  have hlen : xs.length = as.length := by rw [dpall_len hd, List.length_map]
  -- what is held at the head of a turn
  let At : List PyData → Hp → Prop := fun out H' => ∃ W acc, Same H W ∧ Same W H' ∧ W D = none ∧ H' D = some (.lst acc) ∧ DpAll K W acc out
  refine ⟨fun i m H' => m = xs.length - i ∧ i ≤ xs.length ∧ At ((as.take i).flatMap fun c => bs.map (G c)) H', ⟨xs.length, by simp, Nat.zero_le _, H, [], Same.rfl', same_new hD _, hD, upd_same, .nil⟩, ?_⟩
  rintro i m H' ⟨rfl, hi, W, acc, s1, s2, hW, ha, hda⟩
  have sq : SqL K H' a xs := (Same.trn s1 s2).seq hx
  by_cases hlt : i < xs.length
  · refine .inr ⟨⟨xs, xs[i], sq, by simp [hlt]⟩, At ((as.take (i + 1)).flatMap fun c => bs.map (G c)), fun H2 p' => ⟨xs.length - (i + 1), by omega, rfl, hlt, p'⟩, fun x H2 y => ?_⟩
    obtain ⟨e, y⟩ := y
    subst e
    have hxi := y xs sq
    obtain ⟨d, e1, e2⟩ := dpall_get2 hd hxi
    rw [List.getElem?_map] at e1
    obtain ⟨c, e3, e4⟩ := Option.map_eq_some_iff.mp e1
    subst e4
    have hc : c ∈ as := List.mem_of_getElem? e3
    have hlt' : i < as.length := (List.getElem?_eq_some_iff.mp e3).1
    have et : (as.take (i + 1)).flatMap (fun c => bs.map (G c)) = (as.take i).flatMap (fun c => bs.map (G c)) ++ bs.map (G c) := by
      rw [List.take_add_one, e3, List.flatMap_append]
      simp
    refine ⟨w1 x, ?_⟩
    show wi1 _ _ _
    refine hin x _ (Same.trn s1 s2) _ fun b zs hb hzs => ?_
    have hlz : zs.length = bs.length := by rw [dpall_len hzs, List.length_map]
    refine ⟨fun j k H3 => k = zs.length - j ∧ j ≤ zs.length ∧ At ((as.take i).flatMap (fun c => bs.map (G c)) ++ (bs.take j).map (G c)) H3, ⟨zs.length, by simp, Nat.zero_le _, W, acc, s1, s2, hW, ha, by rw [List.take_zero, List.map_nil, List.append_nil]; exact hda⟩, ?_⟩
    rintro j k H3 ⟨rfl, hj, W3, acc3, t1, t2, hW3, ha3, hda3⟩
    have sq3 : SqL K H3 b zs := (Same.trn t1 t2).seq hb
    by_cases hjl : j < zs.length
    · refine .inr ⟨⟨zs, zs[j], sq3, by simp [hjl]⟩, At ((as.take i).flatMap (fun c => bs.map (G c)) ++ (bs.take (j + 1)).map (G c)), fun H4 p' => ⟨zs.length - (j + 1), by omega, rfl, hjl, p'⟩, fun z H4 y3 => ?_⟩
      obtain ⟨e, y3⟩ := y3
      subst e
      have hzj := y3 zs sq3
      obtain ⟨d3, f1, f2⟩ := dpall_get2 hzs hzj
      rw [List.getElem?_map] at f1
      obtain ⟨b', f3, f4⟩ := Option.map_eq_some_iff.mp f1
      subst f4
      have hjb : j < bs.length := (List.getElem?_eq_some_iff.mp f3).1
      refine ⟨w2 x z, ?_⟩
      show te _ _ _
      refine hte c x b' z W3 _ hc (List.mem_of_getElem? f3) e2 f2 t1 t2 hW3 (by rw [ha3]; exact fun z => nomatch z) _ fun y H5 W' g1 g2 g3 g4 g5 => ?_
      refine ⟨acc3, g3 _ _ ha3, ?_, W', acc3 ++ [y], Same.trn t1 g1, ?_, g4, upd_same, ?_⟩
      · have l1 := dpall_len hda3
        rw [List.length_append, flat_len, List.length_map, List.length_take, List.length_take, Nat.min_eq_left (Nat.le_of_lt hlt'), Nat.min_eq_left (Nat.le_of_lt hjb)] at l1
        have l2 : (i + 1) * bs.length ≤ as.length * bs.length := Nat.mul_le_mul_right _ hlt'
        rw [Nat.succ_mul] at l2
        rw [sizeLine_eq]
        omega
      · intro b2 u e
        have : b2 ≠ D := fun z => by
          rw [z, g4] at e
          cases e
        rw [upd_ne this]
        exact g2 b2 u e
      · rw [List.take_add_one, f3, List.map_append, ← List.append_assoc]
        exact dpall_snoc (DpAll.up g1 hda3) g5
    · have e : j = zs.length := by omega
      subst e
      refine .inl ⟨⟨zs, sq3, Nat.le_refl _⟩, W3, acc3, t1, t2, hW3, ha3, ?_⟩
      rw [hlz, List.take_length] at hda3
      rw [et]
      exact hda3
  · have e : i = xs.length := by omega
    subst e
    rw [hlen, List.take_length] at hda
    exact .inl ⟨⟨xs, sq, Nat.le_refl _⟩, q H' acc (Same.trn s1 s2) ha (DpAll.up s2 hda)⟩
section
variable (tb : Str → List Row) (sch : List (Str × List Kd)) (K : PySem.W.Frag)
def spCho (n : Nat) : Sp := fun vs H Q _ => ∃ (vq vl : V) (t : Addr) (sc : Sc) (lv : Lv) (srcs : List (Str × List Kd)) (wh : Option (PyData × Sem)) (d1 d4 d5 : PyData), vs = [vq, .ref t, vl] ∧
  Dp K H vq (.tuple [.str "select", d1, .list (srcs.map fun s => .str s.1), optD wh, d4, d5]) ∧ (∀ s ∈ srcs, s ∈ sch) ∧ srcs.length ≤ 3 ∧ (∀ x, wh = some x → ∃ n', n' < n ∧ lv.length + 1 + n' ≤ 1000 ∧ RepE tb sch n' false (srcs.map (·.2) :: sc) x.1 .cond x.2) ∧
  (Dp K H vl (lvD lv) ∨ Dp K H vl (.tuple (lv.map chD))) ∧ TabAt tb sch K H t ∧ Conf sc lv ∧ lv.length ≤ 999 ∧ ∀ a H', NewL K H H' a ((choicesM tb srcs wh lv).map chD) → Q (.ref a) H'
end
theorem lvUp {K : PySem.W.Frag} {H H' : Hp} {vl : V} {lv : Lv} (h : Dp K H vl (lvD lv) ∨ Dp K H vl (.tuple (lv.map chD))) (e : Same H H') : Dp K H' vl (lvD lv) ∨ Dp K H' vl (.tuple (lv.map chD)) := h.imp (Dp.up e) (Dp.up e)
section
variable {tb : Str → List Row} {sch : List (Str × List Kd)} {P : Program} {w : World} {K : PySem.W.Frag} {mg : Str → Option Value} {base : Heap}
/-- list(levels) + [choice] -/
theorem cross_bound (T : TbOk tb sch) {srcs : List (Str × List Kd)} (hs : ∀ s ∈ srcs, s ∈ sch) (hl : srcs.length ≤ 3) (i : Nat) : (cross ((srcs.take i).map fun s => tb s.1)).length ≤ 27 :=
  cross_27 T (fun s h => hs s (List.mem_of_mem_take h)) (by rw [List.length_take]; omega)
theorem ok_plain_choices (T : TbOk tb sch) (Z : Glb mg) (D : DefN K mg "plain_choices" 12) {n : Nat} (c_value_of : C8.Cal P w K mg base (8 * n + 9) "value_of" (spVal tb sch K n) []) :
    C8.Cal P w K mg base (8 * n + 10) "plain_choices" (spCho tb sch K n) [] := by
  have S : FnScope ["select", "tables", "levels", "choices", "name", "choice", "row"] ["select", "tables", "levels"] (C8.fnScope (top 12)) := C8.fnScope_by (by decide +kernel)
  refine cal_of D S (fun _ _ _ _ _ _ us hl => match us, hl with | [_, _, _], _ => rfl) (fun vs H Q E h => ?_) fun fa cdv A outer s H vs Q E hr h => ?_
  · obtain ⟨vq, vl, t, sc, lv, srcs, wh, d1, d4, d5, rfl, _⟩ := h
    rfl
  obtain ⟨vq, vl, t, sc, lv, srcs, wh, d1, d4, d5, rfl, hq, hs, h3, hw, hl, ht, hC, h9, q⟩ := h
  refine ⟨_, (pss_cons (ps_set (i := 3) S.nd rfl (by first | exact .inl rfl | exact .inr rfl) (pe_lst (pa_cons (pe_lst pa_nilA) pa_nilA)))
    (pss_cons (ps_for PassesOwn.never rfl (pi_listK (K := K) (pe_ix (ix_tupK (K := K)) (pv 0) pe_intA (fun _ _ => rfl))) (pg_name (i := 4) S.nd rfl (by first | exact .inl rfl | exact .inr rfl))
      (pss_one (ps_setLc2 (i := 3) (own := [("choice", 5), ("row", 6)]) (g := gName 5) (g1 := gName 6) (vs1 := [6]) (by rfl) S.nd rfl rfl (sw_true rfl rfl rfl (by decide +kernel)) (pi_listK (K := K) (pv 3)) (blkOk_by (own := [("choice", 5), ("row", 6)]) (N := ["select", "tables", "levels", "choices", "name", "choice", "row"]) (sc := C8.fnScope (top 12)) (by decide +kernel)) (by decide) (fun _ _ _ _ _ => pg_name (i := 5) S.nd rfl (Or.inl rfl)) (fun _ _ _ _ _ => pts_nil) (fun _ _ _ _ _ => pi_listK (K := K) (pe_dget (HU hr) (pv 1) (pv 4) (fun _ _ => rfl))) (fun _ _ _ _ _ => pg_name (i := 6) S.nd rfl (Or.inl rfl)) (fun _ _ _ _ _ => pts_nil) (fun _ _ _ _ _ => (pe_op (op_catK (K := K)) (pv 5) (pe_lst (pa_cons (pv 6) pa_nilA)))))))
    (pss_cons (ps_if (pt_cmpR (op_isN) (pe_ix (ix_tupK (K := K)) (pv 0) pe_intA (fun _ _ => rfl)) pe_nonA (nomark _))
      (pss_one (ps_ret (pv 3)))
      pss_nil)
    (pss_one (ps_ret (pe_lc (own := [("choice", 5)]) (g := gName 5) (by rfl) S.nd (pi_listK (K := K) (pv 3)) (blkOk_by (own := [("choice", 5)]) (N := ["select", "tables", "levels", "choices", "name", "choice", "row"]) (sc := C8.fnScope (top 12)) (by decide +kernel)) (fun _ _ _ _ _ => pg_name (i := 5) S.nd rfl (by first | exact .inl rfl | exact .inr rfl)) (fun _ _ _ _ _ => (pts_one (pt_val (C8.pe_c c_value_of hr (by omega) rfl (pa_cons (pe_ix (ix_tupK (K := K)) (pv 0) pe_intA (fun _ _ => rfl)) (pa_cons (pe_op (op_catK (K := K)) (pe_callTy (T := "list") (cr_listOf (K := K)) (by rfl) Z.list (by decide +kernel) (pa_cons (pv 2) pa_nilA)) (pe_lst (pa_cons (pv 5) pa_nilA))) (pa_cons (pv 1) pa_nilA))))))) (fun _ _ _ _ _ => (pv 5)))))))), ?_⟩
  refine ⟨by show 0 ≤ sizeLine; decide, fun p1 hp1 => ⟨by show 1 ≤ sizeLine; decide, fun p2 hp2 => ?_⟩⟩
  have s1 := same_new hp1 (.lst [])
  have s2 := Same.trn s1 (same_new hp2 (.lst [.ref p1]))
  refine ⟨_, rfl, ixT_d 2 (Dp.up s2 hq) rfl fun v hv => ?_⟩
  obtain ⟨na, ns, rfl, hna, hns⟩ := dp_list hv
  have hln : ns.length = srcs.length := by rw [dpall_len hns, List.length_map]
  refine ⟨na, rfl, ⟨_, hna⟩, ?_⟩
  let H0 := upd (upd H p1 (.lst [])) p2 (.lst [.ref p1])
  refine for_list (xs := ns) (fun i σ H' => ∃ a4 ac ys, σ = [some vq, some (.ref t), some vl, some (.ref ac), a4, none, none] ∧ Same H0 H' ∧ H' ac = some (.lst ys) ∧ DpAll K H' ys ((cross ((srcs.take i).map fun s => tb s.1)).map chD))
    ⟨none, p2, _, rfl, Same.rfl', upd_same, ?_⟩ (fun i σ H' _ ⟨_, _, _, _, s3, _⟩ => s3.seq hna) (fun i x σ H' hi ⟨a4, ac, ys, e, s3, hac, hys⟩ => ?_) fun σ H' ⟨a4, ac, ys, e, s3, hac, hys⟩ => ?_
  · exact .cons (Dp.up (same_new hp2 _) (newL_of (ds := []) hp1 .nil).dp) .nil
  · subst e
    obtain ⟨d, f1, f2⟩ := dpall_get2 hns hi
    rw [List.getElem?_map] at f1
    obtain ⟨sr, f3, f4⟩ := Option.map_eq_some_iff.mp f1
    subst f4
    cases dp_str f2
    have hsr : sr ∈ sch := hs sr (List.mem_of_getElem? f3)
    obtain ⟨kvs, t1, t2⟩ := (ht.up s2).up s3
    obtain ⟨tv, t3, t4⟩ := t2 sr hsr
    obtain ⟨ta, tl, rfl, hta, htl⟩ := dp_list t4
    refine ⟨_, rfl, ac, rfl, ⟨_, SqL.of hac⟩, fun DD hDD => ?_⟩
    have hb1 := cross_bound T hs h3 i
    have hb2 := (T sr hsr).1
    refine lc2_dp (as := cross ((srcs.take i).map fun s => tb s.1)) (bs := tb sr.1) (enc := chD) (encB := rowD) (fun c b => chD (c ++ [b])) (SqL.of hac) hys hDD ?_ (fun x => rfl) (fun x z => rfl) (fun x H1 g1 R hR => ?_) (fun c x b z W H1 hc hb hx hz g1 g2 hW hDs Kp hK => ?_) fun H2 ys2 g1 hD2 hys2 => ?_
    · calc _ ≤ 27 * 3 := Nat.mul_le_mul hb1 hb2
        _ ≤ 100000 := by decide
    · refine ⟨_, rfl, _, rfl, t, .ref ta, rfl, ?_, ta, rfl, ⟨_, g1.seq hta⟩, hR ta tl hta htl⟩
      have dg := DGet.k (k := Sum.inr sr.1) (g1 _ _ t1)
      rw [t3] at dg
      exact dg
    · obtain ⟨xa, xl, rfl, k1, k2⟩ := dp_list (Dp.up g1 hx)
      refine ⟨_, rfl, _, rfl, by show 1 ≤ sizeLine; decide, fun p hp => ⟨xa, p, xl, [z], rfl, rfl, (Same.trn g2 (same_new hp _)).seq k1, SqL.of upd_same, ?_, fun p3 hp3 => ?_⟩⟩
      · have l1 := dpall_len k2
        rw [List.length_map] at l1
        have l2 := paired_len (cross_all T (fun s h => hs s (List.mem_of_mem_take h)) c hc)
        rw [List.length_map] at l2
        rw [List.length_take] at l2
        rw [List.length_singleton, sizeLine_eq]
        omega
      · have g3 := Same.trn g2 (same_new hp (.lst [z]))
        have hW3 := same_none g3 hp3
        refine hK _ _ (upd W p3 (.lst (xl ++ [z]))) (same_new hW3 _) (same_upd g3 hp3 _) (Same.trn (same_new hp _) (same_new hp3 _)) ?_ ?_
        · rw [upd_ne (fun z => ?_)]
          · exact hW
          · subst z
            exact hDs (same_none (same_new hp _) hp3)
        · unfold chD
          rw [List.map_append]
          exact snoc_d hW3 k2 (Dp.up g1 hz)
    · refine ⟨_, DD, ys2, rfl, Same.trn s3 g1, hD2, ?_⟩
      have e5 : cross ((srcs.take (i + 1)).map fun s => tb s.1) = (cross ((srcs.take i).map fun s => tb s.1)).flatMap fun c => (tb sr.1).map fun r => c ++ [r] := by
        unfold cross
        rw [List.take_add_one, f3, List.map_append, List.foldl_append]
        rfl
      rw [e5, List.map_flatMap]
      have e6 : (fun c : Ch => (tb sr.1).map fun b => chD (c ++ [b])) = fun a => (((tb sr.1).map fun r => a ++ [r]).map chD) := by
        funext c
        rw [List.map_map]
        rfl
      rw [e6] at hys2
      exact hys2
  · subst e
    rw [hln, List.take_length] at hys
    have s4 := Same.trn s2 s3
    refine ⟨_, rfl, ixT_d 3 (Dp.up s4 hq) rfl fun v hv => ?_⟩
    cases wh with
    | none =>
      cases dp_non hv
      exact ⟨rfl, _, rfl, iteTd rfl ⟨_, rfl, q _ _ ⟨s4, ys, hac, hys⟩⟩⟩
    | some x =>
      obtain ⟨n', hn, h10, e⟩ := hw x rfl
      have hv' : decide (v = V.non) = false := by
        refine decide_eq_false fun z => ?_
        subst z
        obtain ⟨ds, e'⟩ := e.tup
        have hv2 : Dp K _ V.non x.1 := hv
        rw [e'] at hv2
        cases hv2
      refine ⟨rfl, _, rfl, iteFd hv' ?_⟩
      refine ⟨_, rfl, ac, rfl, ⟨_, SqL.of hac⟩, fun DD hDD => ?_⟩
      have hb1 := cross_27 T hs h3
      refine lc_dp (as := cross (srcs.map fun s => tb s.1)) (enc := chD) (fun c => bV (x.2 (lv ++ [c]) [])) chD (SqL.of hac) hys hDD (by omega) (fun c y W H1 hc hy g1 g2 hW hDs Kp Sk hK hS => ?_) fun H2 ys2 g1 hD2 _ hys2 => q _ _ ⟨Same.trn s4 g1, ys2, hD2, hys2⟩
      have s5 := Same.trn s4 (Same.trn g1 g2)
      have cc := conf_push hC (cross_all T hs c hc)
      refine ⟨rfl, _, rfl, ixT_d 3 (Dp.up s5 hq) rfl fun v1 hv1 => ?_⟩
      refine ⟨_, rfl, listOf_d (lvUp hl s5) fun p3 xs3 hp3 hxs3 => ?_⟩
      have g3 := Same.trn (Same.trn g1 g2) (same_new hp3 (.lst xs3))
      refine ⟨_, rfl, by show 1 ≤ sizeLine; decide, fun p4 hp4 => ?_⟩
      have g4 := same_new hp4 (.lst [y])
      refine cat_d (ds := lv.map chD) (es := [chD c]) (Dp.up g4 (newL_of hp3 hxs3).dp) (newL_of hp4 (DpAll.cons (Dp.up g3 hy) .nil)).dp (by rw [List.length_map, List.length_singleton]; omega) fun p5 xs5 ys5 hp5 hx5 hy5 => ?_
      have g5 := Same.trn (same_new hp3 (.lst xs3)) (Same.trn g4 (same_new hp5 (.lst (xs5 ++ ys5))))
      refine ⟨_, rfl, v1, .ref p5, t, x.1, n', _, .cond, x.2, lv ++ [c], rfl, hn, e, Dp.up g5 hv1, ?_, (ht.up s5).up g5, cc, by rw [List.length_append, List.length_singleton]; omega, fun H' g6 => ?_⟩
      · unfold lvD
        rw [List.map_append]
        exact (newL_of hp5 (dpall_app hx5 hy5)).dp
      · have sn := cond_has ((sound T n').1 e _ [] cc fun z => nomatch z)
        have g7 := Same.trn g5 g6
        refine ⟨_, sn, ite2 (fun hb => ⟨_, rfl, hK hb _ _ W Same.rfl' (Same.trn g2 g7) g7 hW (Dp.up g1 hy)⟩) fun hb => hS (Bool.eq_false_iff.mpr hb) _ g7⟩
end
end K23

set_option Elab.async false
set_option linter.all false
set_option maxRecDepth 100000
set_option maxHeartbeats 4000000
/-! K23m: plain_groups. -/
namespace K23
open PySem PySem.Spec PyProof.Rows L2

def spGrp (K : PySem.W.Frag) : Sp := fun vs H Q _ => ∃ (vg vc : V) (cs : List (Nat × Nat)) (chs : List Ch) (scn : List (List Kd)), vs = [vg, vc] ∧ Dp K H vg (optG (some cs)) ∧ Dp K H vc (chsD chs) ∧ cs.length ≤ 4 ∧ chs.length ≤ 27 ∧ (∀ c ∈ chs, ChK scn c) ∧
  (∀ p ∈ cs, ∃ ks k, scn[p.1]? = some ks ∧ ks[p.2]? = some k) ∧ ∀ a H', NewL K H H' a ((groupsM (some cs) chs).map chsD) → Q (.ref a) H'
def kindsM (scn : List (List Kd)) (cs : List (Nat × Nat)) : List Kd := cs.map fun p => (scn[p.1]?.getD [])[p.2]?.getD .num
theorem cell_key {scn : List (List Kd)} {c : Ch} {p : Nat × Nat} (hc : ChK scn c) (h : ∃ ks k, scn[p.1]? = some ks ∧ ks[p.2]? = some k) :
    ∃ r key k, c[p.1]? = some r ∧ r[p.2]? = some key ∧ (c[p.1]?.getD [])[p.2]?.getD (.inl 0) = key ∧ (scn[p.1]?.getD [])[p.2]?.getD .num = k ∧ k ≠ Kd.cond ∧ HasK k (kV key) := by
  obtain ⟨ks, k, h1, h2⟩ := h
  obtain ⟨r, e1, q1⟩ := paired_get hc h1
  obtain ⟨key, e2, q2⟩ := paired_get q1 h2
  exact ⟨r, key, k, e1, e2, by rw [e1, Option.getD_some, e2, Option.getD_some], by rw [h1, Option.getD_some, h2, Option.getD_some], q2.1, q2.2⟩
theorem keyM_kinds {scn : List (List Kd)} {c : Ch} {cs : List (Nat × Nat)} (hc : ChK scn c) (h : ∀ p ∈ cs, ∃ ks k, scn[p.1]? = some ks ∧ ks[p.2]? = some k) : RowK (kindsM scn cs) (keyM cs c) := by
  refine paired_map cs fun p hp => ?_
  obtain ⟨r, key, k, _, _, e3, e4, h1, h2⟩ := cell_key hc (h p hp)
  rw [e3, e4]
  exact ⟨h1, h2⟩
def putA (A : Row → Addr) (k : Row) (p : Addr) : Row → Addr := fun j => if j = k then p else A j
theorem putA_same {A : Row → Addr} {k : Row} {p : Addr} : putA A k p k = p := if_pos rfl
theorem putA_ne {A : Row → Addr} {k j : Row} {p : Addr} (h : j ≠ k) : putA A k p j = A j := if_neg h
def kvsM (ks : List Row) (A : Row → Addr) : List (List Key × V) := ks.map fun k => (k, .ref (A k))
theorem valV_in {A : Row → Addr} {k : Row} : ∀ {ks : List Row}, k ∈ ks → valV (kvsM ks A) k = some (.ref (A k))
  | j :: ks, h => by
    by_cases e : j = k
    · subst e
      exact valV_pos (p := (j, V.ref (A j))) rfl
    · have : valV (kvsM (j :: ks) A) k = valV (kvsM ks A) k := valV_neg (p := (j, V.ref (A j))) e
      rw [this]
      refine valV_in ?_
      rcases List.mem_cons.mp h with z | z
      · exact absurd z.symm e
      · exact z
theorem valV_out {A : Row → Addr} {k : Row} : ∀ {ks : List Row}, k ∉ ks → valV (kvsM ks A) k = none
  | [], _ => rfl
  | j :: ks, h => by
    have e : ¬ j = k := fun z => h (by rw [z]; exact List.mem_cons_self)
    have : valV (kvsM (j :: ks) A) k = valV (kvsM ks A) k := valV_neg (p := (j, V.ref (A j))) e
    rw [this]
    exact valV_out fun z => h (List.mem_cons_of_mem _ z)
/-- the groups while they are made: pre the choices taken -/
def GrpAt (K : PySem.W.Frag) (H H' : Hp) (d : Addr) (cs : List (Nat × Nat)) (pre : List Ch) : Prop := ∃ (ks : List Row) (A : Row → Addr), H d = none ∧ H' d = some (.dT (kvsM ks A)) ∧ ks.Nodup ∧ (∀ k ∈ ks, ∀ j ∈ ks, A k = A j → k = j) ∧
  (∀ k, k ∈ ks ↔ k ∈ pre.map (keyM cs)) ∧ ks.length ≤ pre.length ∧ ∀ k ∈ ks, H (A k) = none ∧ ∃ xs, H' (A k) = some (.lst xs) ∧ DpAll K H xs ((pre.filter fun c => decide (keyM cs c = k)).map chD)
section
variable {tb : Str → List Row} {sch : List (Str × List Kd)} {P : Program} {w : World} {K : PySem.W.Frag} {mg : Str → Option Value} {base : Heap}
theorem upd_keep {H' : Hp} {a b : Addr} {o u : HO} (h : H' b = some u) (ne : b ≠ a) : upd H' a o b = some u := by rw [upd_ne ne]; exact h
theorem ok_plain_groups (Z : Glb mg) (D : DefN K mg "plain_groups" 13) : C8.Cal P w K mg base 1 "plain_groups" (spGrp K) [] := by
  have S : FnScope ["group", "choices", "groups", "choice", "cells", "cell"] ["group", "choices"] (C8.fnScope (top 13)) := C8.fnScope_by (by decide +kernel)
  refine cal_of D S (fun _ _ _ _ _ _ us hl => match us, hl with | [_, _], _ => rfl) (fun vs H Q E h => ?_) fun fa cdv A0 outer s H vs Q E hr h => ?_
  · obtain ⟨vg, vc, cs, chs, scn, rfl, _⟩ := h
    rfl
  obtain ⟨vg, vc, cs, chs, scn, rfl, hg, hc, h4, h27, hch, hcs, q⟩ := h
  refine ⟨_, (pss_cons (ps_set (i := 2) S.nd rfl (by first | exact .inl rfl | exact .inr rfl) pe_dnewT)
    (pss_cons (ps_for PassesOwn.never rfl (pi_listK (K := K) (pv 1)) (pg_name (i := 3) S.nd rfl (by first | exact .inl rfl | exact .inr rfl))
      (pss_cons (ps_set (i := 4) S.nd rfl (by first | exact .inl rfl | exact .inr rfl) (pe_callTy (T := "tuple") (cr_tupOf (K := K)) (by rfl) Z.tuple (by decide +kernel) (pa_cons (pe_lc (own := [("cell", 5)]) (g := gName 5) (by rfl) S.nd (pi_listK (K := K) (pv 0)) (blkOk_by (own := [("cell", 5)]) (N := ["group", "choices", "groups", "choice", "cells", "cell"]) (sc := C8.fnScope (top 13)) (by decide +kernel)) (fun _ _ _ _ _ => pg_name (i := 5) S.nd rfl (by first | exact .inl rfl | exact .inr rfl)) (fun _ _ _ _ _ => pts_nil) (fun _ _ _ _ _ => (pe_ix (ix_tupK (K := K)) (pe_ix (ix_listK (K := K)) (pv 3) (pe_ix (ix_tupK (K := K)) (pv 5) pe_intA (fun _ _ => rfl)) (fun _ _ => rfl)) (pe_ix (ix_tupK (K := K)) (pv 5) pe_intA (fun _ _ => rfl)) (fun _ _ => rfl)))) pa_nilA)))
    (pss_one (ps_expr (pe_bm PySem.F.plainAttrs_list PySem.F.slot_list_append PySem.F.type_list_append mt_append (pe_dsetT (HU hr) (pv 2) (pv 4) (pe_lst pa_nilA) ⟨rfl, rfl, rfl, rfl⟩) (pa_cons (pv 3) pa_nilA))))))
    (pss_one (ps_ret (pe_lc (own := [("cells", 4)]) (g := gName 4) (by rfl) S.nd (pi_listK (K := K) (pe_callB (id := "sorted") (cr_sortT rfl (HU hr)) (by rfl) Z.sorted (by decide +kernel) (pa_cons (pv 2) pa_nilA))) (blkOk_by (own := [("cells", 4)]) (N := ["group", "choices", "groups", "choice", "cells", "cell"]) (sc := C8.fnScope (top 13)) (by decide +kernel)) (fun _ _ _ _ _ => pg_name (i := 4) S.nd rfl (by first | exact .inl rfl | exact .inr rfl)) (fun _ _ _ _ _ => pts_nil) (fun _ _ _ _ _ => (pe_dget (HU hr) (pv 2) (pv 4) (fun _ _ => rfl)))))))), ?_⟩
  refine fun d hd => ?_
  have s0 := same_new hd (.dT [])
  obtain ⟨ca, cl, rfl, hca, hcl⟩ := dp_list hc
  have hlen : cl.length = chs.length := by rw [dpall_len hcl, List.length_map]
  refine ⟨_, rfl, ca, rfl, ⟨_, s0.seq hca⟩, ?_⟩
  refine for_list (xs := cl) (fun i σ H' => ∃ a3 a4, σ = [some vg, some (.ref ca), some (.ref d), a3, a4, none] ∧ Same H H' ∧ GrpAt K H H' d cs (chs.take i))
    ⟨none, none, rfl, s0, [], fun _ => 0, hd, upd_same, .nil, (fun k hk => nomatch hk), (fun k => by simp), Nat.le_refl _, fun k hk => nomatch hk⟩ (fun i σ H' _ ⟨_, _, _, s3, _⟩ => s3.seq hca) (fun i x σ H' hi ⟨a3, a4, e, s3, G⟩ => ?_) fun σ H' ⟨a3, a4, e, s3, G⟩ => ?_
  · subst e
    obtain ⟨dd, f1, f2⟩ := dpall_get2 hcl hi
    rw [List.getElem?_map] at f1
    obtain ⟨c, f3, f4⟩ := Option.map_eq_some_iff.mp f1
    subst f4
    have hcK : ChK scn c := hch c (List.mem_of_getElem? f3)
    have et : chs.take (i + 1) = chs.take i ++ [c] := by
      rw [List.take_add_one, f3]
      rfl
    have hi27 : (chs.take i).length ≤ 27 := by rw [List.length_take]; omega
    obtain ⟨ga, gl, rfl, hga, hgl⟩ := dp_list hg
    refine ⟨_, rfl, ga, rfl, ⟨_, s3.seq hga⟩, fun DD hDD => ?_⟩
    refine lc_dp (as := cs) (enc := fun p => cellD 0 p.1 p.2) (fun _ => true) (fun p => keyD ((c[p.1]?.getD [])[p.2]?.getD (.inl 0))) (s3.seq hga) (DpAll.up s3 hgl) hDD ?_ (fun p y W H1 hp hy g1 g2 hW hDs Kp Sk hK _ => ?_) fun H2 ys g1 hD2 _ hys => ?_
    · omega
    · obtain ⟨r, key, k, e1, e2, e3, _⟩ := cell_key hcK (hcs p hp)
      have g3 := Same.trn s3 (Same.trn g1 g2)
      refine ⟨rfl, _, rfl, _, rfl, ixT_d 2 (Dp.up (Same.trn g1 g2) hy) rfl fun v1 hv1 => ?_⟩
      cases dp_int hv1
      refine ixL_d p.1 (d := rowD r) (Dp.up g3 f2) (by rw [List.getElem?_map, e1]; rfl) fun v2 hv2 => ?_
      refine ⟨_, rfl, ixT_d 3 (Dp.up (Same.trn g1 g2) hy) rfl fun v3 hv3 => ?_⟩
      cases dp_int hv3
      refine ixT_d p.2 (d := keyD key) hv2 (by rw [List.getElem?_map, e2]; rfl) fun v4 hv4 => ?_
      rw [dp_key hv4]
      refine hK rfl _ _ W Same.rfl' g2 Same.rfl' hW ?_
      rw [e3]
      exact key_dp _
    · have hys2 : ys = (keyM cs c).map kV := by
        refine dpall_keys (r := keyM cs c) (K := K) (H := H2) ?_
        rw [List.filter_eq_self.mpr fun _ _ => rfl] at hys
        unfold keyM
        rw [List.map_map]
        exact hys
      subst hys2
      refine ⟨DD, _, rfl, .inl ⟨SqL.of hD2, fun l hl => ?_⟩⟩
      have g2 : Same H' (upd H2 l (.tup ((keyM cs c).map kV))) := Same.trn g1 (same_new hl _)
      obtain ⟨ks, A, k0, k1, k2, k3, k4, k5, k6⟩ := G
      refine ⟨_, rfl, d, rfl, .inr ⟨_, .inl (g2 _ _ k1)⟩, _, rfl, by show 0 ≤ sizeLine; decide, fun p hp => ?_⟩
      have g3 := Same.trn g2 (same_new hp (.lst []))
      have lk : upd (upd H2 l (.tup ((keyM cs c).map kV))) p (.lst []) l = some (.tup ((keyM cs c).map kV)) := same_new hp _ _ _ upd_same
      have kz : (kvsM ks A).length < sizeLine := by
        unfold kvsM
        rw [List.length_map, sizeLine_eq]
        omega
      refine ⟨kvsM ks A, keyM cs c, l, g3 _ _ k1, rfl, lk, kz, fun v hv => ?_, fun hn => ?_⟩
      · -- the key is there
        have hk : keyM cs c ∈ ks := Classical.byContradiction fun z => by
          rw [valV_out z] at hv
          cases hv
        rw [valV_in hk] at hv
        cases hv
        obtain ⟨a1, xs, a2, a3⟩ := k6 _ hk
        have b1 := g3 _ _ a2
        have hxs : xs.length ≤ 27 := by
          have l1 := dpall_len a3
          rw [List.length_map] at l1
          have l2 := List.length_filter_le (fun c' => decide (keyM cs c' = keyM cs c)) (chs.take i)
          omega
        have dne : d ≠ A (keyM cs c) := ne_of (g3 _ _ k1) b1 (fun z => nomatch z)
        have s6 : Same H (upd (upd (upd H2 l (.tup ((keyM cs c).map kV))) p (.lst [])) (A (keyM cs c)) (.lst (xs ++ [x]))) := fun b u e => by
          rw [upd_ne (ne_of_none e a1)]
          exact (Same.trn s3 g3) b u e
        refine ⟨.inl ⟨rfl, _, SqL.of b1⟩, _, rfl, _, xs, x, rfl, rfl, b1, by rw [sizeLine_eq]; omega, _, _, rfl, s6, ?_⟩
        refine ⟨ks, A, k0, upd_keep (g3 _ _ k1) dne, k2, k3, fun j => ?_, by rw [et, List.length_append]; omega, fun j hj => ⟨(k6 j hj).1, ?_⟩⟩
        · rw [et, List.map_append, List.mem_append, ← k4 j]
          constructor
          · exact .inl
          · rintro (z | z)
            · exact z
            · rw [List.mem_singleton.mp z]
              exact hk
        · rw [et, List.filter_append]
          by_cases ej : keyM cs c = j
          · subst ej
            refine ⟨xs ++ [x], upd_same, ?_⟩
            rw [List.map_append]
            refine dpall_app a3 ?_
            rw [List.filter_cons_of_pos (by simp)]
            exact .cons f2 .nil
          · obtain ⟨_, xs', c2, c3⟩ := k6 j hj
            refine ⟨xs', upd_keep (g3 _ _ c2) (fun z => ej (k3 _ hk _ hj z.symm)), ?_⟩
            rw [List.filter_cons_of_neg (by simpa using ej), List.filter_nil, List.append_nil]
            exact c3
      · have hk : keyM cs c ∉ ks := fun z => by
          rw [valV_in z] at hn
          cases hn
        have hpH2 : H2 p = none := same_none (same_new hl _) hp
        have hpH : H p = none := same_none (Same.trn s3 g1) hpH2
        have pne : p ≠ d := fun z => by
          rw [z, g1 _ _ k1] at hpH2
          cases hpH2
        have b1 : upd (upd (upd H2 l (.tup ((keyM cs c).map kV))) p (.lst [])) d (.dT (putK (kvsM ks A) (keyM cs c) (.ref p))) p = some (.lst []) := by
          rw [upd_ne pne]
          exact upd_same
        have s6 : Same H (upd (upd (upd (upd H2 l (.tup ((keyM cs c).map kV))) p (.lst [])) d (.dT (putK (kvsM ks A) (keyM cs c) (.ref p)))) p (.lst ([] ++ [x]))) := fun b u e => by
          rw [upd_ne (ne_of_none e hpH), upd_ne (ne_of_none e k0)]
          exact (Same.trn s3 g3) b u e
        refine ⟨.inl ⟨rfl, _, SqL.of b1⟩, _, rfl, p, [], x, rfl, rfl, b1, by show 0 < sizeLine; decide, _, _, rfl, s6, ?_⟩
        have eA : putK (kvsM ks A) (keyM cs c) (.ref p) = kvsM (ks ++ [keyM cs c]) (putA A (keyM cs c) p) := by
          rw [putK_new _ hn]
          unfold kvsM
          rw [List.map_append, List.map_cons, List.map_nil, putA_same]
          refine congrArg (· ++ _) (List.map_congr_left fun j hj => ?_)
          rw [putA_ne fun z => hk (by rw [← z]; exact hj)]
        have old : ∀ {b : Addr} {u : HO}, H' b = some u → b ≠ d → upd (upd (upd (upd H2 l (.tup ((keyM cs c).map kV))) p (.lst [])) d (.dT (putK (kvsM ks A) (keyM cs c) (.ref p)))) p (.lst ([] ++ [x])) b = some u := fun {b u} e ne => by
          have e2 := g1 _ _ e
          rw [upd_ne (ne_of_none e2 hpH2), upd_ne ne]
          exact g3 _ _ e
        refine ⟨ks ++ [keyM cs c], putA A (keyM cs c) p, k0, ?_, ?_, fun j hj j' hj' e => ?_, fun j => ?_, by rw [et, List.length_append, List.length_append]; rw [List.length_singleton, List.length_singleton]; omega, fun j hj => ?_⟩
        · rw [upd_ne (Ne.symm pne), upd_same, eA]
        · exact List.nodup_append.mpr ⟨k2, by simp, fun a ha b hb => by rw [List.mem_singleton.mp hb]; exact fun z => hk (by rw [← z]; exact ha)⟩
        · have pA : ∀ j ∈ ks, A j ≠ p := fun j hj z => by
            obtain ⟨_, xs', c2, _⟩ := k6 j hj
            have := g1 _ _ c2
            rw [z, hpH2] at this
            cases this
          have inK : ∀ {j : Row}, j ∈ ks ++ [keyM cs c] → j ≠ keyM cs c → j ∈ ks := fun {j} h z => (List.mem_append.mp h).elim id fun y => absurd (List.mem_singleton.mp y) z
          by_cases y1 : j = keyM cs c
          · by_cases y2 : j' = keyM cs c
            · rw [y1, y2]
            · rw [y1, putA_same, putA_ne y2] at e
              exact absurd e.symm (pA j' (inK hj' y2))
          · by_cases y2 : j' = keyM cs c
            · rw [y2, putA_same, putA_ne y1] at e
              exact absurd e (pA j (inK hj y1))
            · rw [putA_ne y1, putA_ne y2] at e
              exact k3 _ (inK hj y1) _ (inK hj' y2) e
        · rw [et, List.map_append, List.mem_append, List.mem_append, k4 j, List.map_cons, List.map_nil]
        · rw [et, List.filter_append]
          by_cases y1 : j = keyM cs c
          · subst y1
            rw [putA_same]
            refine ⟨hpH, [] ++ [x], upd_same, ?_⟩
            have e0 : (chs.take i).filter (fun c' => decide (keyM cs c' = keyM cs c)) = [] := by
              rw [List.filter_eq_nil_iff]
              intro c' h' z
              exact hk ((k4 _).mpr (List.mem_map.mpr ⟨c', h', of_decide_eq_true z⟩))
            rw [e0, List.nil_append, List.filter_cons_of_pos (by simp)]
            exact .cons f2 .nil
          · have hj2 : j ∈ ks := (List.mem_append.mp hj).elim id fun y => absurd (List.mem_singleton.mp y) y1
            rw [putA_ne y1]
            obtain ⟨c1, xs', c2, c3⟩ := k6 j hj2
            refine ⟨c1, xs', old c2 (ne_of c2 k1 fun z => nomatch z), ?_⟩
            rw [List.filter_cons_of_neg (by simpa using fun z => y1 z.symm), List.filter_nil, List.append_nil]
            exact c3
  · subst e
    rw [hlen, List.take_length] at G
    obtain ⟨ks, A, k0, k1, k2, k3, k4, k5, k6⟩ := G
    have emap : (kvsM ks A).map (·.1) = ks := by
      unfold kvsM
      rw [List.map_map]
      exact List.map_id'' (fun _ => rfl) ks
    have rk : ∀ k ∈ ks, RowK (kindsM scn cs) k := fun k hk => by
      obtain ⟨c, hc2, e2⟩ := List.mem_map.mp ((k4 k).mp hk)
      rw [← e2]
      exact keyM_kinds (hch c hc2) hcs
    have lk : (kvsM ks A).length = ks.length := by
      unfold kvsM
      rw [List.length_map]
    refine ⟨_, rfl, d, kvsM ks A, kindsM scn cs, rfl, k1, fun p hp => ?_, ?_, by rw [emap]; exact k2, by omega, fun L' p h1 h2 hp => ?_⟩
    · obtain ⟨k, hk, rfl⟩ := List.mem_map.mp hp
      exact rk k hk
    · by_cases z : cs = []
      · right
        rw [lk]
        refine nodup_nil k2 fun k hk => ?_
        obtain ⟨c, _, e2⟩ := List.mem_map.mp ((k4 k).mp hk)
        rw [← e2, z]
        rfl
      · left
        exact fun y => z (List.map_eq_nil_iff.mp y)
    · rw [emap] at h2
      have g1 := same_new hp (.lst (L'.map fun q => V.ref q.1))
      refine ⟨p, rfl, ⟨_, SqL.of upd_same⟩, fun DD hDD => ?_⟩
      have inks : ∀ q ∈ L', q.2 ∈ ks := fun q hq => by
        have : q.2 ∈ L'.map (·.2) := List.mem_map.mpr ⟨q, hq, rfl⟩
        rw [h2, mem_sortR] at this
        exact this
      have lL : L'.length ≤ 27 := by
        have l1 := sortR_len ks
        rw [← h2, List.length_map] at l1
        omega
      refine lc_gen (as := L') (Rel := fun q x => x = .ref q.1) (fun _ => true) (fun q => chsD (chs.filter fun c => decide (keyM cs c = q.2))) (SqL.of upd_same) (by rw [List.length_map]) (fun i q x e1 e2 => ?_) hDD (by omega) (fun q x W H1 hq hx g2 g3 hW _ Kp Sk hK _ => ?_) fun H2 ys g2 hD2 _ hys => ?_
      · rw [List.getElem?_map, e1] at e2
        cases e2
        rfl
      · subst hx
        have g4 := Same.trn g1 (Same.trn g2 g3)
        have hk := inks q hq
        obtain ⟨_, xs, c2, c3⟩ := k6 _ hk
        refine ⟨rfl, _, rfl, _, rfl, d, .ref (A q.2), rfl, ?_, ?_⟩
        · have dg := DGet.t (g4 _ _ k1) (g4 _ _ (h1 q hq))
          rw [valV_in hk] at dg
          exact dg
        · exact hK rfl _ _ W Same.rfl' g3 Same.rfl' hW (.lst (SqL.of (Same.trn g1 g2 _ _ c2)) (DpAll.up (Same.trn s3 (Same.trn g1 g2)) c3))
      · refine q _ _ ⟨Same.trn s3 (Same.trn g1 g2), ys, hD2, ?_⟩
        rw [List.filter_eq_self.mpr fun _ _ => rfl] at hys
        have e3 : (L'.map fun q => chsD (chs.filter fun c => decide (keyM cs c = q.2))) = (groupsM (some cs) chs).map chsD := by
          unfold groupsM
          rw [List.map_map]
          have e4 : sortR (chs.map (keyM cs)) = L'.map (·.2) := by
            rw [h2]
            exact up_ext (up_sortR _) (up_sortR _) fun y => by rw [mem_sortR, mem_sortR, k4]
          rw [e4, List.map_map]
          rfl
        rw [← e3]
        exact hys
end
end K23

set_option Elab.async false
set_option linter.all false
set_option maxRecDepth 100000
set_option maxHeartbeats 4000000
/-! K23n: plain_select, plain_answer; the induction over the depth. -/
namespace K23
open PySem PySem.Spec PyProof.Rows L2

theorem if_use {tc : TT} {t u : TS} {D : Ends} {σ : L2.St} {H : Hp} (b : Bool) (h : ∀ Q : Bool → Hp → Prop, (∀ H5, Same H H5 → Q b H5) → tc σ H Q) (k : ∀ H5, Same H H5 → if b = true then t D σ H5 else u D σ H5) : tIfS tc t u D σ H := h _ k
/-! ### rows as data: equality, shape -/
theorem rows_eqvAll : ∀ a b : Row, PyData.eqvAll (a.map keyD) (b.map keyD) = decide (a = b)
  | [], [] => by simp [PyData.eqvAll]
  | [], _ :: _ => by simp [PyData.eqvAll]
  | _ :: _, [] => by simp [PyData.eqvAll]
  | x :: a, y :: b => by
    simp only [List.map_cons, PyData.eqvAll]
    rw [key_eqv, rows_eqvAll a b, Bool.eq_iff_iff]
    simp
theorem row_eqv (a b : Row) : PyData.eqv (rowD a) (rowD b) = decide (a = b) := by
  unfold rowD
  simp only [PyData.eqv]
  exact rows_eqvAll a b
theorem any_eqv (r : Row) (l : List Row) : ((l.map rowD).any fun z => PyData.eqv z (rowD r)) = memR r l := by
  unfold memR
  rw [List.any_map]
  refine congrArg (l.any ·) (funext fun y => ?_)
  show PyData.eqv (rowD y) (rowD r) = _
  rw [row_eqv, Bool.eq_iff_iff]
  simp only [decide_eq_true_eq]
  exact eq_comm
theorem key_lay {k : Kd} {a : Key} (hk : k ≠ .cond) (h : HasK k (kV a)) : (keyD a).canLay0 = true := by
  cases a with
  | inl i => simp [keyD, PyData.canLay0]
  | inr x =>
    cases k with
    | num => exact h.elim
    | cond => exact absurd rfl hk
    | txt =>
      obtain ⟨h1, h2⟩ : TxOk x := h
      simp only [keyD, PyData.canLay0]
      show x.cps.all (· < 0x110000) = true
      rw [Array.all_eq_true_iff_forall_mem]
      intro c hc
      have := h2 c (Array.mem_toList_iff.mpr hc)
      exact decide_eq_true (by omega)
theorem row_layAll : ∀ {ks : List Kd} {r : Row}, RowK ks r → PyData.canLayAll0 (r.map keyD) = true
  | _, _, .nil => by simp [PyData.canLayAll0]
  | _, _, .cons h t => by
    simp only [List.map_cons, PyData.canLayAll0, Bool.and_eq_true]
    exact ⟨key_lay h.1 h.2, row_layAll t⟩
theorem row_lay {ks : List Kd} {r : Row} (h : RowK ks r) : (rowD r).canLay0 = true := by
  unfold rowD
  simp only [PyData.canLay0]
  exact row_layAll h
theorem row_shaped {ks : List Kd} {r : Row} (h : RowK ks r) : SeqAt.shaped (rowD r) = true := by
  show ((rowD r).canLay0 && decide ((rowD r).depth ≤ 64)) = true
  rw [Bool.and_eq_true]
  exact ⟨row_lay h, decide_eq_true (by rw [depth_row]; decide)⟩
theorem rows_layAll {ks : List Kd} : ∀ {l : List Row}, (∀ r ∈ l, RowK ks r) → PyData.canLayAll0 (l.map rowD) = true ∧ PyData.depthAll (l.map rowD) ≤ 1
  | [], _ => by simp [PyData.canLayAll0, PyData.depthAll]
  | r :: l, h => by
    obtain ⟨h1, h2⟩ := rows_layAll fun x hx => h x (List.mem_cons_of_mem _ hx)
    have h3 := row_lay (h r List.mem_cons_self)
    have h4 := depth_row r
    simp only [List.map_cons, PyData.canLayAll0, PyData.depthAll, Bool.and_eq_true]
    exact ⟨⟨h3, h1⟩, by omega⟩
theorem rows_shaped {ks : List Kd} {l : List Row} (h : ∀ r ∈ l, RowK ks r) : SeqAt.shaped (.list (l.map rowD)) = true := by
  obtain ⟨h1, h2⟩ := rows_layAll h
  show (PyData.canLay0 (.list (l.map rowD)) && decide (PyData.depth (.list (l.map rowD)) ≤ 64)) = true
  rw [Bool.and_eq_true]
  refine ⟨by simp only [PyData.canLay0]; exact h1, decide_eq_true ?_⟩
  simp only [PyData.depth]
  omega
/-! ### a select's parts -/
structure SelAt (tb : Str → List Row) (sch : List (Str × List Kd)) (n : Nat) (sc : Sc) (items : List (PyData × Kd × Sem)) (srcs : List (Str × List Kd)) (wh : Option (PyData × Sem)) (grp : Option (List (Nat × Nat))) (hav : Option (PyData × Sem)) : Prop where
  hs : ∀ s ∈ srcs, s ∈ sch
  hl : srcs.length ≤ 3
  hne : items ≠ []
  hil : items.length ≤ 100
  hik : ∀ x ∈ items, x.2.1 ≠ Kd.cond
  hi : ∀ x ∈ items, RepE tb sch n true (srcs.map (·.2) :: sc) x.1 x.2.1 x.2.2
  hw : ∀ x, wh = some x → RepE tb sch n false (srcs.map (·.2) :: sc) x.1 .cond x.2
  hg : ∀ cs, grp = some cs → cs.length ≤ 4 ∧ ∀ p ∈ cs, ∃ ks k, (srcs.map (·.2))[p.1]? = some ks ∧ ks[p.2]? = some k
  hh : ∀ x, hav = some x → RepE tb sch n true (srcs.map (·.2) :: sc) x.1 .cond x.2
def selD (items : List (PyData × Kd × Sem)) (srcs : List (Str × List Kd)) (wh : Option (PyData × Sem)) (grp : Option (List (Nat × Nat))) (hav : Option (PyData × Sem)) : PyData :=
  .tuple [.str "select", .list (items.map (·.1)), .list (srcs.map fun s => .str s.1), optD wh, optG grp, optD hav]
section
variable (tb : Str → List Row) (sch : List (Str × List Kd)) (K : PySem.W.Frag)
def spSel (n : Nat) : Sp := fun vs H Q _ => ∃ (vq vl : V) (t : Addr) (n' : Nat) (sc : Sc) (items : List (PyData × Kd × Sem)) (srcs : List (Str × List Kd)) (wh : Option (PyData × Sem)) (grp : Option (List (Nat × Nat))) (hav : Option (PyData × Sem)) (lv : Lv), vs = [vq, .ref t, vl] ∧ n' < n ∧
  SelAt tb sch n' sc items srcs wh grp hav ∧ Dp K H vq (selD items srcs wh grp hav) ∧ (Dp K H vl (lvD lv) ∨ Dp K H vl (.tuple (lv.map chD))) ∧ TabAt tb sch K H t ∧ Conf sc lv ∧ lv.length + 1 + n' ≤ 1000 ∧ ∀ a H', NewL K H H' a ((selM tb items srcs wh grp hav lv).map rowD) → Q (.ref a) H'
end
section
variable {tb : Str → List Row} {sch : List (Str × List Kd)} {P : Program} {w : World} {K : PySem.W.Frag} {mg : Str → Option Value} {base : Heap}
theorem ok_plain_select (T : TbOk tb sch) (Z : Glb mg) (D : DefN K mg "plain_select" 14) {n : Nat} (c_plain_choices : C8.Cal P w K mg base (8 * n + 10) "plain_choices" (spCho tb sch K n) []) (c_plain_groups : C8.Cal P w K mg base 1 "plain_groups" (spGrp K) [])
    (c_group_value : C8.Cal P w K mg base (8 * n + 8) "group_value" (spGV tb sch K n) []) : C8.Cal P w K mg base (8 * n + 11) "plain_select" (spSel tb sch K n) [] := by
  have S : FnScope ["select", "tables", "levels", "choices", "rows", "members", "groups", "inner", "choice", "e"] ["select", "tables", "levels"] (C8.fnScope (top 14)) := C8.fnScope_by (by decide +kernel)
  refine cal_of D S (fun _ _ _ _ _ _ us hl => match us, hl with | [_, _, _], _ => rfl) (fun vs H Q E h => ?_) fun fa cdv A outer s H vs Q E hr h => ?_
  · obtain ⟨vq, vl, t, n', sc, items, srcs, wh, grp, hav, lv, rfl, _⟩ := h
    rfl
  obtain ⟨vq, vl, t, n', sc, items, srcs, wh, grp, hav, lv, rfl, hn, Y, hq, hl, ht, hC, h9, q⟩ := h
  refine ⟨_, (pss_cons (ps_set (i := 3) S.nd rfl (by first | exact .inl rfl | exact .inr rfl) (C8.pe_c c_plain_choices hr (by omega) rfl (pa_cons (pv 0) (pa_cons (pv 1) (pa_cons (pv 2) pa_nilA)))))
    (C8.pss_cut (ps_if (pt_cmpR (op_isN) (pe_ix (ix_tupK (K := K)) (pv 0) pe_intA (fun _ _ => rfl)) pe_nonA (nomark _))
      (pss_one (ps_setLc (i := 6) (own := [("choice", 8)]) (g := gName 8) (by rfl) S.nd rfl rfl (sw_true rfl rfl rfl (by decide +kernel)) (pi_listK (K := K) (pv 3)) (blkOk_by (own := [("choice", 8)]) (N := ["select", "tables", "levels", "choices", "rows", "members", "groups", "inner", "choice", "e"]) (sc := C8.fnScope (top 14)) (by decide +kernel)) (fun _ _ _ _ _ => pg_name (i := 8) S.nd rfl (by first | exact .inl rfl | exact .inr rfl)) (fun _ _ _ _ _ => pts_nil) (fun _ _ _ _ _ => (pe_lst (pa_cons (pv 8) pa_nilA)))))
      (pss_one (ps_set (i := 6) S.nd rfl (by first | exact .inl rfl | exact .inr rfl) (C8.pe_c c_plain_groups hr (by omega) rfl (pa_cons (pe_ix (ix_tupK (K := K)) (pv 0) pe_intA (fun _ _ => rfl)) (pa_cons (pv 3) pa_nilA))))))
    (pss_cons (ps_set (i := 4) S.nd rfl (by first | exact .inl rfl | exact .inr rfl) (pe_lst pa_nilA))
    (pss_cons (ps_for PassesOwn.never rfl (pi_listK (K := K) (pv 6)) (pg_name (i := 5) S.nd rfl (by first | exact .inl rfl | exact .inr rfl))
      (pss_cons (ps_set (i := 7) S.nd rfl (by first | exact .inl rfl | exact .inr rfl) (pe_op (op_catK (K := K)) (pe_callTy (T := "list") (cr_listOf (K := K)) (by rfl) Z.list (by decide +kernel) (pa_cons (pv 2) pa_nilA)) (pe_lst (pa_cons (pe_ix (ix_listK (K := K)) (pv 5) pe_intA (fun _ _ => rfl)) pa_nilA))))
    (pss_one (ps_if (PW.pt (pw_or (pt_cmpR (op_isN) (pe_ix (ix_tupK (K := K)) (pv 0) pe_intA (fun _ _ => rfl)) pe_nonA (nomark _)) (pw_or1 (pt_val (C8.pe_c c_group_value hr (by omega) rfl (pa_cons (pe_ix (ix_tupK (K := K)) (pv 0) pe_intA (fun _ _ => rfl)) (pa_cons (pv 5) (pa_cons (pv 7) (pa_cons (pv 1) pa_nilA)))))))))
      (pss_one (ps_expr (pe_bm PySem.F.plainAttrs_list PySem.F.slot_list_append PySem.F.type_list_append mt_append (pv 4) (pa_cons (pe_callTy (T := "tuple") (cr_tupOf (K := K)) (by rfl) Z.tuple (by decide +kernel) (pa_cons (pe_lc (own := [("e", 9)]) (g := gName 9) (by rfl) S.nd (pi_listK (K := K) (pe_ix (ix_tupK (K := K)) (pv 0) pe_intA (fun _ _ => rfl))) (blkOk_by (own := [("e", 9)]) (N := ["select", "tables", "levels", "choices", "rows", "members", "groups", "inner", "choice", "e"]) (sc := C8.fnScope (top 14)) (by decide +kernel)) (fun _ _ _ _ _ => pg_name (i := 9) S.nd rfl (by first | exact .inl rfl | exact .inr rfl)) (fun _ _ _ _ _ => pts_nil) (fun _ _ _ _ _ => (C8.pe_c c_group_value hr (by omega) rfl (pa_cons (pv 9) (pa_cons (pv 5) (pa_cons (pv 7) (pa_cons (pv 1) pa_nilA))))))) pa_nilA)) pa_nilA))))
      pss_nil))))
    (pss_one (ps_ret (pe_callB (id := "sorted") (cr_sortS rfl (HU hr)) (by rfl) Z.sorted (by decide +kernel) (pa_cons (pe_callTy (T := "set") (cr_setD rfl (HU hr)) (by rfl) Z.set (by decide +kernel) (pa_cons (pv 4) pa_nilA)) pa_nilA)))))))), ?_⟩
  -- choices
  refine ⟨_, rfl, _, rfl, _, rfl, vq, vl, t, sc, lv, srcs, wh, _, _, _, rfl, hq, Y.hs, Y.hl, (fun x hx => ⟨n', hn, by omega, Y.hw x hx⟩), hl, ht, hC, by omega, fun ca H1 N1 => ?_⟩
  have s1 := N1.1
  -- groups
  refine ⟨fun σ' H' => ∃ ga, σ' = [some vq, some (.ref t), some vl, some (.ref ca), none, none, some (.ref ga), none, none, none] ∧ Same H H' ∧ Dp K H' (.ref ga) (.list ((groupsM grp (choicesM tb srcs wh lv)).map chsD)), ?_, fun σ' H2 ⟨ga, e, s2, hgr⟩ => ?_⟩
  · refine ⟨_, rfl, ixT_d 4 (Dp.up s1 hq) rfl fun v hv => ?_⟩
    have hb27 := choices_27 T Y.hs Y.hl wh lv
    obtain ⟨ca', cl, e0, hca, hcl⟩ := dp_list N1.dp
    cases e0
    cases grp with
    | none =>
      cases dp_non hv
      refine ⟨rfl, _, rfl, iteTd rfl ⟨_, rfl, ca, rfl, ⟨_, hca⟩, fun DD hDD => ?_⟩⟩
      refine lc_dp (as := choicesM tb srcs wh lv) (enc := chD) (fun _ => true) (fun c => chsD [c]) hca hcl hDD (by omega) (fun c y W H3 hc hy g1 g2 hW hDs Kp Sk hK _ => ?_) fun H3 ys g1 hD2 _ hys => ?_
      · refine ⟨rfl, _, rfl, by show 1 ≤ sizeLine; decide, fun p hp => ?_⟩
        have hWp := same_none g2 hp
        refine hK rfl _ _ (upd W p (.lst [y])) (same_new hWp _) (same_upd g2 hp _) (same_new hp _) ?_ (newL_of hWp (DpAll.cons (Dp.up g1 hy) .nil)).dp
        rw [upd_ne (fun z => ?_)]
        · exact hW
        · subst z
          exact hDs hp
      · refine ⟨DD, rfl, Same.trn s1 g1, ?_⟩
        rw [List.filter_eq_self.mpr fun _ _ => rfl] at hys
        unfold groupsM
        rw [List.map_map]
        exact .lst (SqL.of hD2) hys
    | some cs =>
      have hv' : decide (v = V.non) = false := by
        refine decide_eq_false fun z => ?_
        subst z
        cases (show Dp K _ V.non (.list _) from hv)
      refine ⟨rfl, _, rfl, iteFd hv' ?_⟩
      refine ⟨_, rfl, ixT_d 4 (Dp.up s1 hq) rfl fun v hv => ⟨_, rfl, _, _, cs, choicesM tb srcs wh lv, srcs.map (·.2), rfl, hv, N1.dp, (Y.hg cs rfl).1, hb27, choices_all T Y.hs wh lv, (Y.hg cs rfl).2, fun ga H2 N2 => ?_⟩⟩
      exact ⟨ga, rfl, Same.trn s1 N2.1, N2.dp⟩
  · subst e
    refine ⟨by show 0 ≤ sizeLine; decide, fun ra hra => ?_⟩
    -- the loop over the groups
    obtain ⟨ga', gl, e0, hga, hgl⟩ := dp_list hgr
    cases e0
    have s3 := Same.trn s2 (same_new hra (.lst []))
    have hgl2 : gl.length = (groupsM grp (choicesM tb srcs wh lv)).length := by rw [dpall_len hgl, List.length_map]
    have hg27 : (groupsM grp (choicesM tb srcs wh lv)).length ≤ 27 := Nat.le_trans (groups_len _ _) (choices_27 T Y.hs Y.hl wh lv)
    refine ⟨_, rfl, ga, rfl, ⟨_, (same_new hra _).seq hga⟩, ?_⟩
    refine for_list (xs := gl) (fun i σ H' => ∃ a5 a7, σ = [some vq, some (.ref t), some vl, some (.ref ca), some (.ref ra), a5, some (.ref ga), a7, none, none] ∧ ∃ W acc, Same H2 W ∧ Same W H' ∧ W ra = none ∧ H' ra = some (.lst acc) ∧
        DpAll K W acc ((((groupsM grp (choicesM tb srcs wh lv)).take i).filter (havM hav lv)).map fun ms => rowD (rowM items lv ms)))
      ⟨none, none, rfl, H2, [], Same.rfl', same_new hra _, hra, upd_same, .nil⟩ (fun i σ H' _ ⟨_, _, _, W, acc, g1, g2, _⟩ => (Same.trn g1 g2).seq hga) (fun i x σ H' hi ⟨a5, a7, e, W, acc, g1, g2, hW, hra2, hacc⟩ => ?_) fun σ H' ⟨a5, a7, e, W, acc, g1, g2, hW, hra2, hacc⟩ => ?_
    · subst e
      obtain ⟨dd, f1, f2⟩ := dpall_get2 hgl hi
      rw [List.getElem?_map] at f1
      obtain ⟨ms, f3, f4⟩ := Option.map_eq_some_iff.mp f1
      subst f4
      have hmem := List.mem_of_getElem? f3
      obtain ⟨M, CC⟩ := groups_Mem T Y.hs Y.hl hmem hC
      have hne := M.1
      have et : (groupsM grp (choicesM tb srcs wh lv)).take (i + 1) = (groupsM grp (choicesM tb srcs wh lv)).take i ++ [ms] := by
        rw [List.take_add_one, f3]
        rfl
      have s4 := Same.trn s2 (Same.trn g1 g2)
      have g12 := Same.trn g1 g2
      refine ⟨_, rfl, listOf_d (lvUp hl s4) fun p1 xs1 hp1 hxs1 => ⟨_, rfl, ixL_d 0 (d := chD (headC ms)) (Dp.up (Same.trn g12 (same_new hp1 _)) f2) (by cases ms with | nil => exact absurd rfl hne | cons a l => rfl) fun v hv => ⟨by show 1 ≤ sizeLine; decide, fun p2 hp2 => ?_⟩⟩⟩
      have u2 := same_new hp2 (.lst [v])
      refine cat_d (ds := lv.map chD) (es := [chD (headC ms)]) (Dp.up u2 (newL_of hp1 hxs1).dp) (newL_of hp2 (DpAll.cons hv .nil)).dp (by rw [List.length_map, List.length_singleton]; omega) fun p3 xs3 ys3 hp3 hx3 hy3 => ?_
      have u3 := Same.trn (same_new hp1 (.lst xs1)) (Same.trn u2 (same_new hp3 (.lst (xs3 ++ ys3))))
      have inner : Dp K (upd (upd (upd H' p1 (.lst xs1)) p2 (.lst [v])) p3 (.lst (xs3 ++ ys3))) (.ref p3) (lvD (lv ++ [headC ms])) := by
        unfold lvD
        rw [List.map_append]
        exact (newL_of hp3 (dpall_app hx3 hy3)).dp
      have lvl : (lv ++ [headC ms]).length + n' ≤ 1000 := by
        rw [List.length_append, List.length_singleton]
        omega
      have s5 := Same.trn s4 u3
      have g5 := Same.trn g12 u3
      -- a call of group_value in this turn
      have gv : ∀ {d : PyData} {k : Kd} {f : Sem} {v0 : V} {Q2 : VK} {H6 : Hp}, RepE tb sch n' true (srcs.map (·.2) :: sc) d k f → Same (upd (upd (upd H' p1 (.lst xs1)) p2 (.lst [v])) p3 (.lst (xs3 ++ ys3))) H6 → Dp K H6 v0 d → (∀ H7, Same H6 H7 → Q2 (f (lv ++ [headC ms]) ms) H7) →
          spGV tb sch K n [v0, x, .ref p3, .ref t] H6 Q2 C8.E0 := fun {d k f v0 Q2 H6} e k1 hd hq2 =>
        ⟨v0, x, .ref p3, t, d, n', true, _, k, f, lv ++ [headC ms], ms, rfl, hn, e, hd, Dp.up (Same.trn g5 k1) f2, Dp.up k1 inner, (ht.up s5).up k1, CC, lvl, fun _ => M, hq2⟩
      dsimp only [gName]
      refine if_use (havM hav lv ms) (fun Q2 hQ2 => ?_) fun H5 s6 => ?_
      · refine ⟨_, rfl, ixT_d 5 (Dp.up s5 hq) rfl fun v1 hv1 => ⟨rfl, _, rfl, ?_⟩⟩
        cases hav with
        | none =>
          cases dp_non hv1
          exact iteTd rfl (hQ2 _ Same.rfl')
        | some hx =>
          have e := Y.hh hx rfl
          have hv' : decide (v1 = V.non) = false := by
            refine decide_eq_false fun z => ?_
            subst z
            obtain ⟨ds, e'⟩ := e.tup
            have hv2 : Dp K _ V.non hx.1 := hv1
            rw [e'] at hv2
            cases hv2
          refine iteFd hv' ⟨_, rfl, ixT_d 5 (Dp.up s5 hq) rfl fun v2 hv2 => ⟨_, rfl, _, rfl, _, rfl, gv e Same.rfl' hv2 fun H7 k7 => ⟨_, cond_has ((sound T n').1 e _ ms CC fun _ => M), hQ2 _ k7⟩⟩⟩
      · have s7 := Same.trn s5 s6
        have hra5 : H5 ra = some (.lst acc) := s6 _ _ (u3 _ _ hra2)
        have gW5 : Same W H5 := Same.trn g2 (Same.trn u3 s6)
        refine ite2 (fun hb => ?_) (fun hb => ?_)
        · refine ⟨_, rfl, .inl ⟨rfl, _, SqL.of hra5⟩, _, rfl, ixT_d 1 (Dp.up s7 hq) rfl fun v1 hv1 => ?_⟩
          obtain ⟨ia, il, rfl, hia, hilv⟩ := dp_list hv1
          refine ⟨ia, rfl, ⟨_, hia⟩, fun DD hDD => ?_⟩
          have h100 := Y.hil
          refine lc_dp (as := items) (enc := (·.1)) (fun _ => true) (fun it => keyD (keyOf (it.2.2 (lv ++ [headC ms]) ms))) hia hilv hDD (by omega) (fun it y W6 H6 hit hy k1 k2 hW6 _ Kp Sk hK _ => ?_) fun H7 ys k1 hD7 _ hys => ?_
          · refine ⟨rfl, _, rfl, _, rfl, _, rfl, _, rfl, gv (Y.hi it hit) (Same.trn s6 (Same.trn k1 k2)) (Dp.up (Same.trn k1 k2) hy) fun H7 k7 => ?_⟩
            refine hK rfl _ _ W6 Same.rfl' (Same.trn k2 k7) k7 hW6 ?_
            have sn := (sound T n').1 (Y.hi it hit) _ ms CC fun _ => M
            have e1 := key_dp (K := K) (H := W6) (keyOf (it.2.2 (lv ++ [headC ms]) ms))
            rw [kV_keyOf sn (Y.hik it hit)] at e1
            exact e1
          · have hys2 : ys = (rowM items lv ms).map kV := by
              refine dpall_keys (r := rowM items lv ms) (K := K) (H := H7) ?_
              rw [List.filter_eq_self.mpr fun _ _ => rfl] at hys
              unfold rowM
              rw [List.map_map]
              exact hys
            subst hys2
            refine ⟨DD, _, rfl, .inl ⟨SqL.of hD7, fun l hl => ?_⟩⟩
            have hra7 := k1 _ _ hra5
            have rne : ra ≠ l := fun z => by
              rw [← z, hra7] at hl
              cases hl
            have gW7 := Same.trn gW5 k1
            have hWl := same_none gW7 hl
            have hlacc : acc.length ≤ 27 := by
              have l1 := dpall_len hacc
              rw [List.length_map] at l1
              have l2 := List.length_filter_le (havM hav lv) ((groupsM grp (choicesM tb srcs wh lv)).take i)
              rw [List.length_take] at l2
              omega
            refine ⟨ra, acc, .ref l, rfl, rfl, by rw [upd_ne rne]; exact hra7, by rw [sizeLine_eq]; omega, _, _, rfl, upd W l (.tup ((rowM items lv ms).map kV)), acc ++ [.ref l], Same.trn g1 (same_new hWl _), fun b u e => ?_, by rw [upd_ne rne]; exact hW, upd_same, ?_⟩
            · have bne : b ≠ ra := fun z => by
                rw [z, upd_ne rne, hW] at e
                cases e
              rw [upd_ne bne]
              exact same_upd gW7 hl _ b u e
            · rw [et, List.filter_append, List.map_append, List.filter_cons_of_pos hb, List.filter_nil]
              exact dpall_snoc (DpAll.up (same_new hWl _) hacc) (row_dp (.inl (.inl upd_same)))
        · refine ⟨_, _, rfl, W, acc, g1, gW5, hW, hra5, ?_⟩
          rw [et, List.filter_append, List.filter_cons_of_neg hb, List.filter_nil, List.append_nil]
          exact hacc
    · subst e
      rw [hgl2, List.take_length] at hacc
      have s4 := Same.trn s2 (Same.trn g1 g2)
      refine ⟨_, rfl, ss_use (((groupsM grp (choicesM tb srcs wh lv)).filter (havM hav lv)).map (rowM items lv)) (items.map (·.2.1)) ?_ (fun r hr => ?_) ?_ fun a H9 N => q _ _ ⟨Same.trn s4 N.1, N.2⟩⟩
      · unfold rowsD
        rw [List.map_map]
        exact .lst (SqL.of hra2) (DpAll.up g2 hacc)
      · obtain ⟨ms, hms, rfl⟩ := List.mem_map.mp hr
        obtain ⟨M, CC⟩ := groups_Mem T Y.hs Y.hl (List.mem_filter.mp hms).1 hC
        refine paired_map items fun x hx => ⟨Y.hik x hx, ?_⟩
        have q := (sound T n').1 (Y.hi x hx) _ ms CC fun _ => M
        rw [kV_keyOf q (Y.hik x hx)]
        exact q
      · rw [List.length_map]
        have := List.length_filter_le (havM hav lv) (groupsM grp (choicesM tb srcs wh lv))
        omega
end
end K23

set_option Elab.async false
set_option linter.all false
set_option maxRecDepth 100000
set_option maxHeartbeats 4000000
/-! K23o: plain_answer; the induction over the depth. -/
namespace K23
open PySem PySem.Spec PyProof.Rows L2

/-- plain_answer, whose last parameter has a default: the empty tuple at T0 -/
structure AnsN (K : PySem.W.Frag) (mg : Str → Option Value) (i : Nat) (T0 : Addr) : Prop where
  ex : ∃ f fd, C8.Def K mg "plain_answer" (top i) f fd ∧ FunD K "plain_answer" "plain_answer" (C8.fnArgs (top i)) (C8.fnBody (top i)) (C8.fnScope (top i)) [.ref T0] [] f fd
  tup : ∃ (o : Obj) (its : Array Value) (n : Nat), K.lookup T0 = some o ∧ o.cls = .type "tuple" ∧ o.data = .seq its n ∧ its.size ≤ sizeLine ∧ Vals [] its.toList
section
variable {tb : Str → List Row} {sch : List (Str × List Kd)} {P : Program} {w : World} {K : PySem.W.Frag} {mg : Str → Option Value} {base : Heap} {T0 : Addr}
theorem ans_binds3 (D : AnsN K mg 15 T0) : ∃ f fd, C8.Def K mg "plain_answer" (top 15) f fd ∧ Binds K fd ["question", "tables", "levels"] [] ∧ ∃ ds, Vals [.ref T0] ds ∧ Binds K fd ["question", "tables", "levels"] ds := by
  obtain ⟨f, fd, F, G⟩ := D.ex
  refine ⟨f, fd, F, ?_, ?_⟩
  · obtain ⟨ds, h1, h2⟩ := G.binds1 (ps := ["question", "tables", "levels"]) 3 1 (by simp) rfl fun T kV doc pm an cdv ct us its hu hi => match us, hu, its, hi with | [_, _, _], _, [_], _ => ⟨_, rfl, rfl⟩
    cases h1
    exact h2
  · exact G.binds1 (ps := ["question", "tables", "levels"]) 2 0 (by simp) rfl fun T kV doc pm an cdv ct us its hu hi => match us, hu, its, hi with | [_, _], _, [_], _ => ⟨_, rfl, rfl⟩
theorem ok_plain_answer (T : TbOk tb sch) (Z : Glb mg) {f : Addr} {fd : FuncData} {ds : List Value} {dvs : List V} (F : C8.Def K mg "plain_answer" (top 15) f fd) (hb : Binds K fd ["question", "tables", "levels"] ds) (hd : Vals dvs ds) {n : Nat}
    (c_plain_select : C8.Cal P w K mg base (8 * n + 11) "plain_select" (spSel tb sch K n) []) (c_plain_answer : C8.Cal P w K mg base (8 * n + 4) "plain_answer" (spAns tb sch K n) []) :
    C8.Cal P w K mg base (8 * n + 11 + 1) "plain_answer" (spAns tb sch K (n + 1)) dvs := by
  have S : FnScope ["question", "tables", "levels", "left", "right", "row"] ["question", "tables", "levels"] (C8.fnScope (top 15)) := C8.fnScope_by (by decide +kernel)
  refine C8.cal0 F hb hd S (fun vs H Q E h => ?_) fun cdv A outer s H vs Q E hr h => ?_
  · obtain ⟨vq, vl, t, d, n', m, sc, ks, q, lv, rfl, _⟩ := h
    rfl
  obtain ⟨vq, vl, t, d, n', m, sc, ks, q, lv, rfl, hn, e, hq, hl, ht, hC, h9, hQ⟩ := h
  refine ⟨_, (pss_cons (ps_if (pt_eqS (pe_ix (ix_tupK (K := K)) (pv 0) pe_intA (fun _ _ => rfl)))
      (pss_one (ps_ret (C8.pe_c c_plain_select hr (by omega) rfl (pa_cons (pv 0) (pa_cons (pv 1) (pa_cons (pv 2) pa_nilA))))))
      pss_nil)
    (pss_cons (ps_set (i := 3) S.nd rfl (by first | exact .inl rfl | exact .inr rfl) (C8.pe_c c_plain_answer hr (by omega) rfl (pa_cons (pe_ix (ix_tupK (K := K)) (pv 0) pe_intA (fun _ _ => rfl)) (pa_cons (pv 1) (pa_cons (pv 2) pa_nilA)))))
    (pss_cons (ps_set (i := 4) S.nd rfl (by first | exact .inl rfl | exact .inr rfl) (C8.pe_c c_plain_answer hr (by omega) rfl (pa_cons (pe_ix (ix_tupK (K := K)) (pv 0) pe_intA (fun _ _ => rfl)) (pa_cons (pv 1) (pa_cons (pv 2) pa_nilA)))))
    (pss_cons (ps_if (pt_eqS (pe_ix (ix_tupK (K := K)) (pv 0) pe_intA (fun _ _ => rfl)))
      (pss_one (ps_ret (pe_callB (id := "sorted") (cr_sortS rfl (HU hr)) (by rfl) Z.sorted (by decide +kernel) (pa_cons (pe_callTy (T := "set") (cr_setD rfl (HU hr)) (by rfl) Z.set (by decide +kernel) (pa_cons (pe_op (op_catK (K := K)) (pv 3) (pv 4)) pa_nilA)) pa_nilA))))
      pss_nil)
    (pss_cons (ps_if (pt_eqS (pe_ix (ix_tupK (K := K)) (pv 0) pe_intA (fun _ _ => rfl)))
      (pss_one (ps_ret (pe_lc (own := [("row", 5)]) (g := gName 5) (by rfl) S.nd (pi_listK (K := K) (pv 3)) (blkOk_by (own := [("row", 5)]) (N := ["question", "tables", "levels", "left", "right", "row"]) (sc := C8.fnScope (top 15)) (by decide +kernel)) (fun _ _ _ _ _ => pg_name (i := 5) S.nd rfl (by first | exact .inl rfl | exact .inr rfl)) (fun _ _ _ _ _ => (pts_one (pt_cmpR (op_notInDK (K := K) (HU hr)) (pv 5) (pv 4) (by with_unfolding_all rfl)))) (fun _ _ _ _ _ => (pv 5)))))
      pss_nil)
    (pss_one (ps_ret (pe_lc (own := [("row", 5)]) (g := gName 5) (by rfl) S.nd (pi_listK (K := K) (pv 3)) (blkOk_by (own := [("row", 5)]) (N := ["question", "tables", "levels", "left", "right", "row"]) (sc := C8.fnScope (top 15)) (by decide +kernel)) (fun _ _ _ _ _ => pg_name (i := 5) S.nd rfl (by first | exact .inl rfl | exact .inr rfl)) (fun _ _ _ _ _ => (pts_one (pt_cmpR (op_inDK (K := K) (HU hr)) (pv 5) (pv 4) (by with_unfolding_all rfl)))) (fun _ _ _ _ _ => (pv 5)))))))))), ?_⟩
  have part : ∀ {n2 m2 : Nat} {d2 : PyData} {q2 : Lv → List Row} {v : V} {Q2 : VK} {H2 : Hp}, n2 < n' → RepQ tb sch n2 m2 sc d2 ks q2 → Same H H2 → Dp K H2 v d2 → (∀ a H', NewL K H2 H' a ((q2 lv).map rowD) → Q2 (.ref a) H') → spAns tb sch K n [v, .ref t, vl] H2 Q2 C8.E0 := fun {n2 m2 d2 q2 v Q2 H2} hn2 e2 s2 hv k2 =>
    ⟨v, vl, t, d2, n2, m2, sc, ks, q2, lv, rfl, by omega, e2, hv, lvUp hl s2, ht.up s2, hC, by omega, k2⟩
  have snd : ∀ {n2 m2 : Nat} {d2 : PyData} {q2 : Lv → List Row}, RepQ tb sch n2 m2 sc d2 ks q2 → (∀ r ∈ q2 lv, RowK ks r) ∧ (q2 lv).length ≤ 27 * m2 := fun {n2 m2 d2 q2} e2 => (sound T n2).2 e2 lv hC
  cases e with
  | sel items srcs wh grp hav h hm hs hl2 hne hil hik hi hw hg hh =>
    refine ⟨_, rfl, ixT_d 0 hq rfl fun v hv => ?_⟩
    cases dp_str hv
    refine ⟨_, rfl, iteTd rfl ⟨_, rfl, _, rfl, _, rfl, vq, vl, t, _, sc, items, srcs, wh, grp, hav, lv, rfl, by omega, ⟨hs, hl2, hne, hil, hik, hi, hw, hg, hh⟩, hq, hl, ht, hC, by omega, hQ⟩⟩
  | uni h hm h11 e1 e2 =>
    refine ⟨_, rfl, ixT_d 0 hq rfl fun v hv => ?_⟩
    cases dp_str hv
    refine ⟨_, rfl, iteFd rfl ⟨_, rfl, ixT_d 1 hq rfl fun v1 hv1 => ⟨_, rfl, _, rfl, part h e1 Same.rfl' hv1 fun a1 H1 N1 => ?_⟩⟩⟩
    refine ⟨_, rfl, ixT_d 2 (Dp.up N1.1 hq) rfl fun v2 hv2 => ⟨_, rfl, _, rfl, part h e2 N1.1 hv2 fun a2 H2 N2 => ?_⟩⟩
    have s2 := Same.trn N1.1 N2.1
    refine ⟨_, rfl, ixT_d 0 (Dp.up s2 hq) rfl fun v hv => ?_⟩
    cases dp_str hv
    have b1 := snd e1
    have b2 := snd e2
    refine ⟨_, rfl, iteTd rfl ⟨_, rfl, _, rfl, cat_d (Dp.up N2.1 N1.dp) N2.dp (by rw [List.length_map, List.length_map]; omega) fun p xs ys hp hxs hys => ?_⟩⟩
    refine ss_use (_ ++ _) ks ?_ (fun r hr => (List.mem_append.mp hr).elim (b1.1 r) (b2.1 r)) (by rw [List.length_append]; omega) fun a H9 N => hQ _ _ ⟨Same.trn s2 (Same.trn (same_new hp _) N.1), N.2⟩
    unfold rowsD
    rw [List.map_append]
    exact (newL_of hp (dpall_app hxs hys)).dp
  | exc h hm h11 e1 e2 =>
    refine ⟨_, rfl, ixT_d 0 hq rfl fun v hv => ?_⟩
    cases dp_str hv
    refine ⟨_, rfl, iteFd rfl ⟨_, rfl, ixT_d 1 hq rfl fun v1 hv1 => ⟨_, rfl, _, rfl, part h e1 Same.rfl' hv1 fun a1 H1 N1 => ?_⟩⟩⟩
    refine ⟨_, rfl, ixT_d 2 (Dp.up N1.1 hq) rfl fun v2 hv2 => ⟨_, rfl, _, rfl, part h e2 N1.1 hv2 fun a2 H2 N2 => ?_⟩⟩
    have s2 := Same.trn N1.1 N2.1
    refine ⟨_, rfl, ixT_d 0 (Dp.up s2 hq) rfl fun v hv => ?_⟩
    cases dp_str hv
    refine ⟨_, rfl, iteFd rfl ⟨_, rfl, ixT_d 0 (Dp.up s2 hq) rfl fun v hv => ?_⟩⟩
    cases dp_str hv
    have b1 := snd e1
    have b2 := snd e2
    obtain ⟨la, ll, e0, hla, hll⟩ := dp_list (Dp.up N2.1 N1.dp)
    cases e0
    refine ⟨_, rfl, iteTd rfl ⟨_, rfl, a1, rfl, ⟨_, hla⟩, fun DD hDD => ?_⟩⟩
    refine lc_dp (enc := rowD) (fun r => !memR r _) rowD hla hll hDD (by omega) (fun r y W H3 hr hy g1 g2 hW _ Kp Sk hK hS => ?_) fun H3 ys g1 hD2 _ hys => hQ _ _ ⟨Same.trn s2 g1, ys, hD2, hys⟩
    refine ⟨rfl, _, rfl, _, rfl, rowD r, _, Dp.up (Same.trn g1 g2) hy, Dp.up (Same.trn g1 g2) N2.dp, row_shaped (b1.1 r hr), rows_shaped b2.1, _, rfl, ?_⟩
    rw [any_eqv]
    exact ite2 (fun hb => ⟨_, rfl, hK hb _ _ W Same.rfl' g2 Same.rfl' hW (Dp.up g1 hy)⟩) fun hb => hS (Bool.eq_false_iff.mpr hb) _ Same.rfl'
  | int h hm h11 e1 e2 =>
    refine ⟨_, rfl, ixT_d 0 hq rfl fun v hv => ?_⟩
    cases dp_str hv
    refine ⟨_, rfl, iteFd rfl ⟨_, rfl, ixT_d 1 hq rfl fun v1 hv1 => ⟨_, rfl, _, rfl, part h e1 Same.rfl' hv1 fun a1 H1 N1 => ?_⟩⟩⟩
    refine ⟨_, rfl, ixT_d 2 (Dp.up N1.1 hq) rfl fun v2 hv2 => ⟨_, rfl, _, rfl, part h e2 N1.1 hv2 fun a2 H2 N2 => ?_⟩⟩
    have s2 := Same.trn N1.1 N2.1
    refine ⟨_, rfl, ixT_d 0 (Dp.up s2 hq) rfl fun v hv => ?_⟩
    cases dp_str hv
    refine ⟨_, rfl, iteFd rfl ⟨_, rfl, ixT_d 0 (Dp.up s2 hq) rfl fun v hv => ?_⟩⟩
    cases dp_str hv
    have b1 := snd e1
    have b2 := snd e2
    obtain ⟨la, ll, e0, hla, hll⟩ := dp_list (Dp.up N2.1 N1.dp)
    cases e0
    refine ⟨_, rfl, iteFd rfl ⟨_, rfl, a1, rfl, ⟨_, hla⟩, fun DD hDD => ?_⟩⟩
    refine lc_dp (enc := rowD) (fun r => memR r _) rowD hla hll hDD (by omega) (fun r y W H3 hr hy g1 g2 hW _ Kp Sk hK hS => ?_) fun H3 ys g1 hD2 _ hys => hQ _ _ ⟨Same.trn s2 g1, ys, hD2, hys⟩
    refine ⟨rfl, _, rfl, _, rfl, rowD r, _, Dp.up (Same.trn g1 g2) hy, Dp.up (Same.trn g1 g2) N2.dp, row_shaped (b1.1 r hr), rows_shaped b2.1, _, rfl, ?_⟩
    rw [any_eqv]
    exact ite2 (fun hb => ⟨_, rfl, hK hb _ _ W Same.rfl' g2 Same.rfl' hW (Dp.up g1 hy)⟩) fun hb => hS (Bool.eq_false_iff.mpr hb) _ Same.rfl'
end
end K23

set_option Elab.async false
set_option linter.all false
set_option maxRecDepth 100000
set_option maxHeartbeats 4000000
/-! K23p: the program's evaluator, all depths. -/
namespace K23
open PySem PySem.Spec PyProof.Rows L2

/-- the program's defs as they stand -/
structure PDefs (K : PySem.W.Frag) (mg : Str → Option Value) (T0 : Addr) : Prop where
  Z : Glb mg
  wrap : DefN K mg "wrap" 2
  quotient : DefN K mg "quotient" 3
  remainder : DefN K mg "remainder" 4
  arithmetic : DefN K mg "arithmetic" 6
  compared : DefN K mg "compared" 7
  operator_value : DefN K mg "operator_value" 8
  gathered : DefN K mg "gathered" 9
  group_value : DefN K mg "group_value" 10
  value_of : DefN K mg "value_of" 11
  plain_choices : DefN K mg "plain_choices" 12
  plain_groups : DefN K mg "plain_groups" 13
  plain_select : DefN K mg "plain_select" 14
  plain_answer : AnsN K mg 15 T0
section
variable {tb : Str → List Row} {sch : List (Str × List Kd)} {P : Program} {w : World} {K : PySem.W.Frag} {mg : Str → Option Value} {base : Heap} {T0 : Addr}
theorem none_body {X : Cx} {b : List Stmt} {D : Ends} {σ : L2.St} {H : Hp} (h : False) : ∃ t, PSs X b t ∧ t D σ H := h.elim
theorem prog_all (T : TbOk tb sch) (Y : PDefs K mg T0) : ∀ n : Nat, C8.Cal P w K mg base (8 * n + 8) "group_value" (spGV tb sch K n) [] ∧ C8.Cal P w K mg base (8 * n + 4) "plain_answer" (spAns tb sch K n) [] ∧ C8.Cal P w K mg base (8 * n + 4) "plain_answer" (spAns tb sch K n) [.ref T0]
  | 0 => by
    obtain ⟨f, fd, F, b3, ds, hd, b2⟩ := ans_binds3 Y.plain_answer
    refine ⟨?_, ?_, ?_⟩
    · refine cal_of (k := 7) Y.group_value (N := ["e", "choices", "levels", "tables", "op", "x"]) (ps := ["e", "choices", "levels", "tables"]) (C8.fnScope_by (by decide +kernel)) (fun _ _ _ _ _ _ us hl => match us, hl with | [_, _, _, _], _ => rfl) (fun vs H Q E h => ?_) fun fa cdv A outer s H vs Q E hr h => none_body ?_
      · obtain ⟨ve, vc, vl, t, d, n', g, sc, k, f, lv, ms, rfl, _⟩ := h
        rfl
      · obtain ⟨ve, vc, vl, t, d, n', g, sc, k, f, lv, ms, rfl, hn, _⟩ := h
        omega
    · refine C8.cal0 (k := 3) F b3 .nil (N := ["question", "tables", "levels", "left", "right", "row"]) (C8.fnScope_by (by decide +kernel)) (fun vs H Q E h => ?_) fun cdv A outer s H vs Q E hr h => none_body ?_
      · obtain ⟨vq, vl, t, d, n', m, sc, ks, q, lv, rfl, _⟩ := h
        rfl
      · obtain ⟨vq, vl, t, d, n', m, sc, ks, q, lv, rfl, hn, _⟩ := h
        omega
    · refine C8.cal0 (k := 3) F b2 hd (N := ["question", "tables", "levels", "left", "right", "row"]) (C8.fnScope_by (by decide +kernel)) (fun vs H Q E h => ?_) fun cdv A outer s H vs Q E hr h => none_body ?_
      · obtain ⟨vq, vl, t, d, n', m, sc, ks, q, lv, rfl, _⟩ := h
        rfl
      · obtain ⟨vq, vl, t, d, n', m, sc, ks, q, lv, rfl, hn, _⟩ := h
        omega
  | n + 1 => by
    obtain ⟨ih1, ih2, _⟩ := prog_all T Y n
    obtain ⟨f, fd, F, b3, ds, hd, b2⟩ := ans_binds3 Y.plain_answer
    have w1 := ok_wrap (P := P) (w := w) (base := base) Y.Z Y.wrap
    have q2 := ok_quotient Y.Z Y.quotient w1
    have r1 := ok_remainder (P := P) (w := w) (base := base) Y.Z Y.remainder
    have a3 := ok_arithmetic Y.Z Y.arithmetic w1 q2 r1
    have c1 := ok_compared (P := P) (w := w) (base := base) Y.Z Y.compared
    have o4 := ok_opv Y.Z Y.operator_value a3 c1
    have g9 := ok_gathered T Y.Z Y.gathered w1 ih1
    have gv := ok_group_value T Y.Z Y.group_value w1 o4 ih1 g9 ih2
    have v9 := ok_value_of Y.Z Y.value_of ih1
    have c10 := ok_plain_choices T Y.Z Y.plain_choices v9
    have g1 := ok_plain_groups (P := P) (w := w) (base := base) Y.Z Y.plain_groups
    have s11 := ok_plain_select T Y.Z Y.plain_select c10 g1 ih1
    exact ⟨gv, ok_plain_answer T Y.Z F b3 .nil s11 ih2, ok_plain_answer T Y.Z F b2 hd s11 ih2⟩
end
end K23

set_option Elab.async false
set_option linter.all false
set_option maxRecDepth 100000
set_option maxHeartbeats 4000000
/-! K23q: the law's small defs: wrap, divided, pair. -/
namespace K23
open PySem PySem.Spec PyProof.Rows L2

section
variable {P : Program} {w : World} {K : PySem.W.Frag} {mg : Str → Option Value} {base : Heap}
theorem pow18 : ((10 : Int) ^ (18 : Int).toNat) = big := by decide
theorem cpow18 : CPow 10 18 := by
  unfold CPow
  decide
theorem ok_law_wrap (Z : Glb mg) (D : DefN K mg "_law_wrap" 32) : C8.Cal P w K mg base 1 "_law_wrap" spWrap [] := by
  have S : FnScope ["_law_n"] ["_law_n"] (C8.fnScope (top 32)) := C8.fnScope_by (by decide +kernel)
  refine cal_of D S (fun _ _ _ _ _ _ us hl => match us, hl with | [_], _ => rfl) (fun vs H Q E h => ?_) fun f cdv A outer s H vs Q E hr h => ?_
  · obtain ⟨n, rfl, _⟩ := h
    rfl
  obtain ⟨n, rfl, q⟩ := h
  refine ⟨_, (pss_one (ps_ret (pe_op (op_sub) (pe_op (op_mod) (pe_callTy (T := "int") (cr_int1) (by rfl) Z.int (by decide +kernel) (pa_cons (pe_op (op_add) (pv 0) (pe_op (op_pow) pe_intA pe_intA)) pa_nilA)) (pe_op (op_add) (pe_op (op_mul) pe_intA (pe_op (op_pow) pe_intA pe_intA)) pe_intA)) (pe_op (op_pow) pe_intA pe_intA)))), ?_⟩
  refine ⟨_, rfl, _, _, rfl, rfl, cpow18, _, _, rfl, rfl, .inl ⟨_, rfl, _, _, rfl, rfl, cpow18, _, _, rfl, rfl, .inl ⟨by decide, by decide⟩, _, _, rfl, rfl, _, _, rfl, rfl, (by decide : (0 : Int) < 2 * (10 : Int) ^ (18 : Int).toNat + 1), _, _, rfl, rfl, cpow18, _, _, rfl, rfl, ?_⟩⟩
  have q' := q
  unfold wrapI at q'
  rw [← pow18] at q'
  exact q'
def spDiv : Sp := fun vs H Q _ => ∃ (o : Ar) (x y : Int), vs = [.str o.nm, .int x, .int y] ∧ (o = .div ∨ o = .mod) ∧ y.natAbs < 2 ^ 64 ∧ ∀ H', Same H H' → Q (.int (arI o x y)) H'
theorem ok_law_divided (Z : Glb mg) (D : DefN K mg "_law_divided" 33) (c__law_wrap : C8.Cal P w K mg base 1 "_law_wrap" spWrap []) : C8.Cal P w K mg base 2 "_law_divided" spDiv [] := by
  have S : FnScope ["_law_op", "_law_x", "_law_y"] ["_law_op", "_law_x", "_law_y"] (C8.fnScope (top 33)) := C8.fnScope_by (by decide +kernel)
  refine cal_of D S (fun _ _ _ _ _ _ us hl => match us, hl with | [_, _, _], _ => rfl) (fun vs H Q E h => ?_) fun f cdv A outer s H vs Q E hr h => ?_
  · obtain ⟨o, x, y, rfl, _⟩ := h
    rfl
  obtain ⟨o, x, y, rfl, ho, hy, q⟩ := h
  refine ⟨_, (pss_cons (ps_if (pt_cmpR (op_eq) (pv 2) pe_intA (nomark _))
      (pss_one (ps_ret (pe_ix (ix_listK (K := K)) (pe_lst (pa_cons pe_intA (pa_cons (pv 1) pa_nilA))) (pe_callTy (T := "int") (cr_int1) (by rfl) Z.int (by decide +kernel) (pa_cons (pe_eqS (pv 0)) pa_nilA)) (fun _ _ => rfl))))
      pss_nil)
    (pss_cons (ps_if (pt_eqS (pv 0))
      (pss_one (ps_ret (pe_op (op_sub) (pv 1) (pe_op (op_mul) (pv 2) (pe_op (op_fdivB) (pv 1) (pv 2))))))
      pss_nil)
    (pss_one (ps_ret (C8.pe_c c__law_wrap hr (by omega) rfl (pa_cons (pe_op (op_fdivB) (pv 1) (pv 2)) pa_nilA)))))), ?_⟩
  refine ⟨_, rfl, rfl, _, rfl, ?_⟩
  refine ite2 (fun c => ?_) (fun c => ?_)
  · have c' : V.int y = V.int 0 := of_decide_eq_true c
    cases c'
    rcases ho with rfl | rfl
    · exact ⟨_, rfl, by show 2 ≤ sizeLine; decide, fun p hp => ⟨_, rfl, _, rfl, .inr ⟨_, rfl, p, _, _, _, rfl, rfl, SqL.of upd_same, rfl, q _ (same_new hp _)⟩⟩⟩
    · exact ⟨_, rfl, by show 2 ≤ sizeLine; decide, fun p hp => ⟨_, rfl, _, rfl, .inr ⟨_, rfl, p, _, _, _, rfl, rfl, SqL.of upd_same, rfl, q _ (same_new hp _)⟩⟩⟩
  · have c' : y ≠ 0 := fun z => c (by rw [z]; exact decide_eq_true rfl)
    have h2 : (2 : Nat) ^ 64 = 18446744073709551616 := by decide
    rcases ho with rfl | rfl
    · have e : arI .div x y = wrapI (x.fdiv y) := by
        show (if y = 0 then 0 else wrapI (x.fdiv y)) = _
        rw [if_neg c']
      rw [e] at q
      exact ⟨_, rfl, _, rfl, iteFd rfl ⟨_, rfl, _, rfl, _, _, rfl, rfl, ⟨c', hy⟩, _, rfl, q _ Same.rfl'⟩⟩
    · have e : arI .mod x y = x - y * x.fdiv y := by
        show (if y = 0 then x else x - y * x.fdiv y) = _
        rw [if_neg c']
      rw [e] at q
      exact ⟨_, rfl, _, rfl, iteTd rfl ⟨_, rfl, _, rfl, _, rfl, _, rfl, _, _, rfl, rfl, ⟨c', hy⟩, _, _, rfl, rfl, .inl ⟨by omega, by omega⟩, _, _, rfl, rfl, q _ Same.rfl'⟩⟩
theorem none_ahead {ys : List V} {y : V} {j : Nat} (h : ((ys.take j).all fun z => !eqV z y) = true) (m : Nat) (z : V) (hm : m < j) (e : ys[m]? = some z) : eqV z y = false := by
  have h1 : z ∈ ys.take j := by
    refine List.mem_of_getElem? (i := m) ?_
    rw [List.getElem?_take_of_lt hm]
    exact e
  have := List.all_eq_true.mp h z h1
  simpa using this
theorem in_list {H : Hp} {p : Addr} {xs : List V} {v : V} {Q : VK} {b : Bool} (hp : H p = some (.lst xs)) (fv : flatV v = true) (fx : xs.all flatV = true) (e : inV v xs = b) (q : Q (.bl b) H) : rIn K false v (.ref p) H Q :=
  ⟨p, xs, rfl, .inl (SqL.of hp), fv, fx, by rw [e]; exact q⟩
theorem ok_law_pair (Z : Glb mg) (D : DefN K mg "_law_pair" 34) (c__law_wrap : C8.Cal P w K mg base 1 "_law_wrap" spWrap []) (c__law_divided : C8.Cal P w K mg base 2 "_law_divided" spDiv []) : C8.Cal P w K mg base 3 "_law_pair" spOpv [] := by
  have S : FnScope ["_law_op", "_law_x", "_law_y"] ["_law_op", "_law_x", "_law_y"] (C8.fnScope (top 34)) := C8.fnScope_by (by decide +kernel)
  refine cal_of D S (fun _ _ _ _ _ _ us hl => match us, hl with | [_, _, _], _ => rfl) (fun vs H Q E h => ?_) fun f cdv A outer s H vs Q E hr h => ?_
  · obtain ⟨nm, x, y, rfl, _⟩ := h
    rfl
  obtain ⟨nm, x, y, rfl, h⟩ := h
  refine ⟨_, (pss_cons (ps_if (pt_cmpR (op_inK (K := K)) (pv 0) (pe_lst (pa_cons pe_strA (pa_cons pe_strA pa_nilA))) (by with_unfolding_all rfl))
      (pss_one (ps_ret (C8.pe_c c__law_divided hr (by omega) rfl (pa_cons (pv 0) (pa_cons (pv 1) (pa_cons (pv 2) pa_nilA))))))
      pss_nil)
    (pss_cons (ps_if (pt_cmpR (op_inK (K := K)) (pv 0) (pe_lst (pa_cons pe_strA (pa_cons pe_strA (pa_cons pe_strA pa_nilA)))) (by with_unfolding_all rfl))
      (pss_one (ps_ret (C8.pe_c c__law_wrap hr (by omega) rfl (pa_cons (pe_ix (ix_listK (K := K)) (pe_lst (pa_cons (pe_op (op_add) (pv 1) (pv 2)) (pa_cons (pe_op (op_sub) (pv 1) (pv 2)) (pa_cons (pe_op (op_mul) (pv 1) (pv 2)) pa_nilA)))) (pe_bm PySem.F.plainAttrs_list PySem.F.slot_list_index PySem.F.type_list_index (mt_indexK (K := K)) (pe_lst (pa_cons pe_strA (pa_cons pe_strA (pa_cons pe_strA pa_nilA)))) (pa_cons (pv 0) pa_nilA)) (fun _ _ => rfl)) pa_nilA))))
      pss_nil)
    (pss_cons (ps_if (pt_cmpR (op_inK (K := K)) (pv 0) (pe_lst (pa_cons pe_strA (pa_cons pe_strA pa_nilA))) (by with_unfolding_all rfl))
      (pss_one (ps_ret (pe_ix (ix_listK (K := K)) (pe_lst (pa_cons (pe_or (pv 1) (pe_one (pv 2))) (pa_cons (pe_and (pv 1) (pe_one (pv 2))) pa_nilA))) (pe_callTy (T := "int") (cr_int1) (by rfl) Z.int (by decide +kernel) (pa_cons (pe_eqS (pv 0)) pa_nilA)) (fun _ _ => rfl))))
      pss_nil)
    (pss_one (ps_ret (pe_ix (ix_listK (K := K)) (pe_lst (pa_cons (pe_cmpR (op_eqK) (pv 1) (pv 2) (nomark _)) (pa_cons (pe_cmpR (op_neK) (pv 1) (pv 2) (nomark _)) (pa_cons (pe_cmpR (op_ltK) (pv 1) (pv 2) (nomark _)) (pa_cons (pe_cmpR (op_leK) (pv 1) (pv 2) (nomark _)) (pa_cons (pe_cmpR (op_gtK) (pv 1) (pv 2) (nomark _)) (pa_cons (pe_cmpR (op_geK) (pv 1) (pv 2) (nomark _)) pa_nilA))))))) (pe_bm PySem.F.plainAttrs_list PySem.F.slot_list_index PySem.F.type_list_index (mt_indexK (K := K)) (pe_lst (pa_cons pe_strA (pa_cons pe_strA (pa_cons pe_strA (pa_cons pe_strA (pa_cons pe_strA (pa_cons pe_strA pa_nilA))))))) (pa_cons (pv 0) pa_nilA)) (fun _ _ => rfl))))))), ?_⟩
  refine ⟨_, rfl, by show 2 ≤ sizeLine; decide, fun p hp => ?_⟩
  have s1 := same_new hp (.lst [.str "div", .str "mod"])
  rcases h with ⟨o, rfl, hx, hy, q⟩ | ⟨o, k, rfl, hk, hx, hy, q⟩ | ⟨o, rfl, hx, hy, q⟩
  · obtain ⟨i, rfl, hi⟩ := hx.int
    obtain ⟨j, rfl, hj⟩ := hy.int
    have hj' := big_lt hj
    have big' : big = 1000000000000000000 := rfl
    have q2 : ∀ H', Same H H' → Q (.int (arI o i j)) H' := q
    have dv : o = .div ∨ o = .mod → spDiv [.str o.nm, .int i, .int j] (upd H p (.lst [.str "div", .str "mod"])) Q C8.E0 := fun ho => ⟨o, i, j, rfl, ho, hj', fun H' s2 => q2 _ (Same.trn s1 s2)⟩
    cases o with
    | div => exact in_list upd_same rfl rfl rfl ⟨_, rfl, iteTd rfl ⟨_, rfl, _, rfl, _, rfl, dv (.inl rfl)⟩⟩
    | mod => exact in_list upd_same rfl rfl rfl ⟨_, rfl, iteTd rfl ⟨_, rfl, _, rfl, _, rfl, dv (.inr rfl)⟩⟩
    | add =>
      exact in_list upd_same rfl rfl rfl ⟨_, rfl, iteFd rfl ⟨_, rfl, by show 3 ≤ sizeLine; decide, fun p2 hp2 => in_list upd_same rfl rfl rfl ⟨_, rfl, iteTd rfl
        ⟨_, rfl, _, rfl, _, _, rfl, rfl, _, rfl, _, rfl, _, _, rfl, rfl, _, rfl, _, rfl, _, _, rfl, rfl, .inl ⟨by omega, by omega⟩, by show 3 ≤ sizeLine; decide, fun p3 hp3 =>
          ⟨by show 3 ≤ sizeLine; decide, fun p4 hp4 => ⟨.inl ⟨rfl, _, SqL.of upd_same⟩, _, rfl, p4, _, _, 0, _, rfl, rfl, SqL.of upd_same, rfl, rfl, rfl, rfl, none_ahead rfl,
            p3, _, _, _, rfl, rfl, SqL.of (same_new hp4 _ _ _ upd_same), rfl, _, rfl, q2 _ (Same.trn s1 (Same.trn (same_new hp2 _) (Same.trn (same_new hp3 _) (same_new hp4 _))))⟩⟩⟩⟩⟩⟩
    | sub =>
      exact in_list upd_same rfl rfl rfl ⟨_, rfl, iteFd rfl ⟨_, rfl, by show 3 ≤ sizeLine; decide, fun p2 hp2 => in_list upd_same rfl rfl rfl ⟨_, rfl, iteTd rfl
        ⟨_, rfl, _, rfl, _, _, rfl, rfl, _, rfl, _, rfl, _, _, rfl, rfl, _, rfl, _, rfl, _, _, rfl, rfl, .inl ⟨by omega, by omega⟩, by show 3 ≤ sizeLine; decide, fun p3 hp3 =>
          ⟨by show 3 ≤ sizeLine; decide, fun p4 hp4 => ⟨.inl ⟨rfl, _, SqL.of upd_same⟩, _, rfl, p4, _, _, 1, _, rfl, rfl, SqL.of upd_same, rfl, rfl, rfl, rfl, none_ahead rfl,
            p3, _, _, _, rfl, rfl, SqL.of (same_new hp4 _ _ _ upd_same), rfl, _, rfl, q2 _ (Same.trn s1 (Same.trn (same_new hp2 _) (Same.trn (same_new hp3 _) (same_new hp4 _))))⟩⟩⟩⟩⟩⟩
    | mul =>
      exact in_list upd_same rfl rfl rfl ⟨_, rfl, iteFd rfl ⟨_, rfl, by show 3 ≤ sizeLine; decide, fun p2 hp2 => in_list upd_same rfl rfl rfl ⟨_, rfl, iteTd rfl
        ⟨_, rfl, _, rfl, _, _, rfl, rfl, _, rfl, _, rfl, _, _, rfl, rfl, _, rfl, _, rfl, _, _, rfl, rfl, .inl ⟨by omega, by omega⟩, by show 3 ≤ sizeLine; decide, fun p3 hp3 =>
          ⟨by show 3 ≤ sizeLine; decide, fun p4 hp4 => ⟨.inl ⟨rfl, _, SqL.of upd_same⟩, _, rfl, p4, _, _, 2, _, rfl, rfl, SqL.of upd_same, rfl, rfl, rfl, rfl, none_ahead rfl,
            p3, _, _, _, rfl, rfl, SqL.of (same_new hp4 _ _ _ upd_same), rfl, _, rfl, q2 _ (Same.trn s1 (Same.trn (same_new hp2 _) (Same.trn (same_new hp3 _) (same_new hp4 _))))⟩⟩⟩⟩⟩⟩
  · have q2 : ∀ H', Same H H' → Q (cmV o x y) H' := q
    cases o with
    | eq =>
      exact in_list upd_same rfl rfl rfl ⟨_, rfl, iteFd rfl ⟨_, rfl, by show 3 ≤ sizeLine; decide, fun p2 hp2 => in_list upd_same rfl rfl rfl ⟨_, rfl, iteFd rfl ⟨_, rfl, by show 2 ≤ sizeLine; decide, fun p3 hp3 => in_list upd_same rfl rfl rfl ⟨_, rfl, iteFd rfl
        ⟨_, rfl, _, rfl, k, hk, hx, hy, _, rfl, _, rfl, k, hk, hx, hy, _, rfl, _, rfl, k, hk, hx, hy, _, rfl, _, rfl, k, hk, hx, hy, _, rfl, _, rfl, k, hk, hx, hy, _, rfl, _, rfl, k, hk, hx, hy, by show 6 ≤ sizeLine; decide, fun p4 hp4 =>
          ⟨by show 6 ≤ sizeLine; decide, fun p5 hp5 => ⟨.inl ⟨rfl, _, SqL.of upd_same⟩, _, rfl, p5, _, _, 0, _, rfl, rfl, SqL.of upd_same, rfl, rfl, rfl, rfl, none_ahead rfl,
            p4, _, _, _, rfl, rfl, SqL.of (same_new hp5 _ _ _ upd_same), rfl, q2 _ (Same.trn s1 (Same.trn (same_new hp2 _) (Same.trn (same_new hp3 _) (Same.trn (same_new hp4 _) (same_new hp5 _)))))⟩⟩⟩⟩⟩⟩⟩⟩
    | ne =>
      exact in_list upd_same rfl rfl rfl ⟨_, rfl, iteFd rfl ⟨_, rfl, by show 3 ≤ sizeLine; decide, fun p2 hp2 => in_list upd_same rfl rfl rfl ⟨_, rfl, iteFd rfl ⟨_, rfl, by show 2 ≤ sizeLine; decide, fun p3 hp3 => in_list upd_same rfl rfl rfl ⟨_, rfl, iteFd rfl
        ⟨_, rfl, _, rfl, k, hk, hx, hy, _, rfl, _, rfl, k, hk, hx, hy, _, rfl, _, rfl, k, hk, hx, hy, _, rfl, _, rfl, k, hk, hx, hy, _, rfl, _, rfl, k, hk, hx, hy, _, rfl, _, rfl, k, hk, hx, hy, by show 6 ≤ sizeLine; decide, fun p4 hp4 =>
          ⟨by show 6 ≤ sizeLine; decide, fun p5 hp5 => ⟨.inl ⟨rfl, _, SqL.of upd_same⟩, _, rfl, p5, _, _, 1, _, rfl, rfl, SqL.of upd_same, rfl, rfl, rfl, rfl, none_ahead rfl,
            p4, _, _, _, rfl, rfl, SqL.of (same_new hp5 _ _ _ upd_same), rfl, q2 _ (Same.trn s1 (Same.trn (same_new hp2 _) (Same.trn (same_new hp3 _) (Same.trn (same_new hp4 _) (same_new hp5 _)))))⟩⟩⟩⟩⟩⟩⟩⟩
    | lt =>
      exact in_list upd_same rfl rfl rfl ⟨_, rfl, iteFd rfl ⟨_, rfl, by show 3 ≤ sizeLine; decide, fun p2 hp2 => in_list upd_same rfl rfl rfl ⟨_, rfl, iteFd rfl ⟨_, rfl, by show 2 ≤ sizeLine; decide, fun p3 hp3 => in_list upd_same rfl rfl rfl ⟨_, rfl, iteFd rfl
        ⟨_, rfl, _, rfl, k, hk, hx, hy, _, rfl, _, rfl, k, hk, hx, hy, _, rfl, _, rfl, k, hk, hx, hy, _, rfl, _, rfl, k, hk, hx, hy, _, rfl, _, rfl, k, hk, hx, hy, _, rfl, _, rfl, k, hk, hx, hy, by show 6 ≤ sizeLine; decide, fun p4 hp4 =>
          ⟨by show 6 ≤ sizeLine; decide, fun p5 hp5 => ⟨.inl ⟨rfl, _, SqL.of upd_same⟩, _, rfl, p5, _, _, 2, _, rfl, rfl, SqL.of upd_same, rfl, rfl, rfl, rfl, none_ahead rfl,
            p4, _, _, _, rfl, rfl, SqL.of (same_new hp5 _ _ _ upd_same), rfl, q2 _ (Same.trn s1 (Same.trn (same_new hp2 _) (Same.trn (same_new hp3 _) (Same.trn (same_new hp4 _) (same_new hp5 _)))))⟩⟩⟩⟩⟩⟩⟩⟩
    | le =>
      exact in_list upd_same rfl rfl rfl ⟨_, rfl, iteFd rfl ⟨_, rfl, by show 3 ≤ sizeLine; decide, fun p2 hp2 => in_list upd_same rfl rfl rfl ⟨_, rfl, iteFd rfl ⟨_, rfl, by show 2 ≤ sizeLine; decide, fun p3 hp3 => in_list upd_same rfl rfl rfl ⟨_, rfl, iteFd rfl
        ⟨_, rfl, _, rfl, k, hk, hx, hy, _, rfl, _, rfl, k, hk, hx, hy, _, rfl, _, rfl, k, hk, hx, hy, _, rfl, _, rfl, k, hk, hx, hy, _, rfl, _, rfl, k, hk, hx, hy, _, rfl, _, rfl, k, hk, hx, hy, by show 6 ≤ sizeLine; decide, fun p4 hp4 =>
          ⟨by show 6 ≤ sizeLine; decide, fun p5 hp5 => ⟨.inl ⟨rfl, _, SqL.of upd_same⟩, _, rfl, p5, _, _, 3, _, rfl, rfl, SqL.of upd_same, rfl, rfl, rfl, rfl, none_ahead rfl,
            p4, _, _, _, rfl, rfl, SqL.of (same_new hp5 _ _ _ upd_same), rfl, q2 _ (Same.trn s1 (Same.trn (same_new hp2 _) (Same.trn (same_new hp3 _) (Same.trn (same_new hp4 _) (same_new hp5 _)))))⟩⟩⟩⟩⟩⟩⟩⟩
    | gt =>
      exact in_list upd_same rfl rfl rfl ⟨_, rfl, iteFd rfl ⟨_, rfl, by show 3 ≤ sizeLine; decide, fun p2 hp2 => in_list upd_same rfl rfl rfl ⟨_, rfl, iteFd rfl ⟨_, rfl, by show 2 ≤ sizeLine; decide, fun p3 hp3 => in_list upd_same rfl rfl rfl ⟨_, rfl, iteFd rfl
        ⟨_, rfl, _, rfl, k, hk, hx, hy, _, rfl, _, rfl, k, hk, hx, hy, _, rfl, _, rfl, k, hk, hx, hy, _, rfl, _, rfl, k, hk, hx, hy, _, rfl, _, rfl, k, hk, hx, hy, _, rfl, _, rfl, k, hk, hx, hy, by show 6 ≤ sizeLine; decide, fun p4 hp4 =>
          ⟨by show 6 ≤ sizeLine; decide, fun p5 hp5 => ⟨.inl ⟨rfl, _, SqL.of upd_same⟩, _, rfl, p5, _, _, 4, _, rfl, rfl, SqL.of upd_same, rfl, rfl, rfl, rfl, none_ahead rfl,
            p4, _, _, _, rfl, rfl, SqL.of (same_new hp5 _ _ _ upd_same), rfl, q2 _ (Same.trn s1 (Same.trn (same_new hp2 _) (Same.trn (same_new hp3 _) (Same.trn (same_new hp4 _) (same_new hp5 _)))))⟩⟩⟩⟩⟩⟩⟩⟩
    | ge =>
      exact in_list upd_same rfl rfl rfl ⟨_, rfl, iteFd rfl ⟨_, rfl, by show 3 ≤ sizeLine; decide, fun p2 hp2 => in_list upd_same rfl rfl rfl ⟨_, rfl, iteFd rfl ⟨_, rfl, by show 2 ≤ sizeLine; decide, fun p3 hp3 => in_list upd_same rfl rfl rfl ⟨_, rfl, iteFd rfl
        ⟨_, rfl, _, rfl, k, hk, hx, hy, _, rfl, _, rfl, k, hk, hx, hy, _, rfl, _, rfl, k, hk, hx, hy, _, rfl, _, rfl, k, hk, hx, hy, _, rfl, _, rfl, k, hk, hx, hy, _, rfl, _, rfl, k, hk, hx, hy, by show 6 ≤ sizeLine; decide, fun p4 hp4 =>
          ⟨by show 6 ≤ sizeLine; decide, fun p5 hp5 => ⟨.inl ⟨rfl, _, SqL.of upd_same⟩, _, rfl, p5, _, _, 5, _, rfl, rfl, SqL.of upd_same, rfl, rfl, rfl, rfl, none_ahead rfl,
            p4, _, _, _, rfl, rfl, SqL.of (same_new hp5 _ _ _ upd_same), rfl, q2 _ (Same.trn s1 (Same.trn (same_new hp2 _) (Same.trn (same_new hp3 _) (Same.trn (same_new hp4 _) (same_new hp5 _)))))⟩⟩⟩⟩⟩⟩⟩⟩
  · obtain ⟨a, rfl⟩ := hx.bl
    obtain ⟨b, rfl⟩ := hy.bl
    have q2 : ∀ H', Same H H' → Q (loV o (.bl a) (.bl b)) H' := q
    -- the two values, whichever way
    have go : ∀ {p2 p3 : Addr} {o2 o3 : HO} (hp2 : upd H p (.lst [.str "div", .str "mod"]) p2 = none) (hp3 : upd (upd H p (.lst [.str "div", .str "mod"])) p2 o2 p3 = none), ∀ p4, upd (upd (upd H p (.lst [.str "div", .str "mod"])) p2 o2) p3 o3 p4 = none →
        Q (loV o (.bl a) (.bl b)) (upd (upd (upd (upd H p (.lst [.str "div", .str "mod"])) p2 o2) p3 o3) p4 (.lst [.bl (a || b), .bl (a && b)])) := fun hp2 hp3 p4 hp4 => q2 _ (Same.trn s1 (Same.trn (same_new hp2 _) (Same.trn (same_new hp3 _) (same_new hp4 _))))
    cases o with
    | true =>
      refine in_list upd_same rfl rfl rfl ⟨_, rfl, iteFd rfl ⟨_, rfl, by show 3 ≤ sizeLine; decide, fun p2 hp2 => in_list upd_same rfl rfl rfl ⟨_, rfl, iteFd rfl ⟨_, rfl, by show 2 ≤ sizeLine; decide, fun p3 hp3 => in_list upd_same rfl rfl rfl ⟨_, rfl, iteTd rfl ?_⟩⟩⟩⟩⟩
      refine ⟨_, rfl, a, rfl, ?_⟩
      cases a with
      | true => exact iteTd rfl ⟨_, rfl, _, rfl, iteTd rfl ⟨_, rfl, by show 2 ≤ sizeLine; decide, fun p4 hp4 => ⟨_, rfl, _, rfl, .inr ⟨_, rfl, p4, _, _, _, rfl, rfl, SqL.of upd_same, rfl, go hp2 hp3 p4 hp4⟩⟩⟩⟩
      | false => exact iteFd rfl ⟨_, rfl, _, rfl, _, rfl, iteFd rfl ⟨by show 2 ≤ sizeLine; decide, fun p4 hp4 => ⟨_, rfl, _, rfl, .inr ⟨_, rfl, p4, _, _, _, rfl, rfl, SqL.of upd_same, rfl, go hp2 hp3 p4 hp4⟩⟩⟩⟩
    | false =>
      refine in_list upd_same rfl rfl rfl ⟨_, rfl, iteFd rfl ⟨_, rfl, by show 3 ≤ sizeLine; decide, fun p2 hp2 => in_list upd_same rfl rfl rfl ⟨_, rfl, iteFd rfl ⟨_, rfl, by show 2 ≤ sizeLine; decide, fun p3 hp3 => in_list upd_same rfl rfl rfl ⟨_, rfl, iteTd rfl ?_⟩⟩⟩⟩⟩
      refine ⟨_, rfl, a, rfl, ?_⟩
      cases a with
      | true => exact iteTd rfl ⟨_, rfl, _, rfl, iteTd rfl ⟨_, rfl, by show 2 ≤ sizeLine; decide, fun p4 hp4 => ⟨_, rfl, _, rfl, .inr ⟨_, rfl, p4, _, _, _, rfl, rfl, SqL.of upd_same, rfl, go hp2 hp3 p4 hp4⟩⟩⟩⟩
      | false => exact iteFd rfl ⟨_, rfl, _, rfl, _, rfl, iteFd rfl ⟨by show 2 ≤ sizeLine; decide, fun p4 hp4 => ⟨_, rfl, _, rfl, .inr ⟨_, rfl, p4, _, _, _, rfl, rfl, SqL.of upd_same, rfl, go hp2 hp3 p4 hp4⟩⟩⟩⟩
end
end K23

set_option Elab.async false
set_option linter.all false
set_option maxRecDepth 100000
set_option maxHeartbeats 4000000
/-! K23r: the law's evaluator of expressions. -/
namespace K23
open PySem PySem.Spec PyProof.Rows L2

section
variable (tb : Str → List Row) (sch : List (Str × List Kd)) (K : PySem.W.Frag)
def spLE (n : Nat) : Sp := fun vs H Q _ => ∃ (ve vl vm : V) (t : Addr) (d : PyData) (n' : Nat) (g : Bool) (sc : Sc) (k : Kd) (f : Sem) (lv : Lv) (ms : List Ch), vs = [ve, vl, .ref t, vm] ∧ n' < n ∧ RepE tb sch n' g sc d k f ∧ Dp K H ve d ∧ Dp K H vm (chsD ms) ∧ Dp K H vl (lvD lv) ∧
  TabAt tb sch K H t ∧ Conf sc lv ∧ lv.length + n' ≤ 1000 ∧ (g = true → Mem sc ms) ∧ ∀ H', Same H H' → Q (f lv ms) H'
def spLR (n : Nat) : Sp := fun vs H Q _ => ∃ (vq vl : V) (t : Addr) (d : PyData) (n' m : Nat) (sc : Sc) (ks : List Kd) (q : Lv → List Row) (lv : Lv), vs = [vq, .ref t, vl] ∧ n' < n ∧ RepQ tb sch n' m sc d ks q ∧ Dp K H vq d ∧
  Dp K H vl (lvD lv) ∧ TabAt tb sch K H t ∧ Conf sc lv ∧ lv.length + n' ≤ 1000 ∧ ∀ a H', NewL K H H' a ((q lv).map rowD) → Q (.ref a) H'
end
section
variable {tb : Str → List Row} {sch : List (Str × List Kd)} {P : Program} {w : World} {K : PySem.W.Frag} {mg : Str → Option Value} {base : Heap}
/-- sum, min, max of what a comprehension gave -/
theorem found_keys {vs : List V} {k : Kd} (hk : k ≠ .cond) (hv : ∀ v ∈ vs, HasK k v) {ys : List V} {H : Hp} (h : DpAll K H ys (vs.map fun v => keyD (keyOf v))) : ys = (vs.map keyOf).map kV ∧ (vs.map keyOf).map kV = vs ∧ ∀ y ∈ vs.map keyOf, HasK k (kV y) := by
  refine ⟨?_, ?_, fun y hy => ?_⟩
  · refine dpall_keys (r := vs.map keyOf) (K := K) (H := H) ?_
    rw [List.map_map]
    exact h
  · rw [List.map_map]
    refine (List.map_congr_left fun v h => ?_).trans (List.map_id vs)
    exact kV_keyOf (hv v h) hk
  · obtain ⟨v, h, rfl⟩ := List.mem_map.mp hy
    rw [kV_keyOf (hv v h) hk]
    exact hv v h
theorem ok_law_eval (T : TbOk tb sch) (Z : Glb mg) (D : DefN K mg "_law_eval" 35) {n : Nat} (c__law_wrap : C8.Cal P w K mg base 1 "_law_wrap" spWrap []) (c__law_pair : C8.Cal P w K mg base 3 "_law_pair" spOpv [])
    (c__law_eval : C8.Cal P w K mg base (8 * n + 8) "_law_eval" (spLE tb sch K n) []) (c__law_rows : C8.Cal P w K mg base (8 * n + 4) "_law_rows" (spLR tb sch K n) []) :
    C8.Cal P w K mg base (8 * n + 15 + 1) "_law_eval" (spLE tb sch K (n + 1)) [] := by
  have S : FnScope ["_law_e", "_law_levels", "_law_tables", "_law_members", "_law_op", "_law_x", "_law_outer", "_law_values", "_law_choice"] ["_law_e", "_law_levels", "_law_tables", "_law_members"] (C8.fnScope (top 35)) := C8.fnScope_by (by decide +kernel)
  refine cal_of D S (fun _ _ _ _ _ _ us hl => match us, hl with | [_, _, _, _], _ => rfl) (fun vs H Q E h => ?_) fun fa cdv A outer s H vs Q E hr h => ?_
  · obtain ⟨ve, vl, vm, t, d, n', g, sc, k, f, lv, ms, rfl, _⟩ := h
    rfl
  obtain ⟨ve, vl, vm, t, d, n', g, sc, k, f, lv, ms, rfl, hn, e, he, hc, hl, ht, hC, h9, hM, q⟩ := h
  refine ⟨_, (pss_cons (ps_set (i := 4) S.nd rfl (by first | exact .inl rfl | exact .inr rfl) (pe_ix (ix_tupK (K := K)) (pv 0) pe_intA (fun _ _ => rfl)))
    (pss_cons (ps_if (pt_cmpR (op_inK (K := K)) (pv 4) (pe_lst (pa_cons pe_strA (pa_cons pe_strA (pa_cons pe_strA pa_nilA)))) (by with_unfolding_all rfl))
      (pss_one (ps_ret (pe_ix (ix_tupK (K := K)) (pv 0) pe_intA (fun _ _ => rfl))))
      pss_nil)
    (pss_cons (ps_if (pt_eqS (pv 4))
      (pss_one (ps_ret (pe_ix (ix_tupK (K := K)) (pe_ix (ix_listK (K := K)) (pe_ix (ix_listK (K := K)) (pv 1) (pe_op (op_sub) (pe_op (op_sub) (pe_callB (id := "len") (cr_len (K := K)) (by rfl) Z.len (by decide +kernel) (pa_cons (pv 1) pa_nilA)) pe_intA) (pe_ix (ix_tupK (K := K)) (pv 0) pe_intA (fun _ _ => rfl))) (fun _ _ => rfl)) (pe_ix (ix_tupK (K := K)) (pv 0) pe_intA (fun _ _ => rfl)) (fun _ _ => rfl)) (pe_ix (ix_tupK (K := K)) (pv 0) pe_intA (fun _ _ => rfl)) (fun _ _ => rfl))))
      pss_nil)
    (pss_cons (ps_if (pt_eqS (pv 4))
      (pss_one (ps_ret (pe_callB (id := "len") (cr_len (K := K)) (by rfl) Z.len (by decide +kernel) (pa_cons (pv 3) pa_nilA))))
      pss_nil)
    (pss_cons (ps_if (pt_eqS (pv 4))
      (pss_one (ps_ret (pe_cmpR (op_gt) (pe_callB (id := "len") (cr_len (K := K)) (by rfl) Z.len (by decide +kernel) (pa_cons (C8.pe_c c__law_rows hr (by omega) rfl (pa_cons (pe_ix (ix_tupK (K := K)) (pv 0) pe_intA (fun _ _ => rfl)) (pa_cons (pv 2) (pa_cons (pv 1) pa_nilA)))) pa_nilA)) pe_intA (nomark _))))
      pss_nil)
    (pss_cons (ps_if (pt_cmpR (op_inK (K := K)) (pv 4) (pe_lst (pa_cons pe_strA (pa_cons pe_strA (pa_cons pe_strA pa_nilA)))) (by with_unfolding_all rfl))
      (pss_cons (ps_set (i := 6) S.nd rfl (by first | exact .inl rfl | exact .inr rfl) (pe_slice (sl_listK (K := K)) (pv 1) po_none (po_some (pe_op (op_sub) (pe_callB (id := "len") (cr_len (K := K)) (by rfl) Z.len (by decide +kernel) (pa_cons (pv 1) pa_nilA)) pe_intA))))
    (pss_cons (ps_setLc (i := 7) (own := [("_law_choice", 8)]) (g := gName 8) (by rfl) S.nd rfl rfl (sw_true rfl rfl rfl (by decide +kernel)) (pi_listK (K := K) (pv 3)) (blkOk_by (own := [("_law_choice", 8)]) (N := ["_law_e", "_law_levels", "_law_tables", "_law_members", "_law_op", "_law_x", "_law_outer", "_law_values", "_law_choice"]) (sc := C8.fnScope (top 35)) (by decide +kernel)) (fun _ _ _ _ _ => pg_name (i := 8) S.nd rfl (by first | exact .inl rfl | exact .inr rfl)) (fun _ _ _ _ _ => pts_nil) (fun _ _ _ _ _ => (C8.pe_c c__law_eval hr (by omega) rfl (pa_cons (pe_ix (ix_tupK (K := K)) (pv 0) pe_intA (fun _ _ => rfl)) (pa_cons (pe_op (op_catK (K := K)) (pv 6) (pe_lst (pa_cons (pv 8) pa_nilA))) (pa_cons (pv 2) (pa_cons (pe_lst pa_nilA) pa_nilA)))))))
    (pss_cons (ps_if (pt_eqS (pv 4))
      (pss_one (ps_ret (C8.pe_c c__law_wrap hr (by omega) rfl (pa_cons (pe_callB (id := "sum") (cr_sum rfl) (by rfl) Z.sum (by decide +kernel) (pa_cons (pv 7) pa_nilA)) pa_nilA))))
      pss_nil)
    (pss_one (ps_ret (pe_ix (ix_listK (K := K)) (pe_lst (pa_cons (pe_callB (id := "min") (cr_minK rfl (HU hr)) (by rfl) Z.min (by decide +kernel) (pa_cons (pv 7) pa_nilA)) (pa_cons (pe_callB (id := "max") (cr_maxK rfl (HU hr)) (by rfl) Z.max (by decide +kernel) (pa_cons (pv 7) pa_nilA)) pa_nilA))) (pe_callTy (T := "int") (cr_int1) (by rfl) Z.int (by decide +kernel) (pa_cons (pe_eqS (pv 4)) pa_nilA)) (fun _ _ => rfl)))))))
      pss_nil)
    (pss_cons (ps_set (i := 5) S.nd rfl (by first | exact .inl rfl | exact .inr rfl) (C8.pe_c c__law_eval hr (by omega) rfl (pa_cons (pe_ix (ix_tupK (K := K)) (pv 0) pe_intA (fun _ _ => rfl)) (pa_cons (pv 1) (pa_cons (pv 2) (pa_cons (pv 3) pa_nilA))))))
    (pss_cons (ps_if (pt_eqS (pv 4))
      (pss_one (ps_ret (C8.pe_c c__law_wrap hr (by omega) rfl (pa_cons (pe_op (op_sub) pe_intA (pv 5)) pa_nilA))))
      pss_nil)
    (pss_cons (ps_if (pt_eqS (pv 4))
      (pss_one (ps_ret (pe_not (pv 5))))
      pss_nil)
    (pss_one (ps_ret (C8.pe_c c__law_pair hr (by omega) rfl (pa_cons (pv 4) (pa_cons (pv 5) (pa_cons (C8.pe_c c__law_eval hr (by omega) rfl (pa_cons (pe_ix (ix_tupK (K := K)) (pv 0) pe_intA (fun _ _ => rfl)) (pa_cons (pv 1) (pa_cons (pv 2) (pa_cons (pv 3) pa_nilA))))) pa_nilA))))))))))))))), ?_⟩
  have part : ∀ {n2 : Nat} {d2 : PyData} {k2 : Kd} {f2 : Sem} {v : V} {Q2 : VK} {H2 : Hp}, n2 < n' → RepE tb sch n2 g sc d2 k2 f2 → Same H H2 → Dp K H2 v d2 → (∀ H', Same H H' → Q2 (f2 lv ms) H') → spLE tb sch K n [v, vl, .ref t, vm] H2 Q2 C8.E0 := fun {n2 d2 k2 f2 v Q2 H2} hn2 e2 s2 hv q2 =>
    ⟨v, vl, vm, t, d2, n2, g, sc, k2, f2, lv, ms, rfl, by omega, e2, hv, Dp.up s2 hc, Dp.up s2 hl, ht.up s2, hC, by omega, hM, fun H' s3 => q2 H' (Same.trn s2 s3)⟩
  have sndE : ∀ {n2 : Nat} {d2 : PyData} {k2 : Kd} {f2 : Sem}, RepE tb sch n2 g sc d2 k2 f2 → HasK k2 (f2 lv ms) := fun {n2 d2 k2 f2} e2 => (sound T n2).1 e2 lv ms hC hM
  cases e with
  | num i h1 h2 =>
    refine ⟨_, rfl, ixT_d 0 he rfl fun v hv => ?_⟩
    cases dp_str hv
    refine ⟨_, rfl, by show 3 ≤ sizeLine; decide, fun p hp => in_list upd_same rfl rfl rfl ⟨_, rfl, iteTd rfl ⟨_, rfl, ixT_d 1 (Dp.up (same_new hp _) he) rfl fun v hv => ?_⟩⟩⟩
    cases dp_int hv
    exact q _ (same_new hp _)
  | txt x h =>
    refine ⟨_, rfl, ixT_d 0 he rfl fun v hv => ?_⟩
    cases dp_str hv
    refine ⟨_, rfl, by show 3 ≤ sizeLine; decide, fun p hp => in_list upd_same rfl rfl rfl ⟨_, rfl, iteTd rfl ⟨_, rfl, ixT_d 1 (Dp.up (same_new hp _) he) rfl fun v hv => ?_⟩⟩⟩
    cases dp_str hv
    exact q _ (same_new hp _)
  | cell u s c h1 h2 h3 hb =>
    refine ⟨_, rfl, ixT_d 0 he rfl fun v hv => ?_⟩
    cases dp_str hv
    refine ⟨_, rfl, by show 3 ≤ sizeLine; decide, fun p hp => in_list upd_same rfl rfl rfl ⟨_, rfl, iteFd rfl ⟨_, rfl, _, rfl, iteTd rfl ?_⟩⟩⟩
    have s1 := same_new hp (.lst [.str "number", .str "text", .str "truth"])
    obtain ⟨ch, r, key, e1, e2, e3, e4, _, _⟩ := cell_has hC h1 h2 h3
    obtain ⟨ch', e1', hu, e5⟩ := lv_get hC h1
    rw [e1] at e1'
    cases e1'
    refine ⟨_, rfl, _, rfl, len_d (Dp.up s1 hl) ⟨_, _, rfl, rfl, _, rfl, ixT_d 1 (Dp.up s1 he) rfl fun v1 hv1 => ?_⟩⟩
    cases dp_int hv1
    refine ⟨_, _, rfl, rfl, ixL_d (lv.length - 1 - u) (d := chD ch) (Dp.up s1 hl) (by rw [List.getElem?_map, e5]; rfl) (fun v2 hv2 => ?_) (by rw [List.length_map]; omega)⟩
    refine ⟨_, rfl, ixT_d 2 (Dp.up s1 he) rfl fun v3 hv3 => ?_⟩
    cases dp_int hv3
    refine ixL_d s (d := rowD r) hv2 (by rw [List.getElem?_map, e2]; rfl) fun v4 hv4 => ?_
    refine ⟨_, rfl, ixT_d 3 (Dp.up s1 he) rfl fun v5 hv5 => ?_⟩
    cases dp_int hv5
    refine ixT_d c (d := keyD key) hv4 (by rw [List.getElem?_map, e3]; rfl) fun v6 hv6 => ?_
    rw [dp_key hv6, ← e4]
    exact q _ s1
  | cnt =>
    refine ⟨_, rfl, ixT_d 0 he rfl fun v hv => ?_⟩
    cases dp_str hv
    refine ⟨_, rfl, by show 3 ≤ sizeLine; decide, fun p hp => in_list upd_same rfl rfl rfl ⟨_, rfl, iteFd rfl ⟨_, rfl, _, rfl, iteFd rfl ⟨_, rfl, _, rfl, iteTd rfl ⟨_, rfl, len_d (Dp.up (same_new hp _) hc) ?_⟩⟩⟩⟩⟩
    rw [List.length_map]
    exact q _ (same_new hp _)
  | ex h e =>
    refine ⟨_, rfl, ixT_d 0 he rfl fun v hv => ?_⟩
    cases dp_str hv
    refine ⟨_, rfl, by show 3 ≤ sizeLine; decide, fun p hp => in_list upd_same rfl rfl rfl ⟨_, rfl, iteFd rfl ⟨_, rfl, _, rfl, iteFd rfl ⟨_, rfl, _, rfl, iteFd rfl ⟨_, rfl, _, rfl, iteTd rfl ?_⟩⟩⟩⟩⟩
    have s1 := same_new hp (.lst [.str "number", .str "text", .str "truth"])
    refine ⟨_, rfl, ixT_d 1 (Dp.up s1 he) rfl fun v1 hv1 => ⟨_, rfl, _, rfl, _, _, t, _, _, _, _, _, _, lv, rfl, by omega, e, hv1, Dp.up s1 hl, ht.up s1, hC, by omega, fun a H' N => ?_⟩⟩
    refine len_d N.dp ⟨_, _, rfl, rfl, ?_⟩
    rw [List.length_map]
    have q' : Q (V.bl (decide (0 < (_ : List Row).length))) H' := q H' (Same.trn s1 N.1)
    rw [lenpos] at q'
    exact q'
  | neg h e =>
    refine ⟨_, rfl, ixT_d 0 he rfl fun v hv => ?_⟩
    cases dp_str hv
    refine ⟨_, rfl, by show 3 ≤ sizeLine; decide, fun p hp => in_list upd_same rfl rfl rfl ⟨_, rfl, iteFd rfl ⟨_, rfl, _, rfl, iteFd rfl ⟨_, rfl, _, rfl, iteFd rfl ⟨_, rfl, _, rfl, iteFd rfl
      ⟨_, rfl, by show 3 ≤ sizeLine; decide, fun p2 hp2 => in_list upd_same rfl rfl rfl ⟨_, rfl, iteFd rfl ?_⟩⟩⟩⟩⟩⟩⟩
    have s2 := Same.trn (same_new hp (.lst [.str "number", .str "text", .str "truth"])) (same_new hp2 (.lst [.str "sum", .str "least", .str "greatest"]))
    refine ⟨_, rfl, ixT_d 1 (Dp.up s2 he) rfl fun v1 hv1 => ⟨_, rfl, _, rfl, _, rfl, part h e s2 hv1 fun H' s3 => ?_⟩⟩
    exact ⟨_, rfl, _, rfl, iteTd rfl ⟨_, rfl, _, _, rfl, (num_has (sndE e)).1, _, rfl, q _ s3⟩⟩
  | nt h e =>
    refine ⟨_, rfl, ixT_d 0 he rfl fun v hv => ?_⟩
    cases dp_str hv
    refine ⟨_, rfl, by show 3 ≤ sizeLine; decide, fun p hp => in_list upd_same rfl rfl rfl ⟨_, rfl, iteFd rfl ⟨_, rfl, _, rfl, iteFd rfl ⟨_, rfl, _, rfl, iteFd rfl ⟨_, rfl, _, rfl, iteFd rfl
      ⟨_, rfl, by show 3 ≤ sizeLine; decide, fun p2 hp2 => in_list upd_same rfl rfl rfl ⟨_, rfl, iteFd rfl ?_⟩⟩⟩⟩⟩⟩⟩
    have s2 := Same.trn (same_new hp (.lst [.str "number", .str "text", .str "truth"])) (same_new hp2 (.lst [.str "sum", .str "least", .str "greatest"]))
    refine ⟨_, rfl, ixT_d 1 (Dp.up s2 he) rfl fun v1 hv1 => ⟨_, rfl, _, rfl, _, rfl, part h e s2 hv1 fun H' s3 => ?_⟩⟩
    exact ⟨_, rfl, _, rfl, iteFd rfl ⟨_, rfl, _, rfl, iteTd rfl ⟨_, rfl, _, cond_has (sndE e), q _ s3⟩⟩⟩
  | @ag _ n2 _ d2 _ f2 o h e hk ho =>
    refine ⟨_, rfl, ixT_d 0 he rfl fun v hv => ?_⟩
    cases dp_str hv
    obtain ⟨la, ls, rfl, hla, hls⟩ := dp_list hl
    obtain ⟨m1, m2, scn, sc', rfl, m3⟩ := hM rfl
    obtain ⟨lv', c0, rfl, hC', _⟩ := conf_pop hC
    rw [List.length_append, List.length_singleton] at h9
    refine ⟨_, rfl, by show 3 ≤ sizeLine; decide, fun p hp => in_list (b := false) upd_same rfl rfl (by cases o <;> rfl) ⟨_, rfl, iteFd rfl ⟨_, rfl, _, rfl, iteFd (by cases o <;> rfl) ⟨_, rfl, _, rfl, iteFd (by cases o <;> rfl) ⟨_, rfl, _, rfl, iteFd (by cases o <;> rfl)
      ⟨_, rfl, by show 3 ≤ sizeLine; decide, fun p2 hp2 => in_list (b := true) upd_same rfl rfl (by cases o <;> rfl) ⟨_, rfl, iteTd rfl ?_⟩⟩⟩⟩⟩⟩⟩
    have s2 := Same.trn (same_new hp (.lst [.str "number", .str "text", .str "truth"])) (same_new hp2 (.lst [.str "sum", .str "least", .str "greatest"]))
    have hne : ls ≠ [] := fun z => by
      have := dpall_len hls
      rw [z] at this
      simp at this
    have hcut := cutV_init ls hne
    refine ⟨_, rfl, _, rfl, la, ls, rfl, .inl (s2.seq hla), _, _, rfl, rfl, _, rfl, la, ls, rfl, s2.seq hla, fun p3 hp3 => ?_⟩
    have s3 := Same.trn s2 (same_new hp3 (.lst (cutV ls none (some ((ls.length : Int) - 1)))))
    have outerD : Dp K (upd (upd (upd H p (.lst [.str "number", .str "text", .str "truth"])) p2 (.lst [.str "sum", .str "least", .str "greatest"])) p3 (.lst (cutV ls none (some ((ls.length : Int) - 1))))) (.ref p3) (lvD lv') := by
      rw [hcut]
      refine (newL_of hp3 ?_).dp
      have := dpall_take (ls.length - 1) (DpAll.up s2 hls)
      rw [List.map_append] at this
      have e1 : ls.length - 1 = (lv'.map chD).length := by
        rw [dpall_len hls, List.map_append, List.length_append]
        rfl
      rw [← List.dropLast_eq_take, e1, List.take_left] at this
      exact this
    obtain ⟨ca, cs, rfl, hca, hcs⟩ := dp_list hc
    refine ⟨_, rfl, ca, rfl, ⟨_, s3.seq hca⟩, fun DD hDD => ?_⟩
    have has : ∀ c ∈ ms, HasK k (f2 (lv' ++ [c]) []) := fun c hc => (sound T n2).1 e _ _ (conf_push hC' (m3 c hc)) fun z => nomatch z
    refine lc_dp (as := ms) (enc := chD) (fun _ => true) (fun c => keyD (keyOf (f2 (lv' ++ [c]) []))) (s3.seq hca) (DpAll.up s3 hcs) hDD (by omega) (fun c x W H1 hcm hx g1 g2 hW _ Kp Sk hK _ => ?_) fun H' ys g1 hys _ hyd => ?_
    · have g3 := Same.trn g1 g2
      have t1 := Same.trn s3 g3
      refine ⟨rfl, _, rfl, ixT_d 1 (Dp.up t1 he) rfl fun v1 hv1 => ⟨_, rfl, _, rfl, by show 1 ≤ sizeLine; decide, fun p4 hp4 => ?_⟩⟩
      have u4 := same_new hp4 (.lst [x])
      refine cat_d (ds := lv'.map chD) (es := [chD c]) (Dp.up u4 (Dp.up g3 outerD)) (newL_of hp4 (DpAll.cons (Dp.up g3 hx) .nil)).dp (by rw [List.length_map, List.length_singleton]; omega) fun p5 xs5 ys5 hp5 hx5 hy5 => ⟨_, rfl, by show 0 ≤ sizeLine; decide, fun p6 hp6 => ?_⟩
      have u6 := Same.trn u4 (Same.trn (same_new hp5 (.lst (xs5 ++ ys5))) (same_new hp6 (.lst [])))
      refine ⟨v1, .ref p5, .ref p6, t, _, _, false, scn :: sc', k, _, lv' ++ [c], [], rfl, by omega, e, Dp.up u6 hv1, (newL_of (ds := []) hp6 .nil).dp, Dp.up (same_new hp6 _) ?_, (ht.up t1).up u6, conf_push hC' (m3 c hcm), (by rw [List.length_append, List.length_singleton]; omega), (fun z => nomatch z), fun H' s5 => ?_⟩
      · unfold lvD
        rw [List.map_append]
        exact (newL_of hp5 (dpall_app hx5 hy5)).dp
      · refine hK rfl _ _ W Same.rfl' (Same.trn g2 (Same.trn u6 s5)) (Same.trn u6 s5) hW ?_
        have sn := (sound T n2).1 e _ [] (conf_push hC' (m3 c hcm)) fun z => nomatch z
        have e1 := key_dp (K := K) (H := W) (keyOf (f2 (lv' ++ [c]) []))
        rw [kV_keyOf sn hk] at e1
        exact e1
    · have q' : Q (agV o (ms.map fun c => f2 (lv' ++ [c]) [])) = Q (agV o (ms.map fun c => f2 ((lv' ++ [c0]).dropLast ++ [c]) [])) := by rw [List.dropLast_concat]
      have q2 : ∀ H2, Same H H2 → Q (agV o (ms.map fun c => f2 (lv' ++ [c]) [])) H2 := fun H2 s => by
        rw [q']
        exact q H2 s
      have hvs : ∀ v ∈ (ms.map fun c => f2 (lv' ++ [c]) []), HasK k v := fun v hv => by
        obtain ⟨c, hc, rfl⟩ := List.mem_map.mp hv
        exact has c hc
      rw [List.filter_eq_self.mpr fun _ _ => rfl] at hyd
      obtain ⟨f1, f3, f4⟩ := found_keys hk hvs (ys := ys) (H := H') (K := K) (by rw [List.map_map]; exact hyd)
      have hne2 : (ms.map fun c => f2 (lv' ++ [c]) []).map keyOf ≠ [] := fun z => m1 (List.map_eq_nil_iff.mp (List.map_eq_nil_iff.mp z))
      have s4 := Same.trn s3 g1
      have hD := hys
      rw [f1] at hD
      cases o with
      | sum =>
        refine ⟨_, rfl, _, rfl, iteTd rfl ⟨_, rfl, DD, (ms.map fun c => f2 (lv' ++ [c]) []).map iV, rfl, ?_, _, rfl, q2 _ s4⟩⟩
        rw [f3] at hD
        refine .inl (.inl ?_)
        rw [hD]
        refine congrArg (fun z => some (HO.lst z)) ?_
        rw [List.map_map]
        refine ((List.map_congr_left fun v h => ?_).trans (List.map_id _)).symm
        have a1 := hvs v h
        rw [ho rfl] at a1
        exact (num_has a1).1.symm
      | least =>
        exact ⟨_, rfl, _, rfl, iteFd rfl ⟨_, rfl, DD, _, k, rfl, SqL.of hD, hk, f4, hne2, _, rfl, DD, _, k, rfl, SqL.of hD, hk, f4, hne2, by show 2 ≤ sizeLine; decide, fun p7 hp7 => ⟨_, rfl, _, rfl, .inr ⟨_, rfl, p7, _, _, _, rfl, rfl, SqL.of upd_same, rfl, q2 _ (Same.trn s4 (same_new hp7 _))⟩⟩⟩⟩
      | greatest =>
        exact ⟨_, rfl, _, rfl, iteFd rfl ⟨_, rfl, DD, _, k, rfl, SqL.of hD, hk, f4, hne2, _, rfl, DD, _, k, rfl, SqL.of hD, hk, f4, hne2, by show 2 ≤ sizeLine; decide, fun p7 hp7 => ⟨_, rfl, _, rfl, .inr ⟨_, rfl, p7, _, _, _, rfl, rfl, SqL.of upd_same, rfl, q2 _ (Same.trn s4 (same_new hp7 _))⟩⟩⟩⟩
  | ar o h e1 e2 =>
    refine ⟨_, rfl, ixT_d 0 he rfl fun v hv => ?_⟩
    cases dp_str hv
    have opv : ∀ {H3 : Hp}, Same H H3 → spOpv [.str o.nm, _, _] H3 Q C8.E0 := fun {H3} s3 => ⟨_, _, _, rfl, .inl ⟨o, rfl, sndE e1, sndE e2, fun H' s4 => q _ (Same.trn s3 s4)⟩⟩
    cases o <;>
    exact ⟨_, rfl, by show 3 ≤ sizeLine; decide, fun p hp => in_list upd_same rfl rfl rfl ⟨_, rfl, iteFd rfl ⟨_, rfl, _, rfl, iteFd rfl ⟨_, rfl, _, rfl, iteFd rfl ⟨_, rfl, _, rfl, iteFd rfl
      ⟨_, rfl, by show 3 ≤ sizeLine; decide, fun p2 hp2 => in_list upd_same rfl rfl rfl ⟨_, rfl, iteFd rfl
        ⟨_, rfl, ixT_d 1 (Dp.up (Same.trn (same_new hp _) (same_new hp2 _)) he) rfl fun v1 hv1 => ⟨_, rfl, _, rfl, _, rfl, part h e1 (Same.trn (same_new hp _) (same_new hp2 _)) hv1 fun H2 s2 =>
          ⟨_, rfl, _, rfl, iteFd rfl ⟨_, rfl, _, rfl, iteFd rfl ⟨_, rfl, _, rfl, _, rfl, ixT_d 2 (Dp.up s2 he) rfl fun v2 hv2 => ⟨_, rfl, _, rfl, _, rfl, part h e2 s2 hv2 fun H3 s3 => opv s3⟩⟩⟩⟩⟩⟩⟩⟩⟩⟩⟩⟩⟩
  | cm o h hk e1 e2 =>
    refine ⟨_, rfl, ixT_d 0 he rfl fun v hv => ?_⟩
    cases dp_str hv
    have opv : ∀ {H3 : Hp}, Same H H3 → spOpv [.str o.nm, _, _] H3 Q C8.E0 := fun {H3} s3 => ⟨_, _, _, rfl, .inr (.inl ⟨o, _, rfl, hk, sndE e1, sndE e2, fun H' s4 => q _ (Same.trn s3 s4)⟩)⟩
    cases o <;>
    exact ⟨_, rfl, by show 3 ≤ sizeLine; decide, fun p hp => in_list upd_same rfl rfl rfl ⟨_, rfl, iteFd rfl ⟨_, rfl, _, rfl, iteFd rfl ⟨_, rfl, _, rfl, iteFd rfl ⟨_, rfl, _, rfl, iteFd rfl
      ⟨_, rfl, by show 3 ≤ sizeLine; decide, fun p2 hp2 => in_list upd_same rfl rfl rfl ⟨_, rfl, iteFd rfl
        ⟨_, rfl, ixT_d 1 (Dp.up (Same.trn (same_new hp _) (same_new hp2 _)) he) rfl fun v1 hv1 => ⟨_, rfl, _, rfl, _, rfl, part h e1 (Same.trn (same_new hp _) (same_new hp2 _)) hv1 fun H2 s2 =>
          ⟨_, rfl, _, rfl, iteFd rfl ⟨_, rfl, _, rfl, iteFd rfl ⟨_, rfl, _, rfl, _, rfl, ixT_d 2 (Dp.up s2 he) rfl fun v2 hv2 => ⟨_, rfl, _, rfl, _, rfl, part h e2 s2 hv2 fun H3 s3 => opv s3⟩⟩⟩⟩⟩⟩⟩⟩⟩⟩⟩⟩⟩
  | lo o h e1 e2 =>
    refine ⟨_, rfl, ixT_d 0 he rfl fun v hv => ?_⟩
    cases dp_str hv
    have opv : ∀ {H3 : Hp}, Same H H3 → spOpv [.str (loNm o), _, _] H3 Q C8.E0 := fun {H3} s3 => ⟨_, _, _, rfl, .inr (.inr ⟨o, rfl, sndE e1, sndE e2, fun H' s4 => q _ (Same.trn s3 s4)⟩)⟩
    cases o <;>
    exact ⟨_, rfl, by show 3 ≤ sizeLine; decide, fun p hp => in_list upd_same rfl rfl rfl ⟨_, rfl, iteFd rfl ⟨_, rfl, _, rfl, iteFd rfl ⟨_, rfl, _, rfl, iteFd rfl ⟨_, rfl, _, rfl, iteFd rfl
      ⟨_, rfl, by show 3 ≤ sizeLine; decide, fun p2 hp2 => in_list upd_same rfl rfl rfl ⟨_, rfl, iteFd rfl
        ⟨_, rfl, ixT_d 1 (Dp.up (Same.trn (same_new hp _) (same_new hp2 _)) he) rfl fun v1 hv1 => ⟨_, rfl, _, rfl, _, rfl, part h e1 (Same.trn (same_new hp _) (same_new hp2 _)) hv1 fun H2 s2 =>
          ⟨_, rfl, _, rfl, iteFd rfl ⟨_, rfl, _, rfl, iteFd rfl ⟨_, rfl, _, rfl, _, rfl, ixT_d 2 (Dp.up s2 he) rfl fun v2 hv2 => ⟨_, rfl, _, rfl, _, rfl, part h e2 s2 hv2 fun H3 s3 => opv s3⟩⟩⟩⟩⟩⟩⟩⟩⟩⟩⟩⟩⟩
end
end K23

set_option Elab.async false
set_option linter.all false
set_option maxRecDepth 100000
set_option maxHeartbeats 4000000
/-! K23s: comprehensions whose items are data of a part of the heap (the rest may change). -/
namespace K23
open PySem PySem.Spec PyProof.Rows L2

/-- G: the part of the heap H that stands still; E: what may change. From (G, H) to (G', H') -/
structure Grow (E : Addr → Prop) (G H G' H' : Hp) : Prop where
  g : Same G G'
  i : Same G' H'
  k : ∀ b o, H b = some o → ¬ E b → H' b = some o
  e : ∀ b, H b ≠ none → H' b ≠ none
  f : ∀ b, H b ≠ none → G b = none → G' b = none
section
variable {E : Addr → Prop} {G H G' H' G2 H2 : Hp}
theorem Grow.trans (x : Grow E G H G' H') (y : Grow E G' H' G2 H2) : Grow E G H G2 H2 :=
  ⟨Same.trn x.g y.g, y.i, fun b o h n => y.k b o (x.k b o h n) n, fun b h => y.e b (x.e b h), fun b h z => y.f b (x.e b h) (x.f b h z)⟩
theorem Grow.here (h : Same G H) : Grow E G H G H := ⟨Same.rfl', h, fun _ _ e _ => e, fun _ e => e, fun _ _ e => e⟩
/-- the heap grows, the part stays -/
theorem Grow.by_same (h : Same G H) (s : Same H H') : Grow E G H G H' := ⟨Same.rfl', Same.trn h s, fun b o e _ => s b o e, fun b e z => e (by
  cases q : H b with
  | none => rfl
  | some o =>
    rw [s b o q] at z
    cases z), fun _ _ e => e⟩
theorem up_ne {H H' : Hp} (s : Same H H') {b : Addr} (h : H b ≠ none) : H' b ≠ none := fun z => h (same_none s z)
/-- a new thing, of the part -/
theorem Grow.new (h : Same G H) {p : Addr} (hp : H p = none) (o : HO) : Grow E G H (upd G p o) (upd H p o) := by
  refine ⟨same_new (same_none h hp) _, same_upd h hp o, fun b u e _ => same_new hp _ b u e, fun b e => up_ne (same_new hp _) e, fun b e z => ?_⟩
  have : b ≠ p := fun y => e (by rw [y]; exact hp)
  rw [upd_ne this]
  exact z
end
/-! ### readings, the data in a part of the heap -/
section
variable {K : PySem.W.Frag} {W H : Hp} {x y : V} {ds es : List PyData} {d : PyData} {Q : VK}
theorem ixT_w {j : Int} (i : Nat) (s : Same W H) (h : Dp K W x (.tuple ds)) (e : ds[i]? = some d) (q : ∀ v, Dp K W v d → Q v H) (hj : j = (i : Int) := by rfl) : rIxT K x (.int j) H Q := by
  subst hj
  obtain ⟨a, xs, rfl, h1, h2⟩ := dp_tup h
  obtain ⟨v, e1, e2⟩ := dpall_get h2 e
  exact ⟨a, xs, i, v, rfl, rfl, same_t s h1, atI_nat e1, q v e2⟩
theorem ixL_w {j : Int} (i : Nat) (s : Same W H) (h : Dp K W x (.list ds)) (e : ds[i]? = some d) (q : ∀ v, Dp K W v d → Q v H) (hj : j = (i : Int) := by rfl) : rIxL K x (.int j) H Q := by
  subst hj
  obtain ⟨a, xs, rfl, h1, h2⟩ := dp_list h
  obtain ⟨v, e1, e2⟩ := dpall_get h2 e
  exact ⟨a, xs, i, v, rfl, rfl, s.seq h1, atI_nat e1, q v e2⟩
end
/-- what a filtered comprehension may give: for each thing an item, or none -/
inductive Outs {α : Type} (R : α → PyData → Prop) (N : α → Prop) : List α → List PyData → Prop
  | nil : Outs R N [] []
  | keep {c : α} {d : PyData} {l : List α} {o : List PyData} (h : R c d) (t : Outs R N l o) : Outs R N (c :: l) (d :: o)
  | skip {c : α} {l : List α} {o : List PyData} (h : N c) (t : Outs R N l o) : Outs R N (c :: l) o
theorem Outs.app {α : Type} {R : α → PyData → Prop} {N : α → Prop} : ∀ {l m : List α} {o p : List PyData}, Outs R N l o → Outs R N m p → Outs R N (l ++ m) (o ++ p)
  | _, _, _, _, .nil, q => q
  | _, _, _, _, .keep h t, q => .keep h (t.app q)
  | _, _, _, _, .skip h t, q => .skip h (t.app q)
theorem Outs.len {α : Type} {R : α → PyData → Prop} {N : α → Prop} : ∀ {l : List α} {o : List PyData}, Outs R N l o → o.length ≤ l.length
  | _, _, .nil => Nat.le_refl _
  | _, _, .keep _ t => Nat.succ_le_succ t.len
  | _, _, .skip _ t => Nat.le_succ_of_le t.len
theorem Outs.all {α : Type} {R : α → PyData → Prop} {N : α → Prop} : ∀ {l : List α} {o : List PyData}, Outs R N l o → ∀ d ∈ o, ∃ c ∈ l, R c d
  | _, _, .nil, d, h => nomatch h
  | _, _, .keep h t, d, hd => by
    rcases List.mem_cons.mp hd with e | hd
    · subst e
      exact ⟨_, List.mem_cons_self, h⟩
    · obtain ⟨c, h1, h2⟩ := t.all d hd
      exact ⟨c, List.mem_cons_of_mem _ h1, h2⟩
  | _, _, .skip _ t, d, hd => by
    obtain ⟨c, h1, h2⟩ := t.all d hd
    exact ⟨c, List.mem_cons_of_mem _ h1, h2⟩
/-- a turn's reading -/
abbrev TurnV {α : Type} (K : PySem.W.Frag) (E : Addr → Prop) (V0 H : Hp) (D : Addr) (J : Hp → Prop) (R : α → PyData → Prop) (N : α → Prop) (g : TG) (tt : TT) (te : TE) (σ : L2.St) (vs : List Nat) (c : α) (x : V) : Prop :=
  ∀ (W H1 : Hp), Grow E V0 H W H1 → W D = none → H1 D ≠ none → J H1 → ∀ (Kp : VK) (Sk : Hp → Prop),
    (∀ d y H4 W', R c d → Grow E W H1 W' H4 → J H4 → Dp K W' y d → Kp y H4) → (∀ W' H3, N c → Grow E W H1 W' H3 → J H3 → Sk H3) →
    g x (wipe σ vs) H1 fun σ2 H2 => wipe σ2 vs = wipe σ vs ∧ tt σ2 H2 fun b H3 => if b = true then te σ2 H3 Kp else Sk H3
section
variable {α : Type} {K : PySem.W.Frag} {E : Addr → Prop} {V0 H : Hp} {a : Addr} {xs : List V} {as : List α} {g : TG} {tt : TT} {te : TE} {vs : List Nat} {σ : L2.St} {D : Addr} {Qd : Hp → Prop} (J : Hp → Prop) (R : α → PyData → Prop) (N : α → Prop) (Rel : α → V → Prop)
def ViewAt (K : PySem.W.Frag) (E : Addr → Prop) (V0 H : Hp) (D : Addr) (J : Hp → Prop) (R : α → PyData → Prop) (N : α → Prop) (pre : List α) (H' : Hp) : Prop :=
  ∃ W acc outs, Grow E V0 H W H' ∧ W D = none ∧ H' D = some (.lst acc) ∧ J H' ∧ Outs R N pre outs ∧ DpAll K W acc outs
variable {J R N Rel}
theorem view_start (hV : Same V0 H) (hD : H D = none) (hJ0 : J (upd H D (.lst []))) : ViewAt K E V0 H D J R N [] (upd H D (.lst [])) :=
  ⟨V0, [], [], .by_same hV (same_new hD _), same_none hV hD, upd_same, hJ0, .nil, .nil⟩
theorem view_keep (hE : ¬ E D) (hD : H D = none) (hJ : ∀ H1 o, J H1 → J (upd H1 D o)) {pre : List α} {c : α} {d : PyData} {y : V} {W H1 W' H4 : Hp} {acc : List V} {outs : List PyData} (g1 : Grow E V0 H W H1) (hW : W D = none) (hA : H1 D = some (.lst acc)) (ho : Outs R N pre outs) (hd : DpAll K W acc outs)
    (hR : R c d) (g2 : Grow E W H1 W' H4) (hJ4 : J H4) (hy : Dp K W' y d) (hlen : outs.length < sizeLine) : ∃ acc', H4 D = some (.lst acc') ∧ acc'.length < sizeLine ∧ ViewAt K E V0 H D J R N (pre ++ [c]) (upd H4 D (.lst (acc' ++ [y]))) := by
  have h4 := g2.k _ _ hA hE
  have hW' : W' D = none := g2.f D (by rw [hA]; exact fun z => nomatch z) hW
  refine ⟨acc, h4, by rw [dpall_len hd]; exact hlen, W', acc ++ [y], outs ++ [d], ⟨Same.trn g1.g g2.g, fun b u e => ?_, fun b o e n => ?_, fun b e => ?_, fun b e z => g2.f b (g1.e b e) (g1.f b e z)⟩, hW', upd_same, hJ _ _ hJ4, ho.app (.keep hR .nil), dpall_snoc (DpAll.up g2.g hd) hy⟩
  · rw [upd_ne fun z => ?_]
    · exact g2.i b u e
    · rw [z, hW'] at e
      cases e
  · rw [upd_ne (ne_of_none e hD)]
    exact g2.k b o (g1.k b o e n) n
  · have : b ≠ D := fun z => e (by rw [z]; exact hD)
    rw [upd_ne this]
    exact g2.e b (g1.e b e)
theorem view_skip (hE : ¬ E D) {pre : List α} {c : α} {W H1 W' H4 : Hp} {acc : List V} {outs : List PyData} (g1 : Grow E V0 H W H1) (hW : W D = none) (hA : H1 D = some (.lst acc)) (ho : Outs R N pre outs) (hd : DpAll K W acc outs)
    (hN : N c) (g2 : Grow E W H1 W' H4) (hJ4 : J H4) : ViewAt K E V0 H D J R N (pre ++ [c]) H4 := by
  have := ho.app (Outs.skip (R := R) hN .nil)
  rw [List.append_nil] at this
  exact ⟨W', acc, outs, g1.trans g2, g2.f D (by rw [hA]; exact fun z => nomatch z) hW, g2.k _ _ hA hE, hJ4, this, DpAll.up g2.g hd⟩
theorem lc_view (hV : Same V0 H) (hx : SqL K V0 a xs) (hlen : xs.length = as.length) (hrel : ∀ (i : Nat) (c : α) (x : V), as[i]? = some c → xs[i]? = some x → Rel c x) (hD : H D = none) (hE : ¬ E D) (hJ : ∀ H1 o, J H1 → J (upd H1 D o)) (hJ0 : J (upd H D (.lst []))) (hl : as.length ≤ 100000)
    (hs : ∀ (c : α) (x : V), c ∈ as → Rel c x → TurnV K E V0 H D J R N g tt te σ vs c x)
    (q : ∀ H' W ys outs, Grow E V0 H W H' → J H' → H' D = some (.lst ys) → W D = none → Outs R N as outs → DpAll K W ys outs → Qd H') :
    ∃ W : Nat → Nat → Hp → Prop, (∃ m, W 0 m (upd H D (.lst []))) ∧ ∀ i m H, W i m H →
      ((Itl K a).stop i H ∧ Qd H) ∨ ((Itl K a).go i H ∧ ∃ Nx : Hp → Prop, (∀ H', Nx H' → ∃ m', m' < m ∧ W (i + 1) m' H') ∧ ∀ x H', (Itl K a).yld i H x H' → g x (wipe σ vs) H' fun σ2 H2 => wipe σ2 vs = wipe σ vs ∧ tt σ2 H2 fun b H3 =>
        if b = true then te σ2 H3 fun y H4 => ∃ acc, H4 D = some (.lst acc) ∧ acc.length < sizeLine ∧ Nx (upd H4 D (.lst (acc ++ [y]))) else Nx H3) := by
  refine lc_list (xs := xs) (fun i H' => ViewAt K E V0 H D J R N (as.take i) H') (by rw [List.take_zero]; exact view_start hV hD hJ0)
    (fun i H' hi ⟨W, acc, outs, g1, _⟩ => (Same.trn g1.g g1.i).seq hx) (fun i x H' hi ⟨W, acc, outs, g1, hW, hA, hJ1, ho, hd⟩ => ?_) fun H' ⟨W, acc, outs, g1, hW, hA, hJ1, ho, hd⟩ => ?_
  · have hlt : i < as.length := by
      rw [← hlen]
      exact (List.getElem?_eq_some_iff.mp hi).1
    have e3 : as[i]? = some as[i] := List.getElem?_eq_getElem hlt
    generalize as[i] = c at e3
    have et : as.take (i + 1) = as.take i ++ [c] := by
      rw [List.take_add_one, e3]
      rfl
    have lo : outs.length < sizeLine := by
      have l1 := ho.len
      rw [List.length_take] at l1
      rw [sizeLine_eq]
      omega
    refine hs c x (List.mem_of_getElem? e3) (hrel i c x e3 hi) W H' g1 hW (by rw [hA]; exact fun z => nomatch z) hJ1 _ _ (fun d y H4 W' hR g2 hJ4 hy => ?_) (fun W' H3 hN g2 hJ3 => ?_)
    · have := view_keep hE hD hJ g1 hW hA ho hd hR g2 hJ4 hy lo
      rw [← et] at this
      exact this
    · have := view_skip hE g1 hW hA ho hd hN g2 hJ3
      rw [← et] at this
      exact this
  · rw [hlen, List.take_length] at ho
    exact q H' W acc outs g1 hJ1 hA hW ho hd
/-- the same over range(n): the things are the turns' numbers -/
theorem lc_viewR {n : Nat} (hV : Same V0 H) (hD : H D = none) (hE : ¬ E D) (hJ : ∀ H1 o, J H1 → J (upd H1 D o)) (hJ0 : J (upd H D (.lst []))) (hl : n ≤ 100000) {R : Nat → PyData → Prop} {N : Nat → Prop}
    (hs : ∀ (i : Nat), i < n → TurnV K E V0 H D J R N g tt te σ vs i (.int (0 + i)))
    (q : ∀ H' W ys outs, Grow E V0 H W H' → J H' → H' D = some (.lst ys) → W D = none → Outs R N (List.range n) outs → DpAll K W ys outs → Qd H') :
    ∃ W : Nat → Nat → Hp → Prop, (∃ m, W 0 m (upd H D (.lst []))) ∧ ∀ i m H, W i m H →
      ((Itr 0 n).stop i H ∧ Qd H) ∨ ((Itr 0 n).go i H ∧ ∃ Nx : Hp → Prop, (∀ H', Nx H' → ∃ m', m' < m ∧ W (i + 1) m' H') ∧ ∀ x H', (Itr 0 n).yld i H x H' → g x (wipe σ vs) H' fun σ2 H2 => wipe σ2 vs = wipe σ vs ∧ tt σ2 H2 fun b H3 =>
        if b = true then te σ2 H3 fun y H4 => ∃ acc, H4 D = some (.lst acc) ∧ acc.length < sizeLine ∧ Nx (upd H4 D (.lst (acc ++ [y]))) else Nx H3) := by
  refine lc_range (fun i H' => ViewAt K E V0 H D J R N (List.range i) H') (view_start hV hD hJ0) (fun i H' hi ⟨W, acc, outs, g1, hW, hA, hJ1, ho, hd⟩ => ?_) fun H' ⟨W, acc, outs, g1, hW, hA, hJ1, ho, hd⟩ => q H' W acc outs g1 hJ1 hA hW ho hd
  have lo : outs.length < sizeLine := by
    have l1 := ho.len
    rw [List.length_range] at l1
    rw [sizeLine_eq]
    omega
  refine hs i hi W H' g1 hW (by rw [hA]; exact fun z => nomatch z) hJ1 _ _ (fun d y H4 W' hR g2 hJ4 hy => ?_) (fun W' H3 hN g2 hJ3 => ?_)
  · have := view_keep hE hD hJ g1 hW hA ho hd hR g2 hJ4 hy lo
    rw [← List.range_succ] at this
    exact this
  · have := view_skip hE g1 hW hA ho hd hN g2 hJ3
    rw [← List.range_succ] at this
    exact this
end
end K23

set_option Elab.async false
set_option linter.all false
set_option maxRecDepth 100000
set_option maxHeartbeats 4000000
/-! K23t: the law's choices and groups. -/
namespace K23
open PySem PySem.Spec PyProof.Rows L2

def lcScope : Expr → Scope
  | .ListComp _ _ sc _ => sc
  | _ => ⟨.function, [], false, false, []⟩
def relab (sc outer : Scope) : Scope := { sc with names := sc.names.map fun (n, k) => if (k == .free && outer.kind == .function && outer.names.lookup n == some .cell) then (n, .cell) else (n, k) }
def valOf : Stmt → Expr
  | .Assign _ v _ => v
  | .Return (some e) _ => e
  | _ => .Constant .none 0 ⟨0, 0, 0, 0⟩
section
variable (tb : Str → List Row) (sch : List (Str × List Kd)) (K : PySem.W.Frag)
def spLCho (n : Nat) : Sp := fun vs H Q _ => ∃ (vq vl : V) (t : Addr) (sc : Sc) (lv : Lv) (srcs : List (Str × List Kd)) (wh : Option (PyData × Sem)) (d1 d4 d5 : PyData), vs = [vq, .ref t, vl] ∧
  Dp K H vq (.tuple [.str "select", d1, .list (srcs.map fun s => .str s.1), optD wh, d4, d5]) ∧ (∀ s ∈ srcs, s ∈ sch) ∧ srcs.length ≤ 3 ∧ (∀ x, wh = some x → ∃ n', n' < n ∧ lv.length + 1 + n' ≤ 1000 ∧ RepE tb sch n' false (srcs.map (·.2) :: sc) x.1 .cond x.2) ∧
  Dp K H vl (lvD lv) ∧ TabAt tb sch K H t ∧ Conf sc lv ∧ lv.length ≤ 999 ∧ ∀ a H', NewL K H H' a ((choicesM tb srcs wh lv).map chD) → Q (.ref a) H'
end
section
variable {tb : Str → List Row} {sch : List (Str × List Kd)} {P : Program} {w : World} {K : PySem.W.Frag} {mg : Str → Option Value} {base : Heap}
theorem ok_law_choices (T : TbOk tb sch) (Z : Glb mg) (D : DefN K mg "_law_choices" 36) {n : Nat} (c__law_eval : C8.Cal P w K mg base (8 * n + 8) "_law_eval" (spLE tb sch K n) []) :
    C8.Cal P w K mg base (8 * n + 9) "_law_choices" (spLCho tb sch K n) [] := by
  have S : FnScope ["_law_select_here", "_law_tables", "_law_levels", "_law_choices_here", "_law_name", "_law_longer", "_law_choice", "_law_row"] ["_law_select_here", "_law_tables", "_law_levels"] (C8.fnScope (top 36)) := C8.fnScope_by (by decide +kernel)
  refine cal_of D S (fun _ _ _ _ _ _ us hl => match us, hl with | [_, _, _], _ => rfl) (fun vs H Q E h => ?_) fun fa cdv A outer s H vs Q E hr h => ?_
  · obtain ⟨vq, vl, t, sc, lv, srcs, wh, d1, d4, d5, rfl, _⟩ := h
    rfl
  obtain ⟨vq, vl, t, sc, lv, srcs, wh, d1, d4, d5, rfl, hq, hs, h3, hw, hl, ht, hC, h9, q⟩ := h
  refine ⟨_, (pss_cons (ps_set (i := 3) S.nd rfl (by first | exact .inl rfl | exact .inr rfl) (pe_lst (pa_cons (pe_lst pa_nilA) pa_nilA)))
    (pss_cons (ps_for PassesOwn.never rfl (pi_listK (K := K) (pe_ix (ix_tupK (K := K)) (pv 0) pe_intA (fun _ _ => rfl))) (pg_name (i := 4) S.nd rfl (by first | exact .inl rfl | exact .inr rfl))
      (pss_cons (ps_set (i := 5) S.nd rfl (by first | exact .inl rfl | exact .inr rfl) (pe_lst pa_nilA))
    (pss_cons (ps_for PassesOwn.never rfl (pi_listK (K := K) (pv 3)) (pg_name (i := 6) S.nd rfl (by first | exact .inl rfl | exact .inr rfl))
      (pss_one (ps_set (i := 5) S.nd rfl (by first | exact .inl rfl | exact .inr rfl) (pe_op (op_catK (K := K)) (pv 5) (pe_lc (own := [("_law_row", 7)]) (g := gName 7) (by rfl) S.nd (pi_listK (K := K) (pe_dget (HU hr) (pv 1) (pv 4) (fun _ _ => rfl))) (blkOk_by (own := [("_law_row", 7)]) (N := ["_law_select_here", "_law_tables", "_law_levels", "_law_choices_here", "_law_name", "_law_longer", "_law_choice", "_law_row"]) (sc := C8.fnScope (top 36)) (by decide +kernel)) (fun _ _ _ _ _ => pg_name (i := 7) S.nd rfl (by first | exact .inl rfl | exact .inr rfl)) (fun _ _ _ _ _ => pts_nil) (fun _ _ _ _ _ => (pe_op (op_catK (K := K)) (pv 6) (pe_lst (pa_cons (pv 7) pa_nilA)))))))))
    (pss_one (ps_set (i := 3) S.nd rfl (by first | exact .inl rfl | exact .inr rfl) (pv 5))))))
    (pss_cons (ps_if (pt_cmpR (op_isN) (pe_ix (ix_tupK (K := K)) (pv 0) pe_intA (fun _ _ => rfl)) pe_nonA (nomark _))
      (pss_one (ps_ret (pv 3)))
      pss_nil)
    (pss_one (ps_ret (pe_lc (own := [("_law_choice", 6)]) (g := gName 6) (by rfl) S.nd (pi_listK (K := K) (pv 3)) (blkOk_by (own := [("_law_choice", 6)]) (N := ["_law_select_here", "_law_tables", "_law_levels", "_law_choices_here", "_law_name", "_law_longer", "_law_choice", "_law_row"]) (sc := C8.fnScope (top 36)) (by decide +kernel)) (fun _ _ _ _ _ => pg_name (i := 6) S.nd rfl (by first | exact .inl rfl | exact .inr rfl)) (fun _ _ _ _ _ => (pts_one (pt_val (C8.pe_c c__law_eval hr (by omega) rfl (pa_cons (pe_ix (ix_tupK (K := K)) (pv 0) pe_intA (fun _ _ => rfl)) (pa_cons (pe_op (op_catK (K := K)) (pv 2) (pe_lst (pa_cons (pv 6) pa_nilA))) (pa_cons (pv 1) (pa_cons (pe_lst pa_nilA) pa_nilA)))))))) (fun _ _ _ _ _ => (pv 6)))))))), ?_⟩
  refine ⟨by show 0 ≤ sizeLine; decide, fun p1 hp1 => ⟨by show 1 ≤ sizeLine; decide, fun p2 hp2 => ?_⟩⟩
  have s1 := same_new hp1 (.lst [])
  have s2 := Same.trn s1 (same_new hp2 (.lst [.ref p1]))
  refine ⟨_, rfl, ixT_d 2 (Dp.up s2 hq) rfl fun v hv => ?_⟩
  obtain ⟨na, ns, rfl, hna, hns⟩ := dp_list hv
  have hln : ns.length = srcs.length := by rw [dpall_len hns, List.length_map]
  refine ⟨na, rfl, ⟨_, hna⟩, ?_⟩
  let H0 := upd (upd H p1 (.lst [])) p2 (.lst [.ref p1])
  refine for_list (xs := ns) (fun i σ H' => ∃ a4 a5 a6 ac ys, σ = [some vq, some (.ref t), some vl, some (.ref ac), a4, a5, a6, none] ∧ Same H0 H' ∧ H' ac = some (.lst ys) ∧ DpAll K H' ys ((cross ((srcs.take i).map fun s => tb s.1)).map chD))
    ⟨none, none, none, p2, _, rfl, Same.rfl', upd_same, ?_⟩ (fun i σ H' _ ⟨_, _, _, _, _, _, s3, _⟩ => s3.seq hna) (fun i x σ H' hi ⟨a4, a5, a6, ac, ys, e, s3, hac, hys⟩ => ?_) fun σ H' ⟨a4, a5, a6, ac, ys, e, s3, hac, hys⟩ => ?_
  · exact .cons (Dp.up (same_new hp2 _) (newL_of (ds := []) hp1 .nil).dp) .nil
  · subst e
    obtain ⟨d, f1, f2⟩ := dpall_get2 hns hi
    rw [List.getElem?_map] at f1
    obtain ⟨sr, f3, f4⟩ := Option.map_eq_some_iff.mp f1
    subst f4
    cases dp_str f2
    have hsr : sr ∈ sch := hs sr (List.mem_of_getElem? f3)
    obtain ⟨kvs, t1, t2⟩ := (ht.up s2).up s3
    obtain ⟨tv, t3, t4⟩ := t2 sr hsr
    obtain ⟨ta, tl, rfl, hta, htl⟩ := dp_list t4
    have hb1 := cross_bound T hs h3 i
    have hb2 := (T sr hsr).1
    -- longer = []
    refine ⟨by show 0 ≤ sizeLine; decide, fun p3 hp3 => ?_⟩
    have s4 := same_new hp3 (.lst [])
    have hyl : ys.length = (cross ((srcs.take i).map fun s => tb s.1)).length := by rw [dpall_len hys, List.length_map]
    refine ⟨_, rfl, ac, rfl, ⟨_, SqL.of (s4 _ _ hac)⟩, ?_⟩
    refine for_list (xs := ys) (fun j σ H2 => ∃ a6 al zs, σ = [some vq, some (.ref t), some vl, some (.ref ac), some (.str sr.1), some (.ref al), a6, none] ∧ Same H' H2 ∧ H2 al = some (.lst zs) ∧
        DpAll K H2 zs ((((cross ((srcs.take i).map fun s => tb s.1)).take j).flatMap fun c => (tb sr.1).map fun r => c ++ [r]).map chD))
      ⟨a6, p3, [], rfl, s4, upd_same, .nil⟩ (fun j σ H2 _ ⟨_, _, _, _, g1, _⟩ => SqL.of (g1 _ _ hac)) (fun j y σ H2 hj ⟨a6, al, zs, e, g1, hal, hzs⟩ => ?_) fun σ H2 ⟨a6, al, zs, e, g1, hal, hzs⟩ => ?_
    · subst e
      obtain ⟨d2, k1, k2⟩ := dpall_get2 hys hj
      rw [List.getElem?_map] at k1
      obtain ⟨c, k3, k4⟩ := Option.map_eq_some_iff.mp k1
      subst k4
      have hcm := List.mem_of_getElem? k3
      have hcl : c.length ≤ 3 := by
        have l2 := paired_len (cross_all T (fun s h => hs s (List.mem_of_mem_take h)) c hcm)
        rw [List.length_map, List.length_take] at l2
        omega
      refine ⟨_, rfl, _, rfl, _, rfl, t, .ref ta, rfl, ?_, ta, rfl, ⟨_, g1.seq hta⟩, fun DD hDD => ?_⟩
      · have dg := DGet.k (k := Sum.inr sr.1) (g1 _ _ t1)
        rw [t3] at dg
        exact dg
      refine lc_dp (as := tb sr.1) (enc := rowD) (fun _ => true) (fun r => chD (c ++ [r])) (g1.seq hta) (DpAll.up g1 htl) hDD (by omega) (fun r z W H3 hr hz w1 w2 hW hDs Kp Sk hK _ => ?_) fun H3 us w1 hD2 _ hus => ?_
      · obtain ⟨xa, xl, rfl, m1, m2⟩ := dp_list (Dp.up (Same.trn g1 w1) k2)
        refine ⟨rfl, _, rfl, _, rfl, by show 1 ≤ sizeLine; decide, fun p hp => ⟨xa, p, xl, [z], rfl, rfl, (Same.trn w2 (same_new hp _)).seq m1, SqL.of upd_same, ?_, fun p5 hp5 => ?_⟩⟩
        · have l1 := dpall_len m2
          rw [List.length_map] at l1
          rw [List.length_singleton, sizeLine_eq]
          omega
        · have w3 := Same.trn w2 (same_new hp (.lst [z]))
          have hW3 := same_none w3 hp5
          refine hK rfl _ _ (upd W p5 (.lst (xl ++ [z]))) (same_new hW3 _) (same_upd w3 hp5 _) (Same.trn (same_new hp _) (same_new hp5 _)) ?_ ?_
          · rw [upd_ne (fun z => ?_)]
            · exact hW
            · subst z
              exact hDs (same_none (same_new hp _) hp5)
          · unfold chD
            rw [List.map_append]
            exact snoc_d hW3 m2 (Dp.up w1 hz)
      · rw [List.filter_eq_self.mpr fun _ _ => rfl] at hus
        have lz := dpall_len hzs
        have lu := dpall_len hus
        rw [List.length_map] at lu
        have lz2 : zs.length ≤ 27 * 3 := by
          rw [lz, List.length_map]
          calc (((cross ((srcs.take i).map fun s => tb s.1)).take j).flatMap fun c => (tb sr.1).map fun r => c ++ [r]).length = ((cross ((srcs.take i).map fun s => tb s.1)).take j).length * (tb sr.1).length := by
                clear lz hzs
                induction ((cross ((srcs.take i).map fun s => tb s.1)).take j) with
                | nil => simp
                | cons c cs ih =>
                  rw [List.flatMap_cons, List.length_append, ih, List.length_map, List.length_cons, Nat.succ_mul]
                  omega
            _ ≤ 27 * 3 := Nat.mul_le_mul (by rw [List.length_take]; omega) hb2
        refine ⟨al, DD, zs, us, rfl, rfl, SqL.of (w1 _ _ hal), SqL.of hD2, by rw [sizeLine_eq]; omega, fun p6 hp6 => ?_⟩
        refine ⟨_, p6, zs ++ us, rfl, Same.trn g1 (Same.trn w1 (same_new hp6 _)), upd_same, ?_⟩
        rw [List.take_add_one, k3, List.flatMap_append, List.map_append]
        refine DpAll.up (same_new hp6 _) (dpall_app (DpAll.up w1 hzs) ?_)
        rw [Option.toList_some, List.flatMap_cons, List.flatMap_nil, List.append_nil, List.map_map]
        exact hus
    · subst e
      rw [hyl, List.take_length] at hzs
      refine ⟨_, rfl, _, _, _, al, zs, rfl, Same.trn s3 g1, hal, ?_⟩
      have e5 : cross ((srcs.take (i + 1)).map fun s => tb s.1) = (cross ((srcs.take i).map fun s => tb s.1)).flatMap fun c => (tb sr.1).map fun r => c ++ [r] := by
        unfold cross
        rw [List.take_add_one, f3, List.map_append, List.foldl_append]
        rfl
      rw [e5]
      exact hzs
  · subst e
    rw [hln, List.take_length] at hys
    have s4 := Same.trn s2 s3
    refine ⟨_, rfl, ixT_d 3 (Dp.up s4 hq) rfl fun v hv => ?_⟩
    cases wh with
    | none =>
      cases dp_non hv
      exact ⟨rfl, _, rfl, iteTd rfl ⟨_, rfl, q _ _ ⟨s4, ys, hac, hys⟩⟩⟩
    | some x =>
      obtain ⟨n', hn, h10, e⟩ := hw x rfl
      have hv' : decide (v = V.non) = false := by
        refine decide_eq_false fun z => ?_
        subst z
        obtain ⟨ds, e'⟩ := e.tup
        have hv2 : Dp K _ V.non x.1 := hv
        rw [e'] at hv2
        cases hv2
      refine ⟨rfl, _, rfl, iteFd hv' ?_⟩
      refine ⟨_, rfl, ac, rfl, ⟨_, SqL.of hac⟩, fun DD hDD => ?_⟩
      have hb1 := cross_27 T hs h3
      refine lc_dp (as := cross (srcs.map fun s => tb s.1)) (enc := chD) (fun c => bV (x.2 (lv ++ [c]) [])) chD (SqL.of hac) hys hDD (by omega) (fun c y W H1 hc hy g1 g2 hW hDs Kp Sk hK hS => ?_) fun H2 ys2 g1 hD2 _ hys2 => q _ _ ⟨Same.trn s4 g1, ys2, hD2, hys2⟩
      have s5 := Same.trn s4 (Same.trn g1 g2)
      have cc := conf_push hC (cross_all T hs c hc)
      refine ⟨rfl, _, rfl, ixT_d 3 (Dp.up s5 hq) rfl fun v1 hv1 => ?_⟩
      refine ⟨_, rfl, _, rfl, by show 1 ≤ sizeLine; decide, fun p4 hp4 => ?_⟩
      have g3 := Same.trn g1 g2
      have g4 := same_new hp4 (.lst [y])
      refine cat_d (ds := lv.map chD) (es := [chD c]) (Dp.up g4 (Dp.up s5 hl)) (newL_of hp4 (DpAll.cons (Dp.up g3 hy) .nil)).dp (by rw [List.length_map, List.length_singleton]; omega) fun p5 xs5 ys5 hp5 hx5 hy5 => ⟨_, rfl, by show 0 ≤ sizeLine; decide, fun p6 hp6 => ?_⟩
      have g5 := Same.trn g4 (Same.trn (same_new hp5 (.lst (xs5 ++ ys5))) (same_new hp6 (.lst [])))
      refine ⟨v1, .ref p5, .ref p6, t, x.1, n', false, _, .cond, x.2, lv ++ [c], [], rfl, hn, e, Dp.up g5 hv1, (newL_of (ds := []) hp6 .nil).dp, Dp.up (same_new hp6 _) ?_, (ht.up s5).up g5, cc, by rw [List.length_append, List.length_singleton]; omega, (fun z => nomatch z), fun H' g6 => ?_⟩
      · unfold lvD
        rw [List.map_append]
        exact (newL_of hp5 (dpall_app hx5 hy5)).dp
      · have sn := cond_has ((sound T n').1 e _ [] cc fun z => nomatch z)
        have g7 := Same.trn g5 g6
        refine ⟨_, sn, ite2 (fun hb => ⟨_, rfl, hK hb _ _ W Same.rfl' (Same.trn g2 g7) g7 hW (Dp.up g1 hy)⟩) fun hb => hS (Bool.eq_false_iff.mpr hb) _ g7⟩
end
end K23

set_option Elab.async false
set_option linter.all false
set_option maxRecDepth 100000
set_option maxHeartbeats 4000000
/-! K23u: the law's groups. -/
namespace K23
open PySem PySem.Spec PyProof.Rows L2

theorem outs_filter {F : Ch → Bool} : ∀ {l : List Ch} {o : List PyData}, Outs (fun c d => d = chD c ∧ F c = true) (fun c => F c = false) l o → o = (l.filter F).map chD
  | _, _, .nil => rfl
  | _, _, .keep h t => by
    rw [List.filter_cons_of_pos h.2, List.map_cons, ← outs_filter t, h.1]
  | _, _, .skip h t => by
    rw [List.filter_cons_of_neg (by rw [h]; exact Bool.false_ne_true), ← outs_filter t]
def pairD (cs : List (Nat × Nat)) (c : Ch) : PyData := .tuple [rowD (keyM cs c), chD c]
def noE : Addr → Prop := fun _ => False
section
variable {tb : Str → List Row} {sch : List (Str × List Kd)} {P : Program} {w : World} {K : PySem.W.Frag} {mg : Str → Option Value} {base : Heap}
theorem ok_law_grouped (Z : Glb mg) (D : DefN K mg "_law_grouped" 37) : C8.Cal P w K mg base 1 "_law_grouped" (spGrp K) [] := by
  have S : FnScope ["_law_group_here", "_law_choices_here", "_law_keyed", "_law_keys", "_law_choice", "_law_key", "_law_pair_here", "_law_cell"] ["_law_group_here", "_law_choices_here"] (C8.fnScope (top 37)) := C8.fnScope_by (by decide +kernel)
  refine cal_of D S (fun _ _ _ _ _ _ us hl => match us, hl with | [_, _], _ => rfl) (fun vs H Q E h => ?_) fun fa cdv A0 outer s H vs Q E hr h => ?_
  · obtain ⟨vg, vc, cs, chs, scn, rfl, _⟩ := h
    rfl
  obtain ⟨vg, vc, cs, chs, scn, rfl, hg, hc, h4, h27, hch, hcs, q⟩ := h
  refine ⟨_, (pss_cons (ps_set (i := 2) S.nd rfl (by first | exact .inl rfl | exact .inr rfl) (pe_lc (own := [("_law_choice", 4)]) (g := gName 4) (by rfl) S.nd (pi_listK (K := K) (pv 1)) (blkOk_by (own := [("_law_choice", 4)]) (N := ["_law_group_here", "_law_choices_here", "_law_keyed", "_law_keys", "_law_choice", "_law_key", "_law_pair_here", "_law_cell"]) (sc := C8.fnScope (top 37)) (by decide +kernel)) (fun _ _ _ _ _ => pg_name (i := 4) S.nd rfl (by first | exact .inl rfl | exact .inr rfl)) (fun _ _ _ _ _ => pts_nil) (fun _ _ _ _ _ => (pe_tup (pa_cons (pe_callTy (T := "tuple") (cr_tupOf (K := K)) (by rfl) Z.tuple (by decide +kernel) (pa_cons (pe_lc (own := [("_law_cell", 7)]) (g := gName 7) (by rfl) S.nd (pi_listK (K := K) (pv 0)) (blkOk_by (own := [("_law_cell", 7)]) (N := ["_law_group_here", "_law_choices_here", "_law_keyed", "_law_keys", "_law_choice", "_law_key", "_law_pair_here", "_law_cell"]) (sc := relab (lcScope (valOf ((C8.fnBody (top 37)).getD 0 (.Pass ⟨0, 0, 0, 0⟩)))) (C8.fnScope (top 37))) (by decide +kernel)) (fun _ _ _ _ _ => pg_name (i := 7) S.nd rfl (by first | exact .inl rfl | exact .inr rfl)) (fun _ _ _ _ _ => pts_nil) (fun _ _ _ _ _ => (pe_ix (ix_tupK (K := K)) (pe_ix (ix_listK (K := K)) (pv 4) (pe_ix (ix_tupK (K := K)) (pv 7) pe_intA (fun _ _ => rfl)) (fun _ _ => rfl)) (pe_ix (ix_tupK (K := K)) (pv 7) pe_intA (fun _ _ => rfl)) (fun _ _ => rfl)))) pa_nilA)) (pa_cons (pv 4) pa_nilA))))))
    (pss_cons (ps_set (i := 3) S.nd rfl (by first | exact .inl rfl | exact .inr rfl) (pe_callB (id := "sorted") (cr_sortS rfl (HU hr)) (by rfl) Z.sorted (by decide +kernel) (pa_cons (pe_callTy (T := "set") (cr_setD rfl (HU hr)) (by rfl) Z.set (by decide +kernel) (pa_cons (pe_lc (own := [("_law_pair_here", 6)]) (g := gName 6) (by rfl) S.nd (pi_listK (K := K) (pv 2)) (blkOk_by (own := [("_law_pair_here", 6)]) (N := ["_law_group_here", "_law_choices_here", "_law_keyed", "_law_keys", "_law_choice", "_law_key", "_law_pair_here", "_law_cell"]) (sc := C8.fnScope (top 37)) (by decide +kernel)) (fun _ _ _ _ _ => pg_name (i := 6) S.nd rfl (by first | exact .inl rfl | exact .inr rfl)) (fun _ _ _ _ _ => pts_nil) (fun _ _ _ _ _ => (pe_ix (ix_tupK (K := K)) (pv 6) pe_intA (fun _ _ => rfl)))) pa_nilA)) pa_nilA)))
    (pss_one (ps_ret (pe_lc (own := [("_law_key", 5)]) (g := gName 5) (by rfl) S.nd (pi_listK (K := K) (pv 3)) (blkOk_by (own := [("_law_key", 5)]) (N := ["_law_group_here", "_law_choices_here", "_law_keyed", "_law_keys", "_law_choice", "_law_key", "_law_pair_here", "_law_cell"]) (sc := C8.fnScope (top 37)) (by decide +kernel)) (fun _ _ _ _ _ => pg_name (i := 5) S.nd rfl (by first | exact .inl rfl | exact .inr rfl)) (fun _ _ _ _ _ => pts_nil) (fun _ _ _ _ _ => (pe_lc (own := [("_law_pair_here", 6)]) (g := gName 6) (by rfl) S.nd (pi_listK (K := K) (pv 2)) (blkOk_by (own := [("_law_pair_here", 6)]) (N := ["_law_group_here", "_law_choices_here", "_law_keyed", "_law_keys", "_law_choice", "_law_key", "_law_pair_here", "_law_cell"]) (sc := relab (lcScope (valOf ((C8.fnBody (top 37)).getD 2 (.Pass ⟨0, 0, 0, 0⟩)))) (C8.fnScope (top 37))) (by decide +kernel)) (fun _ _ _ _ _ => pg_name (i := 6) S.nd rfl (by first | exact .inl rfl | exact .inr rfl)) (fun _ _ _ _ _ => (pts_one (pt_cmpR (op_eqDK (K := K) (HU hr)) (pe_ix (ix_tupK (K := K)) (pv 6) pe_intA (fun _ _ => rfl)) (pv 5) (nomark _)))) (fun _ _ _ _ _ => (pe_ix (ix_tupK (K := K)) (pv 6) pe_intA (fun _ _ => rfl)))))))))), ?_⟩
  obtain ⟨ca, cl, rfl, hca, hcl⟩ := dp_list hc
  obtain ⟨ga, gl, rfl, hga, hgl⟩ := dp_list hg
  refine ⟨_, rfl, ca, rfl, ⟨_, hca⟩, fun DD hDD => ?_⟩
  refine lc_dp (as := chs) (enc := chD) (fun _ => true) (pairD cs) hca hcl hDD (by omega) (fun c x W H1 hcm hx g1 g2 hW hDs Kp Sk hK _ => ?_) fun H2 ys g1 hD2 _ hys => ?_
  · have hcK := hch c hcm
    have g3 := Same.trn g1 g2
    refine ⟨rfl, _, rfl, ga, rfl, ⟨_, g3.seq hga⟩, fun D2 hD2 => ?_⟩
    refine lc_dp (as := cs) (enc := fun p => cellD 0 p.1 p.2) (fun _ => true) (fun p => keyD ((c[p.1]?.getD [])[p.2]?.getD (.inl 0))) (g3.seq hga) (DpAll.up g3 hgl) hD2 (by omega) (fun p y W3 H3 hp hy k1 k2 hW3 hDs3 Kp3 Sk3 hK3 _ => ?_) fun H3 ys k1 hD3 _ hys => ?_
    · obtain ⟨r, key, k, e1, e2, e3, _⟩ := cell_key hcK (hcs p hp)
      have k3 := Same.trn k1 k2
      refine ⟨rfl, _, rfl, _, rfl, ixT_d 2 (Dp.up k3 hy) rfl fun v1 hv1 => ?_⟩
      cases dp_int hv1
      refine ixL_d p.1 (d := rowD r) (Dp.up (Same.trn g3 k3) hx) (by rw [List.getElem?_map, e1]; rfl) fun v2 hv2 => ?_
      refine ⟨_, rfl, ixT_d 3 (Dp.up k3 hy) rfl fun v3 hv3 => ?_⟩
      cases dp_int hv3
      refine ixT_d p.2 (d := keyD key) hv2 (by rw [List.getElem?_map, e2]; rfl) fun v4 hv4 => ?_
      rw [dp_key hv4]
      refine hK3 rfl _ _ W3 Same.rfl' k2 Same.rfl' hW3 ?_
      rw [e3]
      exact key_dp _
    · have hys2 : ys = (keyM cs c).map kV := by
        refine dpall_keys (r := keyM cs c) (K := K) (H := H3) ?_
        rw [List.filter_eq_self.mpr fun _ _ => rfl] at hys
        unfold keyM
        rw [List.map_map]
        exact hys
      subst hys2
      refine ⟨D2, _, rfl, .inl ⟨SqL.of hD3, fun l hl => ⟨_, rfl, by show 2 ≤ sizeLine; decide, fun p hp => ?_⟩⟩⟩
      have w3 := Same.trn g2 k1
      have hWl := same_none w3 hl
      have w4 := same_upd w3 hl (.tup ((keyM cs c).map kV))
      have hWp := same_none w4 hp
      have lD : DD ≠ l := fun z => (up_ne k1 hDs) (by rw [z]; exact hl)
      have pD : DD ≠ p := fun z => (up_ne (Same.trn k1 (same_new hl _)) hDs) (by rw [z]; exact hp)
      refine hK rfl _ _ (upd (upd W l (.tup ((keyM cs c).map kV))) p (.tup [.ref l, x])) (Same.trn (same_new hWl _) (same_new hWp _)) (same_upd w4 hp _) (Same.trn k1 (Same.trn (same_new hl _) (same_new hp _))) (by rw [upd_ne pD, upd_ne lD]; exact hW) ?_
      exact newT_of hWp (.cons (row_dp (.inl (.inl upd_same))) (.cons (Dp.up (Same.trn g1 (same_new hWl _)) hx) .nil))
  · rw [List.filter_eq_self.mpr fun _ _ => rfl] at hys
    have hkd : Dp K H2 (.ref DD) (.list (chs.map (pairD cs))) := .lst (SqL.of hD2) hys
    have hyl : ys.length = chs.length := by rw [dpall_len hys, List.length_map]
    -- keys
    refine ⟨_, rfl, DD, rfl, ⟨_, SqL.of hD2⟩, fun D3 hD3 => ?_⟩
    refine lc_dp (as := chs) (enc := pairD cs) (fun _ => true) (fun c => rowD (keyM cs c)) (SqL.of hD2) hys hD3 (by omega) (fun c x W H3 hcm hx k1 k2 hW hDs Kp Sk hK _ => ?_) fun H3 zs k1 hD4 _ hzs => ?_
    · exact ⟨rfl, _, rfl, ixT_w 0 k2 (Dp.up k1 hx) rfl fun v hv => hK rfl _ _ W Same.rfl' k2 Same.rfl' hW hv⟩
    · rw [List.filter_eq_self.mpr fun _ _ => rfl] at hzs
      refine ss_use (chs.map (keyM cs)) (kindsM scn cs) ?_ (fun r hr => ?_) (by rw [List.length_map]; omega) fun ka H4 N => ?_
      · unfold rowsD
        rw [List.map_map]
        exact .lst (SqL.of hD4) hzs
      · obtain ⟨c, hcm, rfl⟩ := List.mem_map.mp hr
        exact keyM_kinds (hch c hcm) hcs
      · have s4 : Same H H4 := Same.trn g1 (Same.trn k1 N.1)
        have s24 : Same H2 H4 := Same.trn k1 N.1
        have rk : ∀ r ∈ chs.map (keyM cs), RowK (kindsM scn cs) r := fun r hr => by
          obtain ⟨c, hcm, rfl⟩ := List.mem_map.mp hr
          exact keyM_kinds (hch c hcm) hcs
        obtain ⟨ka', kl, e0, hka, hkl⟩ := dp_list N.dp
        cases e0
        have hsl : (sortR (chs.map (keyM cs))).length ≤ 27 := by
          have := sortR_len (chs.map (keyM cs))
          rw [List.length_map] at this
          omega
        refine ⟨_, rfl, ka, rfl, ⟨_, hka⟩, fun D4 hD4' => ?_⟩
        refine lc_dp (as := sortR (chs.map (keyM cs))) (enc := rowD) (fun _ => true) (fun k => chsD (chs.filter fun c => decide (keyM cs c = k))) hka hkl hD4' (by omega) (fun k kx W H5 hkm hkx w1 w2 hW hDs Kp Sk hK _ => ?_) fun H5 us w1 hD5 _ hus => ?_
        · have rkk := rk k (mem_sortR.mp hkm)
          refine ⟨rfl, _, rfl, DD, rfl, ⟨_, (Same.trn s24 (Same.trn w1 w2)).seq (SqL.of hD2)⟩, fun D5 hD5 => ?_⟩
          refine lc_view (E := noE) (V0 := W) (H := H5) (xs := ys) (as := chs) (Rel := fun c x => Dp K H2 x (pairD cs c)) (J := fun _ => True) (R := fun c d => d = chD c ∧ decide (keyM cs c = k) = true) (N := fun c => decide (keyM cs c = k) = false)
            w2 ((Same.trn s24 w1).seq (SqL.of hD2)) hyl (fun i c x e1 e2 => ?_) hD5 (fun z => z) (fun _ _ _ => trivial) trivial (by omega) (fun c x hcm hx W6 H6 g6 hW6 hD6 _ Kp6 Sk6 hK6 hS6 => ?_) fun H' W2 zs outs g7 _ hD5' hW2 ho hd => ?_
          · obtain ⟨d, f1, f2⟩ := dpall_get2 hys e2
            rw [List.getElem?_map, e1] at f1
            cases f1
            exact f2
          · have x6 : Dp K W6 x (pairD cs c) := Dp.up (Same.trn s24 (Same.trn w1 g6.g)) hx
            have k6 : Dp K H6 kx (rowD k) := Dp.up (Same.trn w1 (Same.trn g6.g g6.i)) hkx
            refine ⟨rfl, _, rfl, ixT_w 0 g6.i x6 rfl fun v hv => ⟨_, rfl, rowD (keyM cs c), rowD k, Dp.up g6.i hv, k6, row_shaped (keyM_kinds (hch c hcm) hcs), row_shaped rkk, _, rfl, ?_⟩⟩
            rw [row_eqv]
            exact ite2 (fun hb => ⟨_, rfl, ixT_w 1 g6.i x6 rfl fun v hv => hK6 _ v H6 W6 ⟨rfl, hb⟩ (Grow.here g6.i) trivial hv⟩) fun hb => hS6 W6 H6 (Bool.eq_false_iff.mpr hb) (Grow.here g6.i) trivial
          · have e5 := outs_filter ho
            have D45 : D4 ≠ D5 := fun z => hDs (by rw [z]; exact hD5)
            refine hK rfl _ _ (upd W2 D5 (.lst zs)) (Same.trn g7.g (same_new hW2 _)) (fun b u e => ?_) (fun b u e => g7.k b u e fun z => z) ?_ ?_
            · by_cases z : b = D5
              · subst z
                rw [upd_same] at e
                rw [hD5', e]
              · rw [upd_ne z] at e
                exact g7.i b u e
            · rw [upd_ne D45]
              exact g7.f D4 hDs hW
            · rw [e5] at hd
              exact .lst (SqL.of upd_same) (DpAll.up (same_new hW2 _) hd)
        · refine q _ _ ⟨Same.trn s4 w1, us, hD5, ?_⟩
          rw [List.filter_eq_self.mpr fun _ _ => rfl] at hus
          unfold groupsM
          rw [List.map_map]
          exact hus
end
end K23

set_option Elab.async false
set_option linter.all false
set_option maxRecDepth 100000
set_option maxHeartbeats 4000000
/-! K23v: the law's rows. -/
namespace K23
open PySem PySem.Spec PyProof.Rows L2

section
variable {tb : Str → List Row} {sch : List (Str × List Kd)} {P : Program} {w : World} {K : PySem.W.Frag} {mg : Str → Option Value} {base : Heap}
theorem ok_law_rows (T : TbOk tb sch) (Z : Glb mg) (D : DefN K mg "_law_rows" 38) {n : Nat} (c__law_choices : C8.Cal P w K mg base (8 * n + 9) "_law_choices" (spLCho tb sch K n) []) (c__law_grouped : C8.Cal P w K mg base 1 "_law_grouped" (spGrp K) [])
    (c__law_eval : C8.Cal P w K mg base (8 * n + 8) "_law_eval" (spLE tb sch K n) []) (c__law_rows : C8.Cal P w K mg base (8 * n + 4) "_law_rows" (spLR tb sch K n) []) :
    C8.Cal P w K mg base (8 * n + 11 + 1) "_law_rows" (spLR tb sch K (n + 1)) [] := by
  have S : FnScope ["_law_question_here", "_law_tables", "_law_levels", "_law_left", "_law_right", "_law_choices_here", "_law_groups", "_law_rows_here", "_law_members", "_law_inner", "_law_row", "_law_choice", "_law_e"] ["_law_question_here", "_law_tables", "_law_levels"] (C8.fnScope (top 38)) := C8.fnScope_by (by decide +kernel)
  refine cal_of D S (fun _ _ _ _ _ _ us hl => match us, hl with | [_, _, _], _ => rfl) (fun vs H Q E h => ?_) fun fa cdv A outer s H vs Q E hr h => ?_
  · obtain ⟨vq, vl, t, d, n', m, sc, ks, q, lv, rfl, _⟩ := h
    rfl
  obtain ⟨vq, vl, t, d, n', m, sc, ks, q, lv, rfl, hn, e, hq, hl, ht, hC, h9, hQ⟩ := h
  refine ⟨_, (pss_cons (ps_if (pt_eqS (pe_ix (ix_tupK (K := K)) (pv 0) pe_intA (fun _ _ => rfl)))
      (pss_cons (ps_set (i := 5) S.nd rfl (by first | exact .inl rfl | exact .inr rfl) (C8.pe_c c__law_choices hr (by omega) rfl (pa_cons (pv 0) (pa_cons (pv 1) (pa_cons (pv 2) pa_nilA)))))
    (pss_cons (ps_setLc (i := 6) (own := [("_law_choice", 11)]) (g := gName 11) (by rfl) S.nd rfl rfl (sw_true rfl rfl rfl (by decide +kernel)) (pi_listK (K := K) (pv 5)) (blkOk_by (own := [("_law_choice", 11)]) (N := ["_law_question_here", "_law_tables", "_law_levels", "_law_left", "_law_right", "_law_choices_here", "_law_groups", "_law_rows_here", "_law_members", "_law_inner", "_law_row", "_law_choice", "_law_e"]) (sc := C8.fnScope (top 38)) (by decide +kernel)) (fun _ _ _ _ _ => pg_name (i := 11) S.nd rfl (by first | exact .inl rfl | exact .inr rfl)) (fun _ _ _ _ _ => pts_nil) (fun _ _ _ _ _ => (pe_lst (pa_cons (pv 11) pa_nilA))))
    (C8.pss_cut (ps_if (pt_cmpR (op_notN) (pe_ix (ix_tupK (K := K)) (pv 0) pe_intA (fun _ _ => rfl)) pe_nonA (nomark _))
      (pss_one (ps_set (i := 6) S.nd rfl (by first | exact .inl rfl | exact .inr rfl) (C8.pe_c c__law_grouped hr (by omega) rfl (pa_cons (pe_ix (ix_tupK (K := K)) (pv 0) pe_intA (fun _ _ => rfl)) (pa_cons (pv 5) pa_nilA)))))
      pss_nil)
    (pss_cons (ps_set (i := 7) S.nd rfl (by first | exact .inl rfl | exact .inr rfl) (pe_lst pa_nilA))
    (pss_cons (ps_for PassesOwn.never rfl (pi_listK (K := K) (pv 6)) (pg_name (i := 8) S.nd rfl (by first | exact .inl rfl | exact .inr rfl))
      (pss_cons (ps_set (i := 9) S.nd rfl (by first | exact .inl rfl | exact .inr rfl) (pe_op (op_catK (K := K)) (pv 2) (pe_lst (pa_cons (pe_ix (ix_listK (K := K)) (pv 8) pe_intA (fun _ _ => rfl)) pa_nilA))))
    (pss_one (ps_if (PW.pt (pw_or (pt_cmpR (op_isN) (pe_ix (ix_tupK (K := K)) (pv 0) pe_intA (fun _ _ => rfl)) pe_nonA (nomark _)) (pw_or1 (pt_val (C8.pe_c c__law_eval hr (by omega) rfl (pa_cons (pe_ix (ix_tupK (K := K)) (pv 0) pe_intA (fun _ _ => rfl)) (pa_cons (pv 9) (pa_cons (pv 1) (pa_cons (pv 8) pa_nilA)))))))))
      (pss_one (ps_expr (pe_bm PySem.F.plainAttrs_list PySem.F.slot_list_append PySem.F.type_list_append mt_append (pv 7) (pa_cons (pe_callTy (T := "tuple") (cr_tupOf (K := K)) (by rfl) Z.tuple (by decide +kernel) (pa_cons (pe_lc (own := [("_law_e", 12)]) (g := gName 12) (by rfl) S.nd (pi_listK (K := K) (pe_ix (ix_tupK (K := K)) (pv 0) pe_intA (fun _ _ => rfl))) (blkOk_by (own := [("_law_e", 12)]) (N := ["_law_question_here", "_law_tables", "_law_levels", "_law_left", "_law_right", "_law_choices_here", "_law_groups", "_law_rows_here", "_law_members", "_law_inner", "_law_row", "_law_choice", "_law_e"]) (sc := C8.fnScope (top 38)) (by decide +kernel)) (fun _ _ _ _ _ => pg_name (i := 12) S.nd rfl (by first | exact .inl rfl | exact .inr rfl)) (fun _ _ _ _ _ => pts_nil) (fun _ _ _ _ _ => (C8.pe_c c__law_eval hr (by omega) rfl (pa_cons (pv 12) (pa_cons (pv 9) (pa_cons (pv 1) (pa_cons (pv 8) pa_nilA))))))) pa_nilA)) pa_nilA))))
      pss_nil))))
    (pss_one (ps_ret (pe_callB (id := "sorted") (cr_sortS rfl (HU hr)) (by rfl) Z.sorted (by decide +kernel) (pa_cons (pe_callTy (T := "set") (cr_setD rfl (HU hr)) (by rfl) Z.set (by decide +kernel) (pa_cons (pv 7) pa_nilA)) pa_nilA)))))))))
      pss_nil)
    (pss_cons (ps_set (i := 3) S.nd rfl (by first | exact .inl rfl | exact .inr rfl) (C8.pe_c c__law_rows hr (by omega) rfl (pa_cons (pe_ix (ix_tupK (K := K)) (pv 0) pe_intA (fun _ _ => rfl)) (pa_cons (pv 1) (pa_cons (pv 2) pa_nilA)))))
    (pss_cons (ps_set (i := 4) S.nd rfl (by first | exact .inl rfl | exact .inr rfl) (C8.pe_c c__law_rows hr (by omega) rfl (pa_cons (pe_ix (ix_tupK (K := K)) (pv 0) pe_intA (fun _ _ => rfl)) (pa_cons (pv 1) (pa_cons (pv 2) pa_nilA)))))
    (pss_cons (ps_if (pt_eqS (pe_ix (ix_tupK (K := K)) (pv 0) pe_intA (fun _ _ => rfl)))
      (pss_one (ps_ret (pe_callB (id := "sorted") (cr_sortS rfl (HU hr)) (by rfl) Z.sorted (by decide +kernel) (pa_cons (pe_callTy (T := "set") (cr_setD rfl (HU hr)) (by rfl) Z.set (by decide +kernel) (pa_cons (pe_op (op_catK (K := K)) (pv 3) (pv 4)) pa_nilA)) pa_nilA))))
      pss_nil)
    (pss_one (ps_ret (pe_lc (own := [("_law_row", 10)]) (g := gName 10) (by rfl) S.nd (pi_listK (K := K) (pv 3)) (blkOk_by (own := [("_law_row", 10)]) (N := ["_law_question_here", "_law_tables", "_law_levels", "_law_left", "_law_right", "_law_choices_here", "_law_groups", "_law_rows_here", "_law_members", "_law_inner", "_law_row", "_law_choice", "_law_e"]) (sc := C8.fnScope (top 38)) (by decide +kernel)) (fun _ _ _ _ _ => pg_name (i := 10) S.nd rfl (by first | exact .inl rfl | exact .inr rfl)) (fun _ _ _ _ _ => (pts_one (pt_cmpR (op_eq) (pe_cmpR (op_inDK (K := K) (HU hr)) (pv 10) (pv 4) (by with_unfolding_all rfl)) (pe_eqS (pe_ix (ix_tupK (K := K)) (pv 0) pe_intA (fun _ _ => rfl))) (nomark _)))) (fun _ _ _ _ _ => (pv 10))))))))), ?_⟩
  have part : ∀ {n2 m2 : Nat} {d2 : PyData} {q2 : Lv → List Row} {v : V} {Q2 : VK} {H2 : Hp}, n2 < n' → RepQ tb sch n2 m2 sc d2 ks q2 → Same H H2 → Dp K H2 v d2 → (∀ a H', NewL K H2 H' a ((q2 lv).map rowD) → Q2 (.ref a) H') → spLR tb sch K n [v, .ref t, vl] H2 Q2 C8.E0 := fun {n2 m2 d2 q2 v Q2 H2} hn2 e2 s2 hv k2 =>
    ⟨v, vl, t, d2, n2, m2, sc, ks, q2, lv, rfl, by omega, e2, hv, Dp.up s2 hl, ht.up s2, hC, by omega, k2⟩
  have snd : ∀ {n2 m2 : Nat} {d2 : PyData} {q2 : Lv → List Row}, RepQ tb sch n2 m2 sc d2 ks q2 → (∀ r ∈ q2 lv, RowK ks r) ∧ (q2 lv).length ≤ 27 * m2 := fun {n2 m2 d2 q2} e2 => (sound T n2).2 e2 lv hC
  cases e with
  | @sel _ n2 _ _ items srcs wh grp hav h hm hs hl2 hne hil hik hi hw hg hh =>
    have Y : SelAt tb sch n2 sc items srcs wh grp hav := ⟨hs, hl2, hne, hil, hik, hi, hw, hg, hh⟩
    have hn' : n2 < n := by omega
    have h9' : lv.length + 1 + n2 ≤ 1000 := by omega
    have q : ∀ a H', NewL K H H' a ((selM tb items srcs wh grp hav lv).map rowD) → Q (.ref a) H' := hQ
    clear hQ part snd
    generalize n2 = n' at *
    refine ⟨_, rfl, ixT_d 0 hq rfl fun v hv => ?_⟩
    cases dp_str hv
    refine ⟨_, rfl, iteTd rfl ⟨_, rfl, _, rfl, _, rfl, vq, vl, t, sc, lv, srcs, wh, _, _, _, rfl, hq, Y.hs, Y.hl, (fun x hx => ⟨_, hn', by omega, Y.hw x hx⟩), hl, ht, hC, by omega, fun ca H1 N1 => ?_⟩⟩
    have s1 := N1.1
    have hb27 := choices_27 T Y.hs Y.hl wh lv
    obtain ⟨ca', cl, e0, hca, hcl⟩ := dp_list N1.dp
    cases e0
    refine ⟨_, rfl, ca, rfl, ⟨_, hca⟩, fun DD hDD => ?_⟩
    refine lc_dp (as := choicesM tb srcs wh lv) (enc := chD) (fun _ => true) (fun c => chsD [c]) hca hcl hDD (by omega) (fun c y W H3 hc hy g1 g2 hW hDs Kp Sk hK _ => ?_) fun H3 ys g1 hD2 _ hys => ?_
    · refine ⟨rfl, _, rfl, by show 1 ≤ sizeLine; decide, fun p hp => ?_⟩
      have hWp := same_none g2 hp
      refine hK rfl _ _ (upd W p (.lst [y])) (same_new hWp _) (same_upd g2 hp _) (same_new hp _) ?_ (newL_of hWp (DpAll.cons (Dp.up g1 hy) .nil)).dp
      rw [upd_ne (fun z => ?_)]
      · exact hW
      · subst z
        exact hDs hp
    · have s13 := Same.trn s1 g1
      rw [List.filter_eq_self.mpr fun _ _ => rfl] at hys
      refine ⟨fun σ' H' => ∃ ga, σ' = [some vq, some (.ref t), some vl, none, none, some (.ref ca), some (.ref ga), none, none, none, none, none, none] ∧ Same H H' ∧ Dp K H' (.ref ga) (.list ((groupsM grp (choicesM tb srcs wh lv)).map chsD)), ?_, fun σ' H2 ⟨ga, e, s2, hgr⟩ => ?_⟩
      · refine ⟨_, rfl, ixT_d 4 (Dp.up s13 hq) rfl fun v hv => ⟨rfl, _, rfl, ?_⟩⟩
        cases grp with
        | none =>
          cases dp_non hv
          refine iteFd rfl ⟨DD, rfl, s13, ?_⟩
          unfold groupsM
          rw [List.map_map]
          exact .lst (SqL.of hD2) hys
        | some cs =>
          have hv' : (!decide (v = V.non)) = true := by
            rw [decide_eq_false fun z => ?_]
            · rfl
            · subst z
              cases (show Dp K _ V.non (.list _) from hv)
          refine iteTd hv' ⟨_, rfl, ixT_d 4 (Dp.up s13 hq) rfl fun v hv => ⟨_, rfl, _, _, cs, choicesM tb srcs wh lv, srcs.map (·.2), rfl, hv, Dp.up g1 N1.dp, (Y.hg cs rfl).1, hb27, choices_all T Y.hs wh lv, (Y.hg cs rfl).2, fun ga H2 N2 => ?_⟩⟩
          exact ⟨ga, rfl, Same.trn s13 N2.1, N2.dp⟩
      · subst e
        refine ⟨by show 0 ≤ sizeLine; decide, fun ra hra => ?_⟩
        -- the loop over the groups
        obtain ⟨ga', gl, e0, hga, hgl⟩ := dp_list hgr
        cases e0
        have s3 := Same.trn s2 (same_new hra (.lst []))
        have hgl2 : gl.length = (groupsM grp (choicesM tb srcs wh lv)).length := by rw [dpall_len hgl, List.length_map]
        have hg27 : (groupsM grp (choicesM tb srcs wh lv)).length ≤ 27 := Nat.le_trans (groups_len _ _) (choices_27 T Y.hs Y.hl wh lv)
        refine ⟨_, rfl, ga, rfl, ⟨_, (same_new hra _).seq hga⟩, ?_⟩
        refine for_list (xs := gl) (fun i σ H' => ∃ a5 a7, σ = [some vq, some (.ref t), some vl, none, none, some (.ref ca), some (.ref ga), some (.ref ra), a5, a7, none, none, none] ∧ ∃ W acc, Same H2 W ∧ Same W H' ∧ W ra = none ∧ H' ra = some (.lst acc) ∧
            DpAll K W acc ((((groupsM grp (choicesM tb srcs wh lv)).take i).filter (havM hav lv)).map fun ms => rowD (rowM items lv ms)))
          ⟨none, none, rfl, H2, [], Same.rfl', same_new hra _, hra, upd_same, .nil⟩ (fun i σ H' _ ⟨_, _, _, W, acc, g1, g2, _⟩ => (Same.trn g1 g2).seq hga) (fun i x σ H' hi ⟨a5, a7, e, W, acc, g1, g2, hW, hra2, hacc⟩ => ?_) fun σ H' ⟨a5, a7, e, W, acc, g1, g2, hW, hra2, hacc⟩ => ?_
        · subst e
          obtain ⟨dd, f1, f2⟩ := dpall_get2 hgl hi
          rw [List.getElem?_map] at f1
          obtain ⟨ms, f3, f4⟩ := Option.map_eq_some_iff.mp f1
          subst f4
          have hmem := List.mem_of_getElem? f3
          obtain ⟨M, CC⟩ := groups_Mem T Y.hs Y.hl hmem hC
          have hne := M.1
          have et : (groupsM grp (choicesM tb srcs wh lv)).take (i + 1) = (groupsM grp (choicesM tb srcs wh lv)).take i ++ [ms] := by
            rw [List.take_add_one, f3]
            rfl
          have s4 := Same.trn s2 (Same.trn g1 g2)
          have g12 := Same.trn g1 g2
          refine ⟨_, rfl, _, rfl, ixL_d 0 (d := chD (headC ms)) (Dp.up g12 f2) (by cases ms with | nil => exact absurd rfl hne | cons a l => rfl) fun v hv => ⟨by show 1 ≤ sizeLine; decide, fun p2 hp2 => ?_⟩⟩
          have u2 := same_new hp2 (.lst [v])
          refine cat_d (ds := lv.map chD) (es := [chD (headC ms)]) (Dp.up u2 (Dp.up s4 hl)) (newL_of hp2 (DpAll.cons hv .nil)).dp (by rw [List.length_map, List.length_singleton]; omega) fun p3 xs3 ys3 hp3 hx3 hy3 => ?_
          have u3 := Same.trn u2 (same_new hp3 (.lst (xs3 ++ ys3)))
          have inner : Dp K (upd (upd H' p2 (.lst [v])) p3 (.lst (xs3 ++ ys3))) (.ref p3) (lvD (lv ++ [headC ms])) := by
            unfold lvD
            rw [List.map_append]
            exact (newL_of hp3 (dpall_app hx3 hy3)).dp
          have lvl : (lv ++ [headC ms]).length + n' ≤ 1000 := by
            rw [List.length_append, List.length_singleton]
            omega
          have s5 := Same.trn s4 u3
          have g5 := Same.trn g12 u3
          -- a call of _law_eval in this turn
          have gv : ∀ {d : PyData} {k : Kd} {f : Sem} {v0 : V} {Q2 : VK} {H6 : Hp}, RepE tb sch n' true (srcs.map (·.2) :: sc) d k f → Same (upd (upd H' p2 (.lst [v])) p3 (.lst (xs3 ++ ys3))) H6 → Dp K H6 v0 d → (∀ H7, Same H6 H7 → Q2 (f (lv ++ [headC ms]) ms) H7) →
              spLE tb sch K n [v0, .ref p3, .ref t, x] H6 Q2 C8.E0 := fun {d k f v0 Q2 H6} e k1 hd hq2 =>
            ⟨v0, .ref p3, x, t, d, n', true, _, k, f, lv ++ [headC ms], ms, rfl, hn', e, hd, Dp.up (Same.trn g5 k1) f2, Dp.up k1 inner, (ht.up s5).up k1, CC, lvl, fun _ => M, hq2⟩
          dsimp only [gName]
          refine if_use (havM hav lv ms) (fun Q2 hQ2 => ?_) fun H5 s6 => ?_
          · refine ⟨_, rfl, ixT_d 5 (Dp.up s5 hq) rfl fun v1 hv1 => ⟨rfl, _, rfl, ?_⟩⟩
            cases hav with
            | none =>
              cases dp_non hv1
              exact iteTd rfl (hQ2 _ Same.rfl')
            | some hx =>
              have e := Y.hh hx rfl
              have hv' : decide (v1 = V.non) = false := by
                refine decide_eq_false fun z => ?_
                subst z
                obtain ⟨ds, e'⟩ := e.tup
                have hv2 : Dp K _ V.non hx.1 := hv1
                rw [e'] at hv2
                cases hv2
              refine iteFd hv' ⟨_, rfl, ixT_d 5 (Dp.up s5 hq) rfl fun v2 hv2 => ⟨_, rfl, _, rfl, _, rfl, gv e Same.rfl' hv2 fun H7 k7 => ⟨_, cond_has ((sound T n').1 e _ ms CC fun _ => M), hQ2 _ k7⟩⟩⟩
          · have s7 := Same.trn s5 s6
            have hra5 : H5 ra = some (.lst acc) := s6 _ _ (u3 _ _ hra2)
            have gW5 : Same W H5 := Same.trn g2 (Same.trn u3 s6)
            refine ite2 (fun hb => ?_) (fun hb => ?_)
            · refine ⟨_, rfl, .inl ⟨rfl, _, SqL.of hra5⟩, _, rfl, ixT_d 1 (Dp.up s7 hq) rfl fun v1 hv1 => ?_⟩
              obtain ⟨ia, il, rfl, hia, hilv⟩ := dp_list hv1
              refine ⟨ia, rfl, ⟨_, hia⟩, fun DD hDD => ?_⟩
              have h100 := Y.hil
              refine lc_dp (as := items) (enc := (·.1)) (fun _ => true) (fun it => keyD (keyOf (it.2.2 (lv ++ [headC ms]) ms))) hia hilv hDD (by omega) (fun it y W6 H6 hit hy k1 k2 hW6 _ Kp Sk hK _ => ?_) fun H7 ys k1 hD7 _ hys => ?_
              · refine ⟨rfl, _, rfl, _, rfl, _, rfl, _, rfl, gv (Y.hi it hit) (Same.trn s6 (Same.trn k1 k2)) (Dp.up (Same.trn k1 k2) hy) fun H7 k7 => ?_⟩
                refine hK rfl _ _ W6 Same.rfl' (Same.trn k2 k7) k7 hW6 ?_
                have sn := (sound T n').1 (Y.hi it hit) _ ms CC fun _ => M
                have e1 := key_dp (K := K) (H := W6) (keyOf (it.2.2 (lv ++ [headC ms]) ms))
                rw [kV_keyOf sn (Y.hik it hit)] at e1
                exact e1
              · have hys2 : ys = (rowM items lv ms).map kV := by
                  refine dpall_keys (r := rowM items lv ms) (K := K) (H := H7) ?_
                  rw [List.filter_eq_self.mpr fun _ _ => rfl] at hys
                  unfold rowM
                  rw [List.map_map]
                  exact hys
                subst hys2
                refine ⟨DD, _, rfl, .inl ⟨SqL.of hD7, fun l hl => ?_⟩⟩
                have hra7 := k1 _ _ hra5
                have rne : ra ≠ l := fun z => by
                  rw [← z, hra7] at hl
                  cases hl
                have gW7 := Same.trn gW5 k1
                have hWl := same_none gW7 hl
                have hlacc : acc.length ≤ 27 := by
                  have l1 := dpall_len hacc
                  rw [List.length_map] at l1
                  have l2 := List.length_filter_le (havM hav lv) ((groupsM grp (choicesM tb srcs wh lv)).take i)
                  rw [List.length_take] at l2
                  omega
                refine ⟨ra, acc, .ref l, rfl, rfl, by rw [upd_ne rne]; exact hra7, by rw [sizeLine_eq]; omega, _, _, rfl, upd W l (.tup ((rowM items lv ms).map kV)), acc ++ [.ref l], Same.trn g1 (same_new hWl _), fun b u e => ?_, by rw [upd_ne rne]; exact hW, upd_same, ?_⟩
                · have bne : b ≠ ra := fun z => by
                    rw [z, upd_ne rne, hW] at e
                    cases e
                  rw [upd_ne bne]
                  exact same_upd gW7 hl _ b u e
                · rw [et, List.filter_append, List.map_append, List.filter_cons_of_pos hb, List.filter_nil]
                  exact dpall_snoc (DpAll.up (same_new hWl _) hacc) (row_dp (.inl (.inl upd_same)))
            · refine ⟨_, _, rfl, W, acc, g1, gW5, hW, hra5, ?_⟩
              rw [et, List.filter_append, List.filter_cons_of_neg hb, List.filter_nil, List.append_nil]
              exact hacc
        · subst e
          rw [hgl2, List.take_length] at hacc
          have s4 := Same.trn s2 (Same.trn g1 g2)
          refine ⟨_, rfl, ss_use (((groupsM grp (choicesM tb srcs wh lv)).filter (havM hav lv)).map (rowM items lv)) (items.map (·.2.1)) ?_ (fun r hr => ?_) ?_ fun a H9 N => q _ _ ⟨Same.trn s4 N.1, N.2⟩⟩
          · unfold rowsD
            rw [List.map_map]
            exact .lst (SqL.of hra2) (DpAll.up g2 hacc)
          · obtain ⟨ms, hms, rfl⟩ := List.mem_map.mp hr
            obtain ⟨M, CC⟩ := groups_Mem T Y.hs Y.hl (List.mem_filter.mp hms).1 hC
            refine paired_map items fun x hx => ⟨Y.hik x hx, ?_⟩
            have q := (sound T n').1 (Y.hi x hx) _ ms CC fun _ => M
            rw [kV_keyOf q (Y.hik x hx)]
            exact q
          · rw [List.length_map]
            have := List.length_filter_le (havM hav lv) (groupsM grp (choicesM tb srcs wh lv))
            omega
  | uni h hm h11 e1 e2 =>
    refine ⟨_, rfl, ixT_d 0 hq rfl fun v hv => ?_⟩
    cases dp_str hv
    refine ⟨_, rfl, iteFd rfl ⟨_, rfl, ixT_d 1 hq rfl fun v1 hv1 => ⟨_, rfl, _, rfl, part h e1 Same.rfl' hv1 fun a1 H1 N1 => ?_⟩⟩⟩
    refine ⟨_, rfl, ixT_d 2 (Dp.up N1.1 hq) rfl fun v2 hv2 => ⟨_, rfl, _, rfl, part h e2 N1.1 hv2 fun a2 H2 N2 => ?_⟩⟩
    have s2 := Same.trn N1.1 N2.1
    refine ⟨_, rfl, ixT_d 0 (Dp.up s2 hq) rfl fun v hv => ?_⟩
    cases dp_str hv
    have b1 := snd e1
    have b2 := snd e2
    refine ⟨_, rfl, iteTd rfl ⟨_, rfl, _, rfl, cat_d (Dp.up N2.1 N1.dp) N2.dp (by rw [List.length_map, List.length_map]; omega) fun p xs ys hp hxs hys => ?_⟩⟩
    refine ss_use (_ ++ _) ks ?_ (fun r hr => (List.mem_append.mp hr).elim (b1.1 r) (b2.1 r)) (by rw [List.length_append]; omega) fun a H9 N => hQ _ _ ⟨Same.trn s2 (Same.trn (same_new hp _) N.1), N.2⟩
    unfold rowsD
    rw [List.map_append]
    exact (newL_of hp (dpall_app hxs hys)).dp
  | exc h hm h11 e1 e2 =>
    refine ⟨_, rfl, ixT_d 0 hq rfl fun v hv => ?_⟩
    cases dp_str hv
    refine ⟨_, rfl, iteFd rfl ⟨_, rfl, ixT_d 1 hq rfl fun v1 hv1 => ⟨_, rfl, _, rfl, part h e1 Same.rfl' hv1 fun a1 H1 N1 => ?_⟩⟩⟩
    refine ⟨_, rfl, ixT_d 2 (Dp.up N1.1 hq) rfl fun v2 hv2 => ⟨_, rfl, _, rfl, part h e2 N1.1 hv2 fun a2 H2 N2 => ?_⟩⟩
    have s2 := Same.trn N1.1 N2.1
    refine ⟨_, rfl, ixT_d 0 (Dp.up s2 hq) rfl fun v hv => ?_⟩
    cases dp_str hv
    have b1 := snd e1
    have b2 := snd e2
    obtain ⟨la, ll, e0, hla, hll⟩ := dp_list (Dp.up N2.1 N1.dp)
    cases e0
    refine ⟨_, rfl, iteFd rfl ⟨_, rfl, a1, rfl, ⟨_, hla⟩, fun DD hDD => ?_⟩⟩
    refine lc_dp (enc := rowD) (fun r => !memR r _) rowD hla hll hDD (by omega) (fun r y W H3 hr hy g1 g2 hW _ Kp Sk hK hS => ?_) fun H3 ys g1 hD2 _ hys => hQ _ _ ⟨Same.trn s2 g1, ys, hD2, hys⟩
    refine ⟨rfl, _, rfl, _, rfl, rowD r, _, Dp.up (Same.trn g1 g2) hy, Dp.up (Same.trn g1 g2) N2.dp, row_shaped (b1.1 r hr), rows_shaped b2.1, ?_⟩
    refine ⟨_, rfl, ixT_d 0 (Dp.up (Same.trn s2 (Same.trn g1 g2)) hq) rfl fun v hv => ?_⟩
    cases dp_str hv
    refine ⟨_, rfl, rfl, _, rfl, ?_⟩
    rw [any_eqv]
    have eb : ∀ b : Bool, decide (V.bl b = V.bl (decide (("except" : Str) = "intersect"))) = !b := fun b => by cases b <;> rfl
    rw [eb]
    exact ite2 (fun hb => ⟨_, rfl, hK hb _ _ W Same.rfl' g2 Same.rfl' hW (Dp.up g1 hy)⟩) fun hb => hS (Bool.eq_false_iff.mpr hb) _ Same.rfl'
  | int h hm h11 e1 e2 =>
    refine ⟨_, rfl, ixT_d 0 hq rfl fun v hv => ?_⟩
    cases dp_str hv
    refine ⟨_, rfl, iteFd rfl ⟨_, rfl, ixT_d 1 hq rfl fun v1 hv1 => ⟨_, rfl, _, rfl, part h e1 Same.rfl' hv1 fun a1 H1 N1 => ?_⟩⟩⟩
    refine ⟨_, rfl, ixT_d 2 (Dp.up N1.1 hq) rfl fun v2 hv2 => ⟨_, rfl, _, rfl, part h e2 N1.1 hv2 fun a2 H2 N2 => ?_⟩⟩
    have s2 := Same.trn N1.1 N2.1
    refine ⟨_, rfl, ixT_d 0 (Dp.up s2 hq) rfl fun v hv => ?_⟩
    cases dp_str hv
    have b1 := snd e1
    have b2 := snd e2
    obtain ⟨la, ll, e0, hla, hll⟩ := dp_list (Dp.up N2.1 N1.dp)
    cases e0
    refine ⟨_, rfl, iteFd rfl ⟨_, rfl, a1, rfl, ⟨_, hla⟩, fun DD hDD => ?_⟩⟩
    refine lc_dp (enc := rowD) (fun r => memR r _) rowD hla hll hDD (by omega) (fun r y W H3 hr hy g1 g2 hW _ Kp Sk hK hS => ?_) fun H3 ys g1 hD2 _ hys => hQ _ _ ⟨Same.trn s2 g1, ys, hD2, hys⟩
    refine ⟨rfl, _, rfl, _, rfl, rowD r, _, Dp.up (Same.trn g1 g2) hy, Dp.up (Same.trn g1 g2) N2.dp, row_shaped (b1.1 r hr), rows_shaped b2.1, ?_⟩
    refine ⟨_, rfl, ixT_d 0 (Dp.up (Same.trn s2 (Same.trn g1 g2)) hq) rfl fun v hv => ?_⟩
    cases dp_str hv
    refine ⟨_, rfl, rfl, _, rfl, ?_⟩
    rw [any_eqv]
    have eb : ∀ b : Bool, decide (V.bl b = V.bl (decide (("intersect" : Str) = "intersect"))) = b := fun b => by cases b <;> rfl
    rw [eb]
    exact ite2 (fun hb => ⟨_, rfl, hK hb _ _ W Same.rfl' g2 Same.rfl' hW (Dp.up g1 hy)⟩) fun hb => hS (Bool.eq_false_iff.mpr hb) _ Same.rfl'
end
/-- the law's evaluator's defs -/
structure LDefs (K : PySem.W.Frag) (mg : Str → Option Value) : Prop where
  Z : Glb mg
  wrap : DefN K mg "_law_wrap" 32
  divided : DefN K mg "_law_divided" 33
  pair : DefN K mg "_law_pair" 34
  eval : DefN K mg "_law_eval" 35
  choices : DefN K mg "_law_choices" 36
  grouped : DefN K mg "_law_grouped" 37
  rows : DefN K mg "_law_rows" 38
section
variable {tb : Str → List Row} {sch : List (Str × List Kd)} {P : Program} {w : World} {K : PySem.W.Frag} {mg : Str → Option Value} {base : Heap}
theorem law_all (T : TbOk tb sch) (Y : LDefs K mg) : ∀ n : Nat, C8.Cal P w K mg base (8 * n + 8) "_law_eval" (spLE tb sch K n) [] ∧ C8.Cal P w K mg base (8 * n + 4) "_law_rows" (spLR tb sch K n) []
  | 0 => by
    refine ⟨?_, ?_⟩
    · refine cal_of (k := 7) Y.eval (N := ["_law_e", "_law_levels", "_law_tables", "_law_members", "_law_op", "_law_x", "_law_outer", "_law_values", "_law_choice"]) (ps := ["_law_e", "_law_levels", "_law_tables", "_law_members"]) (C8.fnScope_by (by decide +kernel)) (fun _ _ _ _ _ _ us hl => match us, hl with | [_, _, _, _], _ => rfl) (fun vs H Q E h => ?_) fun fa cdv A outer s H vs Q E hr h => none_body ?_
      · obtain ⟨ve, vl, vm, t, d, n', g, sc, k, f, lv, ms, rfl, _⟩ := h
        rfl
      · obtain ⟨ve, vl, vm, t, d, n', g, sc, k, f, lv, ms, rfl, hn, _⟩ := h
        omega
    · refine cal_of (k := 3) Y.rows (N := ["_law_question_here", "_law_tables", "_law_levels", "_law_left", "_law_right", "_law_choices_here", "_law_groups", "_law_rows_here", "_law_members", "_law_inner", "_law_row", "_law_choice", "_law_e"]) (ps := ["_law_question_here", "_law_tables", "_law_levels"]) (C8.fnScope_by (by decide +kernel)) (fun _ _ _ _ _ _ us hl => match us, hl with | [_, _, _], _ => rfl) (fun vs H Q E h => ?_) fun fa cdv A outer s H vs Q E hr h => none_body ?_
      · obtain ⟨vq, vl, t, d, n', m, sc, ks, q, lv, rfl, _⟩ := h
        rfl
      · obtain ⟨vq, vl, t, d, n', m, sc, ks, q, lv, rfl, hn, _⟩ := h
        omega
  | n + 1 => by
    obtain ⟨ih1, ih2⟩ := law_all T Y n
    have w1 := ok_law_wrap (P := P) (w := w) (base := base) Y.Z Y.wrap
    have d2 := ok_law_divided Y.Z Y.divided w1
    have p3 := ok_law_pair Y.Z Y.pair w1 d2
    have ev := ok_law_eval T Y.Z Y.eval w1 p3 ih1 ih2
    have c9 := ok_law_choices T Y.Z Y.choices ih1
    have g1 := ok_law_grouped (P := P) (w := w) (base := base) Y.Z Y.grouped
    exact ⟨ev, ok_law_rows T Y.Z Y.rows c9 g1 ih1 ih2⟩
end
end K23

set_option Elab.async false
set_option linter.all false
set_option maxRecDepth 100000
set_option maxHeartbeats 4000000
/-! K23w: the law's draws: the state, take, datum, constant. -/
namespace K23
open PySem PySem.Spec PyProof.Rows L2

/-! ### the state -/
def stL (scr e4 : Addr) (rest pos mx : Int) : List V := [.ref scr, .int rest, .int pos, .int mx, .ref e4, .int 0, .int 0, .int 0]
def StOk (st scr : Addr) (ns : List Int) (H : Hp) : Prop := ∃ (e4 : Addr) (rest pos mx : Int), H st = some (.lst (stL scr e4 rest pos mx)) ∧ 0 ≤ pos ∧ (mx = 1 → ns ≠ [])
theorem StOk.same {st scr : Addr} {ns : List Int} {H H' : Hp} (h : StOk st scr ns H) (s : Same H H') : StOk st scr ns H' := by
  obtain ⟨e4, r, p, m, h1, h2⟩ := h
  exact ⟨e4, r, p, m, s _ _ h1, h2⟩
theorem StOk.ne {st scr : Addr} {ns : List Int} {H : Hp} (h : StOk st scr ns H) : H st ≠ none := by
  obtain ⟨e4, r, p, m, h1, h2⟩ := h
  rw [h1]
  exact fun z => nomatch z
/-- the growth that may change the state alone -/
abbrev Gw (st : Addr) : Hp → Hp → Hp → Hp → Prop := Grow fun b => b = st
/-- U: all that stands still in H; the state at st is not in it -/
structure Gs (K : PySem.W.Frag) (st scr : Addr) (ns : List Int) (U H : Hp) : Prop where
  s : Same U H
  n : U st = none
  l : SqL K U scr (ns.map V.int)
  o : StOk st scr ns H
section
variable {K : PySem.W.Frag} {st scr : Addr} {ns : List Int} {U H U' H' : Hp}
theorem Gs.step (g : Gs K st scr ns U H) (x : Gw st U H U' H') (o : StOk st scr ns H') : Gs K st scr ns U' H' := ⟨x.i, x.f st g.o.ne g.n, x.g.seq g.l, o⟩
theorem Gs.up (g : Gs K st scr ns U H) (s : Same H H') : Gs K st scr ns U H' := ⟨Same.trn g.s s, g.n, g.l, g.o.same s⟩
theorem Gs.new (g : Gs K st scr ns U H) {p : Addr} (hp : H p = none) (o : HO) : Gs K st scr ns (upd U p o) (upd H p o) :=
  g.step (Grow.new g.s hp o) (g.o.same (same_new hp o))
theorem gw_st (g : Gs K st scr ns U H) (o : HO) : Gw st U H U (upd H st o) := by
  refine ⟨Same.rfl', fun b u e => ?_, fun b u e n => ?_, fun b e => ?_, fun _ _ e => e⟩
  · have : b ≠ st := fun z => by
      rw [z, g.n] at e
      cases e
    rw [upd_ne this]
    exact g.s b u e
  · rw [upd_ne n]
    exact e
  · by_cases z : b = st
    · rw [z, upd_same]
      exact fun z => nomatch z
    · rw [upd_ne z]
      exact e
theorem gw_same (g : Gs K st scr ns U H) (s : Same H H') : Gw st U H U H' := Grow.by_same g.s s
end
theorem gs_put {K : PySem.W.Frag} {st scr : Addr} {ns : List Int} {U H : Hp} (g : Gs K st scr ns U H) (e4 : Addr) (rest pos mx : Int) (h1 : 0 ≤ pos) (h2 : mx = 1 → ns ≠ []) : Gs K st scr ns U (upd H st (.lst (stL scr e4 rest pos mx))) :=
  g.step (gw_st g _) ⟨e4, rest, pos, mx, upd_same, h1, h2⟩
/-- _law_take: a number below many -/
def spTake (K : PySem.W.Frag) : Sp := fun vs H Q _ => ∃ (st scr : Addr) (ns : List Int) (W : Hp) (many : Int), vs = [.ref st, .int many] ∧ 1 ≤ many ∧ many < 2 ^ 30 ∧ Gs K st scr ns W H ∧
  ∀ (i : Nat) H', (i : Int) < many → Gw st W H W H' → StOk st scr ns H' → Q (.int i) H'
section
variable {P : Program} {w : World} {K : PySem.W.Frag} {mg : Str → Option Value} {base : Heap}
theorem below {x many : Int} (h : 1 ≤ many) : ∃ i : Nat, x % many = (i : Int) ∧ (i : Int) < many := by
  have h1 := Int.emod_nonneg x (by omega : many ≠ 0)
  have h2 := Int.emod_lt_of_pos x (by omega : 0 < many)
  exact ⟨(x % many).toNat, by omega, by omega⟩
theorem ok_law_take (Z : Glb mg) (D : DefN K mg "_law_take" 18) : C8.Cal P w K mg base 1 "_law_take" (spTake K) [] := by
  have S : FnScope ["_law_state_here", "_law_many", "_law_drawn", "_law_cell"] ["_law_state_here", "_law_many"] (C8.fnScope (top 18)) := C8.fnScope_by (by decide +kernel)
  refine cal_of D S (fun _ _ _ _ _ _ us hl => match us, hl with | [_, _], _ => rfl) (fun vs H Q E h => ?_) fun f cdv A outer s H vs Q E hr h => ?_
  · obtain ⟨st, scr, ns, W, many, rfl, _⟩ := h
    rfl
  obtain ⟨st, scr, ns, W, many, rfl, m1, m2, G, q⟩ := h
  have h64 : (2 : Int) ^ 30 = 1073741824 := by decide
  have h264 : (2 : Nat) ^ 64 = 18446744073709551616 := by decide
  have mdv : CDivB 0 many := ⟨by omega, by omega⟩
  refine ⟨_, (pss_cons (ps_if (pt_cmpR (op_eq) (pe_ix (ix_listK (K := K)) (pv 0) pe_intA (fun _ _ => rfl)) pe_intA (nomark _))
      (pss_cons (ps_set (i := 3) S.nd rfl (by first | exact .inl rfl | exact .inr rfl) (pe_ix (ix_listK (K := K)) (pe_ix (ix_listK (K := K)) (pv 0) pe_intA (fun _ _ => rfl)) (pe_op (op_mod) (pe_callTy (T := "int") (cr_int1) (by rfl) Z.int (by decide +kernel) (pa_cons (pe_ix (ix_listK (K := K)) (pv 0) pe_intA (fun _ _ => rfl)) pa_nilA)) (pe_callB (id := "len") (cr_len (K := K)) (by rfl) Z.len (by decide +kernel) (pa_cons (pe_ix (ix_listK (K := K)) (pv 0) pe_intA (fun _ _ => rfl)) pa_nilA))) (fun _ _ => rfl)))
    (pss_cons (ps_asg (pe_op (op_mod) (pe_callTy (T := "int") (cr_int1) (by rfl) Z.int (by decide +kernel) (pa_cons (pe_op (op_add) (pe_op (op_add) (pe_op (op_add) (pe_op (op_mul) (pe_ix (ix_listK (K := K)) (pv 0) pe_intA (fun _ _ => rfl)) pe_intA) (pe_op (op_mul) (pv 3) pe_intA)) (pe_op (op_mul) (pe_ix (ix_listK (K := K)) (pv 0) pe_intA (fun _ _ => rfl)) pe_intA)) pe_intA) pa_nilA)) pe_intA) (pg_sub (pv 0) pe_intA set_list))
    (pss_cons (ps_asg (pe_op (op_add) (pe_ix (ix_listK (K := K)) (pv 0) pe_intA (fun _ _ => rfl)) pe_intA) (pg_sub (pv 0) pe_intA set_list))
    (pss_one (ps_ret (pe_op (op_mod) (pe_op (op_mod) (pe_callTy (T := "int") (cr_int1) (by rfl) Z.int (by decide +kernel) (pa_cons (pe_op (op_add) (pe_op (op_mul) (pe_ix (ix_listK (K := K)) (pv 0) pe_intA (fun _ _ => rfl)) pe_intA) pe_intA) pa_nilA)) pe_intA) (pv 1)))))))
      pss_nil)
    (C8.pss_cut (ps_if (pt_cmpR (op_eq) (pe_ix (ix_listK (K := K)) (pv 0) pe_intA (fun _ _ => rfl)) pe_intA (nomark _))
      (pss_cons (ps_if (pt_cmpR (op_ge) (pe_ix (ix_listK (K := K)) (pv 0) pe_intA (fun _ _ => rfl)) (pe_callB (id := "len") (cr_len (K := K)) (by rfl) Z.len (by decide +kernel) (pa_cons (pe_ix (ix_listK (K := K)) (pv 0) pe_intA (fun _ _ => rfl)) pa_nilA)) (nomark _))
      (pss_one (ps_ret pe_intA))
      pss_nil)
    (pss_cons (ps_asg (pe_callB (id := "abs") (cr_abs) (by rfl) Z.abs (by decide +kernel) (pa_cons (pe_ix (ix_listK (K := K)) (pe_ix (ix_listK (K := K)) (pv 0) pe_intA (fun _ _ => rfl)) (pe_ix (ix_listK (K := K)) (pv 0) pe_intA (fun _ _ => rfl)) (fun _ _ => rfl)) pa_nilA)) (pg_sub (pv 0) pe_intA set_list))
    (pss_one (ps_asg (pe_op (op_add) (pe_ix (ix_listK (K := K)) (pv 0) pe_intA (fun _ _ => rfl)) pe_intA) (pg_sub (pv 0) pe_intA set_list)))))
      pss_nil)
    (pss_cons (ps_set (i := 2) S.nd rfl (by first | exact .inl rfl | exact .inr rfl) (pe_op (op_mod) (pe_callTy (T := "int") (cr_int1) (by rfl) Z.int (by decide +kernel) (pa_cons (pe_ix (ix_listK (K := K)) (pv 0) pe_intA (fun _ _ => rfl)) pa_nilA)) (pv 1)))
    (pss_cons (ps_asg (pe_op (op_fdivB) (pe_ix (ix_listK (K := K)) (pv 0) pe_intA (fun _ _ => rfl)) (pv 1)) (pg_sub (pv 0) pe_intA set_list))
    (pss_one (ps_ret (pv 2))))))), ?_⟩
  obtain ⟨e4, rest, pos, mx, hst, hpos, hmx⟩ := G.o
  have hscr := G.s.seq G.l
  have hx : SqL K H st (stL scr e4 rest pos mx) := SqL.of hst
  refine ⟨_, rfl, st, _, _, _, rfl, rfl, hx, rfl, rfl, _, rfl, ?_⟩
  refine ite2 (fun c => ?_) (fun c => ?_)
  · have c' : V.int mx = V.int 1 := of_decide_eq_true c
    cases c'
    have hne := hmx rfl
    have hlen : 0 < ns.length := List.length_pos_iff.mpr hne
    obtain ⟨j, ej, hj⟩ := below (x := pos) (many := ((ns.map V.int).length : Int)) (by rw [List.length_map]; omega)
    have hj' : j < ns.length := by rw [List.length_map] at hj; omega
    have hat : atI (ns.map V.int) (pos % ((ns.map V.int).length : Int)) = some (.int ns[j]) := by
      rw [ej]
      exact atI_nat (by rw [List.getElem?_map, List.getElem?_eq_getElem hj']; rfl)
    refine ⟨_, rfl, st, _, _, _, rfl, rfl, hx, rfl, _, rfl, st, _, _, _, rfl, rfl, hx, rfl, .inl ⟨_, rfl, _, rfl, st, _, _, _, rfl, rfl, hx, rfl, scr, _, rfl, .inl hscr, _, _, rfl, rfl, (by rw [List.length_map]; omega), scr, _, _, _, rfl, rfl, hscr, hat, ?_⟩⟩
    -- the state's second item
    have G1 : ∀ r, Gs K st scr ns W (upd H st (.lst (stL scr e4 r pos 1))) := fun r => gs_put G e4 r pos 1 hpos (fun _ => hne)
    have G2 : ∀ r, Gs K st scr ns W (upd (upd H st (.lst (stL scr e4 r pos 1))) st (.lst (stL scr e4 r (pos + 1) 1))) := fun r => gs_put (G1 r) e4 r (pos + 1) 1 (by omega) (fun _ => hne)
    have x1 : ∀ r, SqL K (upd H st (.lst (stL scr e4 r pos 1))) st (stL scr e4 r pos 1) := fun r => SqL.of upd_same
    have x2 : ∀ r, SqL K (upd (upd H st (.lst (stL scr e4 r pos 1))) st (.lst (stL scr e4 r (pos + 1) 1))) st (stL scr e4 r (pos + 1) 1) := fun r => SqL.of upd_same
    refine ⟨_, rfl, st, _, _, _, rfl, rfl, hx, rfl, _, _, rfl, rfl, .inr ⟨by decide, by decide⟩, _, rfl, _, _, rfl, rfl, .inr ⟨by decide, by decide⟩, _, _, rfl, rfl, _, rfl, st, _, _, _, rfl, rfl, hx, rfl, _, _, rfl, rfl, .inr ⟨by decide, by decide⟩, _, _, rfl, rfl, _, _, rfl, rfl, .inl ⟨_, rfl, _, _, rfl, rfl, (by decide : (0 : Int) < 2147483647), ?_⟩⟩
    refine ⟨_, rfl, st, _, _, _, rfl, rfl, hst, rfl, ?_⟩
    refine ⟨_, rfl, st, _, _, _, rfl, rfl, x1 _, rfl, _, _, rfl, rfl, ?_⟩
    refine ⟨_, rfl, st, _, _, _, rfl, rfl, upd_same, rfl, ?_⟩
    refine ⟨_, rfl, st, _, _, _, rfl, rfl, x2 _, rfl, _, _, rfl, rfl, .inr ⟨by decide, by decide⟩, _, _, rfl, rfl, .inl ⟨_, rfl, _, _, rfl, rfl, (by decide : (0 : Int) < 2147483629), _, rfl, _, _, rfl, rfl, (by omega : (0 : Int) < many), ?_⟩⟩
    obtain ⟨k, ek, hk⟩ := below (x := ((rest * 48271 + ns[j] * 69621 + pos * 7919 + 11) % 2147483647 * 16807 + 5) % 2147483629) m1
    show Q (.int (((rest * 48271 + ns[j] * 69621 + pos * 7919 + 11) % 2147483647 * 16807 + 5) % 2147483629 % many)) _
    rw [ek]
    exact q k _ hk ((gw_st G _).trans (gw_st (G1 _) _)) (G2 _).o
  · have hc1 : ¬ (mx = 1) := fun z => c (by rw [z]; exact decide_eq_true rfl)
    -- rest == 0
    refine ⟨fun σ' H' => ∃ r p, σ' = [some (.ref st), some (.int many), none, none] ∧ 0 ≤ p ∧ Gs K st scr ns W H' ∧ Gw st W H W H' ∧ H' st = some (.lst (stL scr e4 r p mx)), ?_, fun σ' H' ⟨r, p, e, hp, G1, g1, h1⟩ => ?_⟩
    · refine ⟨_, rfl, st, _, _, _, rfl, rfl, hx, rfl, rfl, _, rfl, ?_⟩
      refine ite2 (fun c2 => ?_) (fun c2 => ?_)
      · refine ⟨_, rfl, st, _, _, _, rfl, rfl, hx, rfl, _, rfl, st, _, _, _, rfl, rfl, hx, rfl, scr, _, rfl, .inl hscr, _, _, rfl, rfl, _, rfl, ?_⟩
        refine ite2 (fun c3 => ?_) (fun c3 => ?_)
        · exact q 0 _ (by omega) (Grow.here G.s) G.o
        · have c4 : ¬ ((((ns.map V.int).length : Nat) : Int) ≤ pos) := fun z => c3 (decide_eq_true z)
          rw [List.length_map] at c4
          have hj' : pos.toNat < ns.length := by omega
          have hat : atI (ns.map V.int) pos = some (.int ns[pos.toNat]) := by
            have e1 : pos = ((pos.toNat : Nat) : Int) := by omega
            have := atI_nat (xs := ns.map V.int) (j := pos.toNat) (v := .int ns[pos.toNat]) (by rw [List.getElem?_map, List.getElem?_eq_getElem hj']; rfl)
            rw [← e1] at this
            exact this
          have G1 : ∀ r, Gs K st scr ns W (upd H st (.lst (stL scr e4 r pos mx))) := fun r => gs_put G e4 r pos mx hpos hmx
          refine ⟨_, rfl, st, _, _, _, rfl, rfl, hx, rfl, _, rfl, st, _, _, _, rfl, rfl, hx, rfl, scr, _, _, _, rfl, rfl, hscr, hat, _, rfl, ?_⟩
          refine ⟨_, rfl, st, _, _, _, rfl, rfl, hst, rfl, ?_⟩
          refine ⟨_, rfl, st, _, _, _, rfl, rfl, SqL.of upd_same, rfl, _, _, rfl, rfl, ?_⟩
          refine ⟨_, rfl, st, _, _, _, rfl, rfl, upd_same, rfl, ?_⟩
          exact ⟨_, _, rfl, by omega, gs_put (G1 _) e4 _ (pos + 1) mx (by omega) hmx, (gw_st G _).trans (gw_st (G1 _) _), upd_same⟩
      · exact ⟨rest, pos, rfl, hpos, G, Grow.here G.s, hst⟩
    · subst e
      have hx1 : SqL K H' st (stL scr e4 r p mx) := SqL.of h1
      obtain ⟨k, ek, hk⟩ := below (x := r) m1
      refine ⟨_, rfl, st, _, _, _, rfl, rfl, hx1, rfl, .inl ⟨_, rfl, _, rfl, _, _, rfl, rfl, (by omega : (0 : Int) < many), ?_⟩⟩
      refine ⟨_, rfl, st, _, _, _, rfl, rfl, hx1, rfl, _, rfl, _, _, rfl, rfl, ⟨by omega, by omega⟩, ?_⟩
      refine ⟨_, rfl, st, _, _, _, rfl, rfl, h1, rfl, ?_⟩
      refine ⟨_, rfl, ?_⟩
      show Q (.int (r % many)) _
      rw [ek]
      exact q k _ hk (g1.trans (gw_st G1 _)) (gs_put G1 e4 _ p mx hp hmx).o
/-! ### _law_state -/
def spState (K : PySem.W.Frag) : Sp := fun vs H Q _ => ∃ (scr : Addr) (ns : List Int), vs = [.ref scr] ∧ SqL K H scr (ns.map V.int) ∧ ∀ st H', Gs K st scr ns H H' → Same H H' → Q (.ref st) H'
theorem ok_law_state (Z : Glb mg) (D : DefN K mg "_law_state" 17) : C8.Cal P w K mg base 1 "_law_state" (spState K) [] := by
  have S : FnScope ["_law_script", "_law_mixed", "_law_rest"] ["_law_script"] (C8.fnScope (top 17)) := C8.fnScope_by (by decide +kernel)
  refine cal_of D S (fun _ _ _ _ _ _ us hl => match us, hl with | [_], _ => rfl) (fun vs H Q E h => ?_) fun f cdv A outer s H vs Q E hr h => ?_
  · obtain ⟨scr, ns, rfl, _⟩ := h
    rfl
  obtain ⟨scr, ns, rfl, hs, q⟩ := h
  refine ⟨_, (pss_cons (ps_set (i := 1) S.nd rfl (by first | exact .inl rfl | exact .inr rfl) pe_intA)
    (pss_cons (ps_set (i := 2) S.nd rfl (by first | exact .inl rfl | exact .inr rfl) pe_intA)
    (C8.pss_cut (ps_if (pt_cmpR (op_gt) (pe_callB (id := "len") (cr_len (K := K)) (by rfl) Z.len (by decide +kernel) (pa_cons (pv 0) pa_nilA)) pe_intA (nomark _))
      (pss_cons (ps_set (i := 1) S.nd rfl (by first | exact .inl rfl | exact .inr rfl) (pe_op (op_mod) (pe_callTy (T := "int") (cr_int1) (by rfl) Z.int (by decide +kernel) (pa_cons (pe_ix (ix_listK (K := K)) (pv 0) pe_intA (fun _ _ => rfl)) pa_nilA)) pe_intA))
    (pss_one (ps_set (i := 2) S.nd rfl (by first | exact .inl rfl | exact .inr rfl) (pe_ix (ix_listK (K := K)) (pe_lst (pa_cons (pe_op (op_fdivB) (pe_callB (id := "abs") (cr_abs) (by rfl) Z.abs (by decide +kernel) (pa_cons (pe_ix (ix_listK (K := K)) (pv 0) pe_intA (fun _ _ => rfl)) pa_nilA)) pe_intA) (pa_cons pe_intA pa_nilA))) (pv 1) (fun _ _ => rfl)))))
      pss_nil)
    (pss_one (ps_ret (pe_lst (pa_cons (pv 0) (pa_cons (pv 2) (pa_cons pe_intA (pa_cons (pv 1) (pa_cons (pe_lst pa_nilA) (pa_cons pe_intA (pa_cons pe_intA (pa_cons pe_intA pa_nilA)))))))))))))), ?_⟩
  refine ⟨fun σ' H' => ∃ mx r, σ' = [some (.ref scr), some (.int mx), some (.int r)] ∧ (mx = 1 → ns ≠ []) ∧ Same H H', ?_, fun σ' H' ⟨mx, r, e, hm, s1⟩ => ?_⟩
  · refine ⟨_, rfl, scr, _, rfl, .inl hs, _, _, rfl, rfl, _, rfl, ?_⟩
    refine ite2 (fun c => ?_) (fun c => ?_)
    · have c4 : (0 : Int) < (((ns.map V.int).length : Nat) : Int) := of_decide_eq_true c
      rw [List.length_map] at c4
      cases ns with
      | nil => simp at c4
      | cons a l =>
        have at0 : atI ((a :: l).map V.int) 0 = some (.int a) := atI_nat (xs := (a :: l).map V.int) (j := 0) rfl
        refine ⟨_, rfl, scr, _, _, _, rfl, rfl, hs, at0, .inl ⟨_, rfl, _, _, rfl, rfl, (by decide : (0 : Int) < 2), ?_⟩⟩
        refine ⟨_, rfl, scr, _, _, _, rfl, rfl, hs, at0, _, rfl, _, _, rfl, rfl, ⟨by decide, by decide⟩, by show 2 ≤ sizeLine; decide, fun p hp => ⟨_, rfl, ?_⟩⟩
        obtain ⟨k, ek, hk⟩ := below (x := a) (many := 2) (by decide)
        have hk2 : k = 0 ∨ k = 1 := by omega
        have e2 : V.int (a % 2) = .int (k : Int) := by rw [ek]
        have h2 : a % 2 = 0 ∨ a % 2 = 1 := by omega
        rcases h2 with z | z
        · refine ⟨p, _, 0, _, rfl, (congrArg V.int z : V.int (a % 2) = V.int 0), SqL.of upd_same, rfl, _, _, rfl, fun _ => by simp, same_new hp _⟩
        · refine ⟨p, _, 1, _, rfl, (congrArg V.int z : V.int (a % 2) = V.int 1), SqL.of upd_same, rfl, _, _, rfl, fun _ => by simp, same_new hp _⟩
    · exact ⟨0, 0, rfl, fun z => absurd z (by decide), Same.rfl'⟩
  · subst e
    refine ⟨_, rfl, _, rfl, _, rfl, by show 0 ≤ sizeLine; decide, fun p hp => ⟨by show 8 ≤ sizeLine; decide, fun st hst => ?_⟩⟩
    have s2 := Same.trn s1 (Same.trn (same_new hp (.lst [])) (same_new hst (.lst [.ref scr, .int r, .int 1, .int mx, .ref p, .int 0, .int 0, .int 0])))
    exact q st _ ⟨s2, same_none (Same.trn s1 (same_new hp _)) hst, hs, p, r, 1, mx, upd_same, by decide, hm⟩ s2
end
end K23

set_option Elab.async false
set_option linter.all false
set_option maxRecDepth 100000
set_option maxHeartbeats 4000000
/-! K23x: datum, constant. -/
namespace K23
open PySem PySem.Spec PyProof.Rows L2

section
variable {X : Cx}
def rMulS : R2 := fun x y H Q => ∃ (a : Str) (n : Int), x = .str a ∧ y = .int n ∧ MulOk a n ∧ Q (.str (Txt.mul a n)) H
theorem op_mulS : OpR X (binaryOp .Mult) rMulS := by
  intro pins s σ H x y v u Q I rx ry h
  obtain ⟨a, n, rfl, rfl, hok, q⟩ := h
  obtain ⟨t, rfl⟩ := rx
  obtain ⟨t', rfl⟩ := ry
  exact SB.mul hok fun t' k => ⟨.str (Txt.mul a n), H, I.tok k, ⟨_, rfl⟩, q⟩
end
theorem pick_new {K : PySem.W.Frag} {st scr p : Addr} {ns : List Int} {W H : Hp} {items : List V} {many : Int} {Q : VK} (G : Gs K st scr ns W H) (hp : H p = none) (q : ∀ (i : Nat) v H', items[i]? = some v → Gw st W H W H' → StOk st scr ns H' → Q v H')
    (hm : many = (items.length : Int) := by rfl) (h0 : 0 < items.length := by decide) (hl : items.length ≤ 1000 := by decide) : spTake K [.ref st, .int many] (upd H p (.lst items)) (fun y H' => rIxL K (.ref p) y H' Q) C8.E0 := by
  subst hm
  have s1 := same_new hp (.lst items)
  refine ⟨st, scr, ns, W, _, rfl, by omega, by have : (2 : Int) ^ 30 = 1073741824 := by decide
                                               omega, G.up s1, fun i H' hi g o => ?_⟩
  have hi' : i < items.length := by omega
  have pne : p ≠ st := fun z => G.o.ne (by rw [← z]; exact hp)
  exact ⟨p, items, i, items[i], rfl, rfl, SqL.of (g.k _ _ upd_same pne), atI_nat (List.getElem?_eq_getElem hi'), q i _ H' (List.getElem?_eq_getElem hi') ((gw_same G s1).trans g) o⟩
def spDatum (K : PySem.W.Frag) : Sp := fun vs H Q _ => ∃ (st scr : Addr) (ns : List Int) (W : Hp) (k : Kd), vs = [.ref st, .str (kdNm k)] ∧ k ≠ .cond ∧ Gs K st scr ns W H ∧ ∀ (key : Key) H', HasK k (kV key) → Gw st W H W H' → StOk st scr ns H' → Q (kV key) H'
def txts : List Str := ["", "a", "b", "ab", "a", "b", "A", " a", "a ", "Z_", "~", "10", Txt.mul "y" 40, ", ", ") fact (", "a  b"]
theorem txts_ok : ∀ s ∈ txts, TxOk s := by
  have h : (txts.all fun s => decide (s.length ≤ 40) && s.cps.toList.all fun c => decide (c < 128)) = true := by decide +kernel
  intro s hs
  have := List.all_eq_true.mp h s hs
  rw [Bool.and_eq_true] at this
  exact ⟨of_decide_eq_true this.1, fun c hc => of_decide_eq_true (List.all_eq_true.mp this.2 c hc)⟩
section
variable {P : Program} {w : World} {K : PySem.W.Frag} {mg : Str → Option Value} {base : Heap}
theorem mulok40 : MulOk "y" 40 := ⟨by decide, by decide, by decide⟩
theorem ok_law_datum (Z : Glb mg) (D : DefN K mg "_law_datum" 20) (c__law_take : C8.Cal P w K mg base 1 "_law_take" (spTake K) []) : C8.Cal P w K mg base 2 "_law_datum" (spDatum K) [] := by
  have S : FnScope ["_law_state_here", "_law_kind", "_law_pick", "_law_row"] ["_law_state_here", "_law_kind"] (C8.fnScope (top 20)) := C8.fnScope_by (by decide +kernel)
  refine cal_of D S (fun _ _ _ _ _ _ us hl => match us, hl with | [_, _], _ => rfl) (fun vs H Q E h => ?_) fun f cdv A outer s H vs Q E hr h => ?_
  · obtain ⟨st, scr, ns, W, k, rfl, _⟩ := h
    rfl
  obtain ⟨st, scr, ns, W, k, rfl, hk, G, q⟩ := h
  refine ⟨_, (pss_cons (ps_if (pt_eqS (pv 1))
      (pss_cons (ps_set (i := 3) S.nd rfl (by first | exact .inl rfl | exact .inr rfl) (pe_lst (pa_cons pe_strA (pa_cons pe_strA (pa_cons pe_strA (pa_cons pe_strA (pa_cons pe_strA (pa_cons pe_strA (pa_cons pe_strA (pa_cons pe_strA (pa_cons pe_strA (pa_cons pe_strA (pa_cons pe_strA (pa_cons pe_strA (pa_cons (pe_op (op_mulS) pe_strA pe_intA) (pa_cons pe_strA (pa_cons pe_strA (pa_cons pe_strA pa_nilA))))))))))))))))))
    (pss_one (ps_ret (pe_ix (ix_listK (K := K)) (pv 3) (C8.pe_c c__law_take hr (by omega) rfl (pa_cons (pv 0) (pa_cons pe_intA pa_nilA))) (fun _ _ => rfl)))))
      pss_nil)
    (pss_cons (ps_set (i := 2) S.nd rfl (by first | exact .inl rfl | exact .inr rfl) (C8.pe_c c__law_take hr (by omega) rfl (pa_cons (pv 0) (pa_cons pe_intA pa_nilA))))
    (pss_cons (ps_if (pt_cmpR (op_eq) (pv 2) pe_intA (nomark _))
      (pss_one (ps_ret (pe_ix (ix_listK (K := K)) (pe_lst (pa_cons (pe_op (op_pow) pe_intA pe_intA) (pa_cons (pe_un un_neg (pe_op (op_pow) pe_intA pe_intA)) (pa_cons (pe_op (op_pow) pe_intA pe_intA) (pa_cons pe_intA pa_nilA))))) (C8.pe_c c__law_take hr (by omega) rfl (pa_cons (pv 0) (pa_cons pe_intA pa_nilA))) (fun _ _ => rfl))))
      pss_nil)
    (pss_one (ps_ret (pe_op (op_sub) (pe_op (op_mod) (pv 2) pe_intA) (pe_op (op_fdivB) (pv 2) pe_intA))))))), ?_⟩
  cases k with
  | cond => exact absurd rfl hk
  | txt =>
    refine ⟨_, rfl, _, rfl, iteTd rfl ?_⟩
    refine ⟨_, _, rfl, rfl, mulok40, by show 16 ≤ sizeLine; decide, fun p hp => ⟨_, rfl, _, rfl, ?_⟩⟩
    refine pick_new (items := txts.map V.str) G hp fun i v H' hi g o => ?_
    rw [List.getElem?_map] at hi
    obtain ⟨x, e1, e2⟩ := Option.map_eq_some_iff.mp hi
    subst e2
    exact q (.inr x) H' (txts_ok x (List.mem_of_getElem? e1)) g o
  | num =>
    refine ⟨_, rfl, _, rfl, iteFd rfl ?_⟩
    refine ⟨_, rfl, st, scr, ns, W, 12, rfl, by decide, by decide, G, fun i H1 hi g1 o1 => ?_⟩
    have G1 := G.step g1 o1
    refine ⟨_, rfl, rfl, _, rfl, ite2 (fun c => ?_) (fun c => ?_)⟩
    · refine ⟨_, _, rfl, rfl, cpow18, _, _, rfl, rfl, cpow18, _, rfl, _, _, rfl, rfl, ⟨by decide, by decide, by decide⟩, by show 4 ≤ sizeLine; decide, fun p hp => ⟨_, rfl, ?_⟩⟩
      refine pick_new (items := [.int (10 ^ (18 : Int).toNat), .int (-(10 ^ (18 : Int).toNat)), .int (10 ^ (9 : Int).toNat), .int 7]) G1 hp fun j v H' hj g o => ?_
      have fin : ∀ x : Int, -big ≤ x ∧ x ≤ big → v = .int x → Q v H' := fun x hx e => by
        subst e
        exact q (.inl x) H' hx (g1.trans g) o
      match j, hj with
      | 0, hj => exact fin _ (by decide) (Option.some.inj hj).symm
      | 1, hj => exact fin _ (by decide) (Option.some.inj hj).symm
      | 2, hj => exact fin _ (by decide) (Option.some.inj hj).symm
      | 3, hj => exact fin _ (by decide) (Option.some.inj hj).symm
      | j + 4, hj => simp at hj
    · refine ⟨_, rfl, _, _, rfl, rfl, (by decide : (0 : Int) < 4), _, rfl, _, _, rfl, rfl, ⟨by decide, by decide⟩, _, _, rfl, rfl, ?_⟩
      have h1 := Int.emod_nonneg (i : Int) (by decide : (4 : Int) ≠ 0)
      have h2 := Int.emod_lt_of_pos (i : Int) (by decide : (0 : Int) < 4)
      have h3 : ((i : Int)).fdiv 8 = (i : Int) / 8 := Int.fdiv_eq_ediv_of_nonneg _ (by decide)
      have hb : big = 1000000000000000000 := rfl
      refine q (.inl _) H1 ?_ g1 o1
      show -big ≤ (i : Int) % 4 - (i : Int).fdiv 8 ∧ (i : Int) % 4 - (i : Int).fdiv 8 ≤ big
      rw [h3]
      omega
end
/-! ### expressions as data -/
section
variable (tb : Str → List Row) (sch : List (Str × List Kd))
/-- a value without gatherings, of depth n -/
def IsE (n : Nat) (sc : Sc) (k : Kd) (d : PyData) : Prop := ∀ g, ∃ f, RepE tb sch n g sc d k f
/-- .. for a group -/
def IsG (n : Nat) (sc : Sc) (k : Kd) (d : PyData) : Prop := ∃ f, RepE tb sch n true sc d k f
/-- a condition -/
def IsC (n : Nat) (sc : Sc) (d : PyData) : Prop := ∃ f, RepE tb sch n false sc d .cond f
end
theorem RepE.mono {tb : Str → List Row} {sch : List (Str × List Kd)} {n m : Nat} {g : Bool} {sc : Sc} {d : PyData} {k : Kd} {f : Sem} (h : n ≤ m) (e : RepE tb sch n g sc d k f) : RepE tb sch m g sc d k f := by
  cases e with
  | num i h1 h2 => exact .num i h1 h2
  | txt x h => exact .txt x h
  | cell u s c h1 h2 h3 hb => exact .cell u s c h1 h2 h3 hb
  | neg h e => exact .neg (by omega) e
  | nt h e => exact .nt (by omega) e
  | ex h e => exact .ex (by omega) e
  | cnt => exact .cnt
  | ag o h e hk ho => exact .ag o (by omega) e hk ho
  | ar o h e1 e2 => exact .ar o (by omega) e1 e2
  | cm o h hk e1 e2 => exact .cm o (by omega) hk e1 e2
  | lo o h e1 e2 => exact .lo o (by omega) e1 e2
section
variable (tb : Str → List Row) (sch : List (Str × List Kd)) (K : PySem.W.Frag)
/-- what a drawn thing of the data is, and what it costs -/
def spConst : Sp := fun vs H Q _ => ∃ (st scr : Addr) (ns : List Int) (W : Hp) (k : Kd), vs = [.ref st, .str (kdNm k)] ∧ k ≠ .cond ∧ Gs K st scr ns W H ∧
  ∀ v d W' H', Gw st W H W' H' → StOk st scr ns H' → Dp K W' v d → (∀ n sc, IsE tb sch n sc k d) → d.bulk ≤ 46 → Q v H'
end
section
variable {tb : Str → List Row} {sch : List (Str × List Kd)} {P : Program} {w : World} {K : PySem.W.Frag} {mg : Str → Option Value} {base : Heap}
theorem ok_law_constant (Z : Glb mg) (D : DefN K mg "_law_constant" 21) (c__law_datum : C8.Cal P w K mg base 2 "_law_datum" (spDatum K) []) : C8.Cal P w K mg base 3 "_law_constant" (spConst tb sch K) [] := by
  have S : FnScope ["_law_state_here", "_law_kind"] ["_law_state_here", "_law_kind"] (C8.fnScope (top 21)) := C8.fnScope_by (by decide +kernel)
  refine cal_of D S (fun _ _ _ _ _ _ us hl => match us, hl with | [_, _], _ => rfl) (fun vs H Q E h => ?_) fun f cdv A outer s H vs Q E hr h => ?_
  · obtain ⟨st, scr, ns, W, k, rfl, _⟩ := h
    rfl
  obtain ⟨st, scr, ns, W, k, rfl, hk, G, q⟩ := h
  refine ⟨_, (pss_cons (ps_if (pt_eqS (pv 1))
      (pss_one (ps_ret (pe_tup (pa_cons (pv 1) (pa_cons (C8.pe_c c__law_datum hr (by omega) rfl (pa_cons (pv 0) (pa_cons (pv 1) pa_nilA))) pa_nilA)))))
      pss_nil)
    (pss_one (ps_ret (pe_tup (pa_cons (pv 1) (pa_cons (pe_callB (id := "abs") (cr_abs) (by rfl) Z.abs (by decide +kernel) (pa_cons (C8.pe_c c__law_datum hr (by omega) rfl (pa_cons (pv 0) (pa_cons (pv 1) pa_nilA))) pa_nilA)) pa_nilA)))))), ?_⟩
  cases k with
  | cond => exact absurd rfl hk
  | txt =>
    refine ⟨_, rfl, _, rfl, iteTd rfl ⟨_, rfl, _, rfl, _, rfl, st, scr, ns, W, .txt, rfl, hk, G, fun key H1 hkey g1 o1 => ⟨by show 2 ≤ sizeLine; decide, fun p hp => ?_⟩⟩⟩
    have G1 := G.step g1 o1
    cases key with
    | inl i => exact hkey.elim
    | inr x =>
      have hx : TxOk x := hkey
      refine q _ (.tuple [.str "text", .str x]) _ _ (g1.trans (Grow.new G1.s hp _)) (o1.same (same_new hp _)) (newT_of (same_none G1.s hp) (.cons (.str _) (.cons (.str _) .nil))) (fun n sc g => ⟨_, .txt x hx⟩) ?_
      have h1 : x.cps.size ≤ 40 := hx.1
      have h2 : ("text" : Str).cps.size = 4 := by decide
      simp only [PyData.bulk, PyData.bulkAll]
      omega
  | num =>
    refine ⟨_, rfl, _, rfl, iteFd rfl ⟨_, rfl, _, rfl, _, rfl, st, scr, ns, W, .num, rfl, hk, G, fun key H1 hkey g1 o1 => ?_⟩⟩
    have G1 := G.step g1 o1
    cases key with
    | inr x => exact hkey.elim
    | inl i =>
      have hx : -big ≤ i ∧ i ≤ big := hkey
      refine ⟨i, rfl, by show 2 ≤ sizeLine; decide, fun p hp => ?_⟩
      refine q _ (.tuple [.str "number", .int (if i < 0 then -i else i)]) _ _ (g1.trans (Grow.new G1.s hp _)) (o1.same (same_new hp _)) (newT_of (same_none G1.s hp) (.cons (.str _) (.cons (.int _) .nil))) (fun n sc g => ⟨_, .num _ (by split <;> omega) (by split <;> omega)⟩) ?_
      have h2 : ("number" : Str).cps.size = 6 := by decide
      simp only [PyData.bulk, PyData.bulkAll]
      omega
end
end K23

set_option Elab.async false
set_option linter.all false
set_option maxRecDepth 100000
set_option maxHeartbeats 4000000
/-! K23y: cells, values, comparisons. -/
namespace K23
open PySem PySem.Spec PyProof.Rows L2

def ksD (ks : List Kd) : PyData := .list (ks.map fun k => .str (kdNm k))
def scnD (scn : List (List Kd)) : PyData := .list (scn.map ksD)
def scD (sc : Sc) : PyData := .list (sc.map scnD)
def ScOk (sc : Sc) : Prop := sc.length ≤ 4 ∧ ∀ scn ∈ sc, scn.length ≤ 3 ∧ ∀ ks ∈ scn, ks.length ≤ 3 ∧ ∀ k ∈ ks, k ≠ Kd.cond
def CellOk (sc : Sc) (k : Kd) (d : PyData) : Prop := ∃ u s c scn ks, d = cellD u s c ∧ sc[u]? = some scn ∧ scn[s]? = some ks ∧ ks[c]? = some k ∧ u < 100 ∧ s < 100 ∧ c < 100
theorem Gw.add {st a : Addr} {W H U H' : Hp} {o : HO} (x : Gw st W H U H') (ha : H' a = some o) (h0 : H a = none) (hU : U a = none) : Gw st W H (upd U a o) H' := by
  refine ⟨fun b u e => ?_, fun b u e => ?_, x.k, x.e, fun b e z => ?_⟩
  · have e2 := x.g b u e
    rw [upd_ne (ne_of_none e2 hU)]
    exact e2
  · by_cases c : b = a
    · subst c
      rw [upd_same] at e
      rw [ha, e]
    · rw [upd_ne c] at e
      exact x.i b u e
  · have : b ≠ a := fun y => e (by rw [y]; exact h0)
    rw [upd_ne this]
    exact x.f b e z
theorem gw_free {st a : Addr} {W H U H' : Hp} (x : Gw st W H U H') (h : H' a = none) : H a = none := by
  cases e : H a with
  | none => rfl
  | some o => exact absurd h (x.e a (by rw [e]; exact fun z => nomatch z))
theorem kdNm_eq {k j : Kd} : decide (V.str (kdNm k) = V.str (kdNm j)) = decide (k = j) := by
  cases k <;> cases j <;> decide
section
variable (K : PySem.W.Frag)
def spCells : Sp := fun vs H Q _ => ∃ (st scr : Addr) (ns : List Int) (W : Hp) (x : V) (sc : Sc) (k : Kd), vs = [x, .str (kdNm k)] ∧ Gs K st scr ns W H ∧ Dp K W x (scD sc) ∧ ScOk sc ∧
  ∀ v ds W' H', Gw st W H W' H' → StOk st scr ns H' → Dp K W' v (.list ds) → (∀ d ∈ ds, CellOk sc k d) → ds.length ≤ 36 → Q v H'
end
section
variable {P : Program} {w : World} {K : PySem.W.Frag} {mg : Str → Option Value} {base : Heap}
theorem ok_law_cells (Z : Glb mg) (D : DefN K mg "_law_cells" 22) : C8.Cal P w K mg base 1 "_law_cells" (spCells K) [] := by
  have S : FnScope ["_law_scopes", "_law_kind", "_law_cells_here", "_law_up", "_law_s", "_law_c"] ["_law_scopes", "_law_kind"] (C8.fnScope (top 22)) := C8.fnScope_by (by decide +kernel)
  refine cal_of D S (fun _ _ _ _ _ _ us hl => match us, hl with | [_, _], _ => rfl) (fun vs H Q E h => ?_) fun f cdv A outer s H vs Q E hr h => ?_
  · obtain ⟨st, scr, ns, W, x, sc, k, rfl, _⟩ := h
    rfl
  obtain ⟨st, scr, ns, W, x, sc, k, rfl, G, hx, hsc, q⟩ := h
  refine ⟨_, (pss_cons (ps_set (i := 2) S.nd rfl (by first | exact .inl rfl | exact .inr rfl) (pe_lst pa_nilA))
    (pss_cons (ps_for PassesOwn.never rfl (pi_range1 (by rfl) Z.range (pa_cons (pe_callB (id := "len") (cr_len (K := K)) (by rfl) Z.len (by decide +kernel) (pa_cons (pv 0) pa_nilA)) pa_nilA)) (pg_name (i := 3) S.nd rfl (by first | exact .inl rfl | exact .inr rfl))
      (pss_one (ps_for PassesOwn.never rfl (pi_range1 (by rfl) Z.range (pa_cons (pe_callB (id := "len") (cr_len (K := K)) (by rfl) Z.len (by decide +kernel) (pa_cons (pe_ix (ix_listK (K := K)) (pv 0) (pv 3) (fun _ _ => rfl)) pa_nilA)) pa_nilA)) (pg_name (i := 4) S.nd rfl (by first | exact .inl rfl | exact .inr rfl))
      (pss_one (ps_set (i := 2) S.nd rfl (by first | exact .inl rfl | exact .inr rfl) (pe_op (op_catK (K := K)) (pv 2) (pe_lc (own := [("_law_c", 5)]) (g := gName 5) (by rfl) S.nd (pi_range1 (by rfl) Z.range (pa_cons (pe_callB (id := "len") (cr_len (K := K)) (by rfl) Z.len (by decide +kernel) (pa_cons (pe_ix (ix_listK (K := K)) (pe_ix (ix_listK (K := K)) (pv 0) (pv 3) (fun _ _ => rfl)) (pv 4) (fun _ _ => rfl)) pa_nilA)) pa_nilA)) (blkOk_by (own := [("_law_c", 5)]) (N := ["_law_scopes", "_law_kind", "_law_cells_here", "_law_up", "_law_s", "_law_c"]) (sc := C8.fnScope (top 22)) (by decide +kernel)) (fun _ _ _ _ _ => pg_name (i := 5) S.nd rfl (by first | exact .inl rfl | exact .inr rfl)) (fun _ _ _ _ _ => (pts_one (pt_cmpR (op_eq) (pe_ix (ix_listK (K := K)) (pe_ix (ix_listK (K := K)) (pe_ix (ix_listK (K := K)) (pv 0) (pv 3) (fun _ _ => rfl)) (pv 4) (fun _ _ => rfl)) (pv 5) (fun _ _ => rfl)) (pv 1) (nomark _)))) (fun _ _ _ _ _ => (pe_tup (pa_cons pe_strA (pa_cons (pv 3) (pa_cons (pv 4) (pa_cons (pv 5) pa_nilA)))))))))))))
    (pss_one (ps_ret (pv 2))))), ?_⟩
  refine ⟨by show 0 ≤ sizeLine; decide, fun p hp => ?_⟩
  have s1 := same_new hp (.lst [])
  refine ⟨_, rfl, len_d (Dp.up (Same.trn G.s s1) hx) ⟨_, rfl, ?_, ?_, ?_⟩⟩
  · omega
  · have := hsc.1
    rw [List.length_map]
    omega
  have h0 : ((sc.map scnD).length : Int).toNat = sc.length := by rw [Int.toNat_natCast, List.length_map]
  rw [h0]
  refine for_range (n := sc.length) (fun i σ H' => ∃ a3 a4 al zs ds U, σ = [some x, some (.str (kdNm k)), some (.ref al), a3, a4, none] ∧ Gs K st scr ns U H' ∧ Gw st W H U H' ∧ H al = none ∧ U al = none ∧ H' al = some (.lst zs) ∧ DpAll K U zs ds ∧ (∀ d ∈ ds, CellOk sc k d) ∧ ds.length ≤ 9 * i)
    ⟨none, none, p, [], [], W, rfl, G.up s1, gw_same G s1, hp, same_none G.s hp, upd_same, .nil, (fun d hd => nomatch hd), by simp⟩ (fun i σ H' hi ⟨a3, a4, al, zs, ds, U, e, G1, g1, hal, hUal, hzs, hds, hok, hlen⟩ => ?_) fun σ H' ⟨a3, a4, al, zs, ds, U, e, G1, g1, hal, hUal, hzs, hds, hok, hlen⟩ => ?_
  · subst e
    have esc : sc[i]? = some sc[i] := List.getElem?_eq_getElem hi
    generalize sc[i] = scn at esc
    have hscn := hsc.2 scn (List.mem_of_getElem? esc)
    have hx1 : Dp K U x (scD sc) := Dp.up g1.g hx
    refine ⟨_, rfl, _, rfl, ixL_w i G1.s hx1 (d := scnD scn) (by rw [List.getElem?_map, esc]; rfl) (fun v hv => ?_) (by omega)⟩
    refine len_d (Dp.up G1.s hv) ⟨_, rfl, by omega, ?_, ?_⟩
    · rw [List.length_map]
      omega
    have h1 : ((scn.map ksD).length : Int).toNat = scn.length := by rw [Int.toNat_natCast, List.length_map]
    rw [h1]
    refine for_range (n := scn.length) (fun j σ H2 => ∃ a4 al zs ds U, σ = [some x, some (.str (kdNm k)), some (.ref al), some (.int (0 + i)), a4, none] ∧ Gs K st scr ns U H2 ∧ Gw st W H U H2 ∧ H al = none ∧ U al = none ∧ H2 al = some (.lst zs) ∧ DpAll K U zs ds ∧ (∀ d ∈ ds, CellOk sc k d) ∧ ds.length ≤ 9 * i + 3 * j)
      ⟨a4, al, zs, ds, U, rfl, G1, g1, hal, hUal, hzs, hds, hok, by omega⟩ (fun j σ H2 hj ⟨a4, al, zs, ds, U, e, G2, g2, hal, hUal, hzs, hds, hok, hlen⟩ => ?_) fun σ H2 ⟨a4, al, zs, ds, U, e, G2, g2, hal, hUal, hzs, hds, hok, hlen⟩ => ?_
    · subst e
      have escn : scn[j]? = some scn[j] := List.getElem?_eq_getElem hj
      generalize scn[j] = ks at escn
      have hks := hscn.2 ks (List.mem_of_getElem? escn)
      have hx2 : Dp K U x (scD sc) := Dp.up g2.g hx
      -- the comprehension
      refine ⟨_, rfl, _, rfl, _, rfl, ixL_w i G2.s hx2 (d := scnD scn) (by rw [List.getElem?_map, esc]; rfl) (fun v hv => ?_) (by omega)⟩
      refine ⟨_, rfl, ixL_w j G2.s hv (d := ksD ks) (by rw [List.getElem?_map, escn]; rfl) (fun v2 hv2 => ?_) (by omega)⟩
      refine len_d (Dp.up G2.s hv2) ⟨_, rfl, by omega, ?_, ?_⟩
      · rw [List.length_map]
        omega
      have h2 : ((ks.map fun k => PyData.str (kdNm k)).length : Int).toNat = ks.length := by rw [Int.toNat_natCast, List.length_map]
      rw [h2]
      intro DD hDD
      refine lc_viewR (K := K) (n := ks.length) (E := fun b => b = st) (J := fun H => StOk st scr ns H) (R := fun c d => d = cellD i j c ∧ ks[c]? = some k) (N := fun _ => True) G2.s hDD (fun z => G2.o.ne (by rw [← z]; exact hDD)) (fun H1 o hJ => ?_) (G2.o.same (same_new hDD _)) (by omega) (fun c hc => ?_) fun H3 W3 us outs g3 o3 hD3 hW3 ho hus => ?_
      · obtain ⟨e4, r, pp, mx, h1, h2⟩ := hJ
        refine ⟨e4, r, pp, mx, ?_, h2⟩
        rw [upd_ne fun z => G2.o.ne (by rw [z]; exact hDD)]
        exact h1
      · intro W4 H4 g4 hW4 hD4 o4 Kp Sk hK hS
        have ec : ks[c]? = some ks[c] := List.getElem?_eq_getElem hc
        generalize ks[c] = kc at ec
        have hx4 := Dp.up g4.g hx2
        refine ⟨rfl, _, rfl, _, rfl, ixL_w i g4.i hx4 (d := scnD scn) (by rw [List.getElem?_map, esc]; rfl) (fun v hv => ?_) (by omega)⟩
        refine ⟨_, rfl, ixL_w j g4.i hv (d := ksD ks) (by rw [List.getElem?_map, escn]; rfl) (fun v2 hv2 => ?_) (by omega)⟩
        refine ⟨_, rfl, ixL_w c g4.i hv2 (d := .str (kdNm kc)) (by rw [List.getElem?_map, ec]; rfl) (fun v3 hv3 => ?_) (by omega)⟩
        cases dp_str hv3
        refine ⟨_, rfl, rfl, _, rfl, ?_⟩
        rw [kdNm_eq]
        refine ite2 (fun hb => ?_) (fun hb => hS W4 H4 trivial (Grow.here g4.i) o4)
        have ek : kc = k := of_decide_eq_true hb
        subst ek
        refine ⟨_, rfl, _, rfl, _, rfl, by show 4 ≤ sizeLine; decide, fun p2 hp2 => ?_⟩
        have dp : DpAll K W4 [.str "cell", .int (0 + i), .int (0 + j), .int (0 + c)] [.str "cell", .int i, .int j, .int c] := by
          rw [Int.zero_add, Int.zero_add, Int.zero_add]
          exact .cons (.str _) (.cons (.int _) (.cons (.int _) (.cons (.int _) .nil)))
        exact hK (cellD i j c) (.ref p2) _ _ ⟨rfl, ec⟩ (Grow.new g4.i hp2 _) (o4.same (same_new hp2 _)) (newT_of (same_none g4.i hp2) dp)
      · have ast : al ≠ st := fun z => G.o.ne (by rw [← z]; exact hal)
        have lz := dpall_len hds
        have lu := dpall_len hus
        have lo := ho.len
        rw [List.length_range] at lo
        have hks3 := hks.1
        have hsc1 := hsc.1
        refine ⟨al, DD, zs, us, rfl, rfl, SqL.of (g3.k _ _ hzs ast), SqL.of hD3, by rw [sizeLine_eq]; omega, fun p6 hp6 => ?_⟩
        have G3 := G2.step g3 o3
        have g23 := g2.trans g3
        have s6 := same_new hp6 (.lst (zs ++ us))
        refine ⟨_, p6, zs ++ us, ds ++ outs, W3, rfl, G3.up s6, g23.trans (gw_same G3 s6), gw_free g23 hp6, same_none G3.s hp6, upd_same, dpall_app (DpAll.up g3.g hds) hus, fun d hd => ?_, by rw [List.length_append]; omega⟩
        rcases List.mem_append.mp hd with h | h
        · exact hok d h
        · obtain ⟨c, hc, e1, e2⟩ := ho.all d h
          have := List.mem_range.mp hc
          have h3 := hscn.1
          exact ⟨i, j, c, scn, ks, e1, esc, escn, e2, by omega, by omega, by omega⟩
    · subst e
      exact ⟨_, _, al, zs, ds, U, rfl, G2, g2, hal, hUal, hzs, hds, hok, by have := hscn.1; omega⟩
  · subst e
    refine ⟨_, rfl, q _ ds _ H' (g1.add hzs hal hUal) G1.o (.lst (SqL.of upd_same) (DpAll.up (same_new hUal _) hds)) hok (by have := hsc.1; omega)⟩
end
end K23

set_option Elab.async false
set_option linter.all false
set_option maxRecDepth 100000
set_option maxHeartbeats 4000000
/-! K23z: values, comparisons, kinds. -/
namespace K23
open PySem PySem.Spec PyProof.Rows L2

theorem if_pure {tc : TT} {t u : TS} {D : Ends} {σ : L2.St} {H : Hp} (b : Bool) (h : ∀ Q : Bool → Hp → Prop, Q b H → tc σ H Q) (k : if b = true then t D σ H else u D σ H) : tIfS tc t u D σ H := h _ k
theorem int_eq (i n : Nat) : decide (V.int (i : Int) = V.int (n : Int)) = decide (i = n) := by
  rw [Bool.eq_iff_iff]
  simp only [decide_eq_true_eq, V.int.injEq]
  omega
def vb : Nat → Nat
  | 0 => 46
  | d + 1 => 2 * vb d + 8
section
variable (tb : Str → List Row) (sch : List (Str × List Kd)) (K : PySem.W.Frag)
def spLV (n : Nat) : Sp := fun vs H Q _ => ∃ (st scr : Addr) (ns : List Int) (W : Hp) (x : V) (sc : Sc) (k : Kd) (d : Nat), vs = [.ref st, x, .str (kdNm k), .int d] ∧ d < n ∧ k ≠ .cond ∧ Gs K st scr ns W H ∧ Dp K W x (scD sc) ∧ ScOk sc ∧
  ∀ v dd W' H', Gw st W H W' H' → StOk st scr ns H' → Dp K W' v dd → IsE tb sch (d + 1) sc k dd → dd.bulk ≤ vb d → Q v H'
end
section
variable {tb : Str → List Row} {sch : List (Str × List Kd)} {P : Program} {w : World} {K : PySem.W.Frag} {mg : Str → Option Value} {base : Heap}
theorem CellOk.isE {sc : Sc} {k : Kd} {d : PyData} (h : CellOk sc k d) (n : Nat) : IsE tb sch n sc k d ∧ d.bulk ≤ 8 := by
  obtain ⟨u, s, c, scn, ks, rfl, h1, h2, h3, hb⟩ := h
  refine ⟨fun g => ⟨_, .cell u s c h1 h2 h3 hb⟩, ?_⟩
  have h2 : ("cell" : Str).cps.size = 4 := by decide
  unfold cellD
  simp only [PyData.bulk, PyData.bulkAll]
  omega
theorem nm_bulk (o : Ar) : o.nm.cps.size = 3 := by cases o <;> decide
theorem vb_pos (d : Nat) : 46 ≤ vb d := by
  induction d with
  | zero => exact Nat.le_refl _
  | succ d ih =>
    show 46 ≤ 2 * vb d + 8
    omega
theorem ops_get {i : Nat} {v : V} (h : ([.str "add", .str "sub", .str "mul", .str "div", .str "mod"] : List V)[i]? = some v) : ∃ o : Ar, v = .str o.nm := by
  match i, h with
  | 0, h => exact ⟨.add, (Option.some.inj h).symm⟩
  | 1, h => exact ⟨.sub, (Option.some.inj h).symm⟩
  | 2, h => exact ⟨.mul, (Option.some.inj h).symm⟩
  | 3, h => exact ⟨.div, (Option.some.inj h).symm⟩
  | 4, h => exact ⟨.mod, (Option.some.inj h).symm⟩
  | i + 5, h => simp at h
theorem ok_law_value (Z : Glb mg) (D : DefN K mg "_law_value" 23) {n : Nat} (c__law_take : C8.Cal P w K mg base 1 "_law_take" (spTake K) []) (c__law_cells : C8.Cal P w K mg base 1 "_law_cells" (spCells K) [])
    (c__law_constant : C8.Cal P w K mg base 3 "_law_constant" (spConst tb sch K) []) (c__law_value : C8.Cal P w K mg base (n + 4) "_law_value" (spLV tb sch K n) []) : C8.Cal P w K mg base (n + 4 + 1) "_law_value" (spLV tb sch K (n + 1)) [] := by
  have S : FnScope ["_law_state_here", "_law_scopes", "_law_kind", "_law_depth", "_law_cells_here", "_law_pick", "_law_op", "_law_left"] ["_law_state_here", "_law_scopes", "_law_kind", "_law_depth"] (C8.fnScope (top 23)) := C8.fnScope_by (by decide +kernel)
  refine cal_of D S (fun _ _ _ _ _ _ us hl => match us, hl with | [_, _, _, _], _ => rfl) (fun vs H Q E h => ?_) fun f cdv A outer s H vs Q E hr h => ?_
  · obtain ⟨st, scr, ns, W, x, sc, k, d, rfl, _⟩ := h
    rfl
  obtain ⟨st, scr, ns, W, x, sc, k, d, rfl, hd, hk, G, hx, hsc, q⟩ := h
  refine ⟨_, (pss_cons (ps_set (i := 4) S.nd rfl (by first | exact .inl rfl | exact .inr rfl) (C8.pe_c c__law_cells hr (by omega) rfl (pa_cons (pv 1) (pa_cons (pv 2) pa_nilA))))
    (pss_cons (ps_set (i := 5) S.nd rfl (by first | exact .inl rfl | exact .inr rfl) (C8.pe_c c__law_take hr (by omega) rfl (pa_cons (pv 0) (pa_cons pe_intA pa_nilA))))
    (pss_cons (ps_if (PW.pt (pw_and (pt_eqS (pv 2)) (pw_and (pt_cmpR (op_gt) (pv 3) pe_intA (nomark _)) (pw_and1 (pt_cmpR (op_eq) (pv 5) pe_intA (nomark _))))))
      (pss_one (ps_ret (pe_tup (pa_cons pe_strA (pa_cons (C8.pe_c c__law_value hr (by omega) rfl (pa_cons (pv 0) (pa_cons (pv 1) (pa_cons (pv 2) (pa_cons (pe_op (op_sub) (pv 3) pe_intA) pa_nilA))))) pa_nilA)))))
      pss_nil)
    (pss_cons (ps_if (PW.pt (pw_and (pt_eqS (pv 2)) (pw_and (pt_cmpR (op_gt) (pv 3) pe_intA (nomark _)) (pw_and1 (pt_cmpR (op_eq) (pv 5) pe_intA (nomark _))))))
      (pss_cons (ps_set (i := 6) S.nd rfl (by first | exact .inl rfl | exact .inr rfl) (pe_ix (ix_listK (K := K)) (pe_lst (pa_cons pe_strA (pa_cons pe_strA (pa_cons pe_strA (pa_cons pe_strA (pa_cons pe_strA pa_nilA)))))) (C8.pe_c c__law_take hr (by omega) rfl (pa_cons (pv 0) (pa_cons pe_intA pa_nilA))) (fun _ _ => rfl)))
    (pss_cons (ps_set (i := 7) S.nd rfl (by first | exact .inl rfl | exact .inr rfl) (C8.pe_c c__law_value hr (by omega) rfl (pa_cons (pv 0) (pa_cons (pv 1) (pa_cons (pv 2) (pa_cons (pe_op (op_sub) (pv 3) pe_intA) pa_nilA))))))
    (pss_one (ps_ret (pe_tup (pa_cons (pv 6) (pa_cons (pv 7) (pa_cons (C8.pe_c c__law_value hr (by omega) rfl (pa_cons (pv 0) (pa_cons (pv 1) (pa_cons (pv 2) (pa_cons (pe_op (op_sub) (pv 3) pe_intA) pa_nilA))))) pa_nilA))))))))
      pss_nil)
    (pss_cons (ps_if (PW.pt (pw_and (pt_truth (pv 4) (by intro _; rfl)) (pw_and1 (pt_cmpR (op_gt) (pv 5) pe_intA (nomark _)))))
      (pss_one (ps_ret (pe_ix (ix_listK (K := K)) (pv 4) (C8.pe_c c__law_take hr (by omega) rfl (pa_cons (pv 0) (pa_cons (pe_callB (id := "len") (cr_len (K := K)) (by rfl) Z.len (by decide +kernel) (pa_cons (pv 4) pa_nilA)) pa_nilA))) (fun _ _ => rfl))))
      pss_nil)
    (pss_one (ps_ret (C8.pe_c c__law_constant hr (by omega) rfl (pa_cons (pv 0) (pa_cons (pv 2) pa_nilA)))))))))), ?_⟩
  refine ⟨_, rfl, _, rfl, st, scr, ns, W, x, sc, k, rfl, G, hx, hsc, fun cv ds W1 H1 g1 o1 hcv hds hdl => ?_⟩
  have G1 := G.step g1 o1
  refine ⟨_, rfl, st, scr, ns, W1, 6, rfl, by decide, by decide, G1, fun i H2 hi g2 o2 => ?_⟩
  have G2 := G1.step g2 o2
  have g12 := g1.trans g2
  have hcv2 := Dp.up g2.g hcv
  obtain ⟨ca, cl, rfl, hca, hcl⟩ := dp_list hcv2
  have hll := dpall_len hcl
  have fin : ∀ {v : V} {dd : PyData} {W' H' : Hp}, Gw st W1 H2 W' H' → StOk st scr ns H' → Dp K W' v dd → IsE tb sch (d + 1) sc k dd → dd.bulk ≤ vb d → Q v H' := fun {v dd W' H'} g o h1 h2 h3 => q v dd W' H' (g12.trans g) o h1 h2 h3
  have val : ∀ {d' : Nat} {U V2 : Hp} {Q2 : VK}, d = d' + 1 → Gs K st scr ns U V2 → Dp K U x (scD sc) → (∀ v dd W' H', Gw st U V2 W' H' → StOk st scr ns H' → Dp K W' v dd → IsE tb sch (d' + 1) sc k dd → dd.bulk ≤ vb d' → Q2 v H') → spLV tb sch K n [.ref st, x, .str (kdNm k), .int ((d : Int) - 1)] V2 Q2 C8.E0 := fun {d' U V2 Q2} e G3 hx3 q3 => by
    subst e
    exact ⟨st, scr, ns, U, x, sc, k, d', by rw [show (((d' + 1 : Nat) : Int) - 1) = (d' : Int) by omega], by omega, hk, G3, hx3, hsc, q3⟩
  have hx2 := Dp.up g12.g hx
  dsimp only [gName]
  refine if_pure (decide (k = .num) && (decide (0 < d) && decide (i = 4))) (fun Q2 hQ2 => ?_) ?_
  · refine ⟨_, rfl, _, rfl, ?_⟩
    cases k with
    | cond => exact absurd rfl hk
    | txt => exact iteFd rfl hQ2
    | num =>
      refine iteTd rfl ⟨_, rfl, _, _, rfl, rfl, _, rfl, ?_⟩
      by_cases h : 0 < d
      · refine iteTd (decide_eq_true (by omega)) ⟨_, rfl, rfl, _, rfl, ?_⟩
        have e : (decide (Kd.num = Kd.num) && (decide (0 < d) && decide (i = 4))) = decide (V.int (i : Int) = V.int ((4 : Nat) : Int)) := by
          rw [int_eq]
          simp [h]
        rw [e] at hQ2
        exact hQ2
      · refine iteFd (decide_eq_false (by omega)) ?_
        have e : (decide (Kd.num = Kd.num) && (decide (0 < d) && decide (i = 4))) = false := by simp [h]
        rw [e] at hQ2
        exact hQ2
  refine ite2 (fun hb => ?_) (fun hb => ?_)
  · rw [Bool.and_eq_true, Bool.and_eq_true, decide_eq_true_eq, decide_eq_true_eq, decide_eq_true_eq] at hb
    obtain ⟨rfl, h0, _⟩ := hb
    obtain ⟨d', rfl⟩ : ∃ d', d = d' + 1 := ⟨d - 1, by omega⟩
    refine ⟨_, rfl, _, rfl, _, rfl, _, rfl, _, _, rfl, rfl, val rfl G2 hx2 fun v dd W3 H3 g3 o3 hv hE hB => ⟨by show 2 ≤ sizeLine; decide, fun p hp => ?_⟩⟩
    have G3 := G2.step g3 o3
    refine fin (dd := .tuple [.str "neg", dd]) (g3.trans (Grow.new G3.s hp _)) (o3.same (same_new hp _)) (newT_of (same_none G3.s hp) (.cons (.str _) (.cons hv .nil))) (fun g => ?_) ?_
    · obtain ⟨f, e⟩ := hE g
      exact ⟨_, .neg (Nat.lt_succ_self _) e⟩
    · have h2 : ("neg" : Str).cps.size = 3 := by decide
      simp only [PyData.bulk, PyData.bulkAll]
      show _ ≤ 2 * vb d' + 8
      omega
  dsimp only [tNext, tSeq]
  refine if_pure (decide (k = .num) && (decide (0 < d) && decide (i = 5))) (fun Q2 hQ2 => ?_) ?_
  · refine ⟨_, rfl, _, rfl, ?_⟩
    cases k with
    | cond => exact absurd rfl hk
    | txt => exact iteFd rfl hQ2
    | num =>
      refine iteTd rfl ⟨_, rfl, _, _, rfl, rfl, _, rfl, ?_⟩
      by_cases h : 0 < d
      · refine iteTd (decide_eq_true (by omega)) ⟨_, rfl, rfl, _, rfl, ?_⟩
        have e : (decide (Kd.num = Kd.num) && (decide (0 < d) && decide (i = 5))) = decide (V.int (i : Int) = V.int ((5 : Nat) : Int)) := by
          rw [int_eq]
          simp [h]
        rw [e] at hQ2
        exact hQ2
      · refine iteFd (decide_eq_false (by omega)) ?_
        have e : (decide (Kd.num = Kd.num) && (decide (0 < d) && decide (i = 5))) = false := by simp [h]
        rw [e] at hQ2
        exact hQ2
  refine ite2 (fun hb => ?_) (fun hb => ?_)
  · rw [Bool.and_eq_true, Bool.and_eq_true, decide_eq_true_eq, decide_eq_true_eq, decide_eq_true_eq] at hb
    obtain ⟨rfl, h0, _⟩ := hb
    obtain ⟨d', rfl⟩ : ∃ d', d = d' + 1 := ⟨d - 1, by omega⟩
    refine ⟨by show 5 ≤ sizeLine; decide, fun p hp => ⟨_, rfl, ?_⟩⟩
    refine pick_new (items := [.str "add", .str "sub", .str "mul", .str "div", .str "mod"]) G2 hp fun j v H3 hj g3 o3 => ?_
    obtain ⟨o, rfl⟩ := ops_get hj
    have G3 := G2.step g3 o3
    refine ⟨_, rfl, _, rfl, _, rfl, _, rfl, _, _, rfl, rfl, val rfl G3 (Dp.up g3.g hx2) fun v1 d1 W4 H4 g4 o4 hv1 hE1 hB1 => ?_⟩
    have G4 := G3.step g4 o4
    refine ⟨_, rfl, _, rfl, _, rfl, _, rfl, _, rfl, _, rfl, _, _, rfl, rfl, val rfl G4 (Dp.up (g3.trans g4).g hx2) fun v2 d2 W5 H5 g5 o5 hv2 hE2 hB2 => ⟨by show 3 ≤ sizeLine; decide, fun p2 hp2 => ?_⟩⟩
    have G5 := G4.step g5 o5
    refine fin (dd := .tuple [.str o.nm, d1, d2]) ((g3.trans g4).trans (g5.trans (Grow.new G5.s hp2 _))) (o5.same (same_new hp2 _)) (newT_of (same_none G5.s hp2) (.cons (.str _) (.cons (Dp.up g5.g hv1) (.cons hv2 .nil)))) (fun g => ?_) ?_
    · obtain ⟨f1, e1⟩ := hE1 g
      obtain ⟨f2, e2⟩ := hE2 g
      exact ⟨_, .ar o (Nat.lt_succ_self _) e1 e2⟩
    · have h2 := nm_bulk o
      simp only [PyData.bulk, PyData.bulkAll]
      show _ ≤ 2 * vb d' + 8
      omega
  dsimp only [tNext, tSeq]
  refine if_pure (!cl.isEmpty && decide (0 < i)) (fun Q2 hQ2 => ?_) ?_
  · refine ⟨_, rfl, !cl.isEmpty, .inl ⟨cl, G2.s.seq hca, rfl⟩, ite2 (fun h => ⟨_, rfl, _, _, rfl, rfl, _, rfl, ?_⟩) (fun h => ?_)⟩
    · have e : (!cl.isEmpty && decide (0 < i)) = decide ((0 : Int) < (i : Int)) := by
        rw [h, Bool.true_and]
        exact decide_eq_decide.mpr (by omega)
      rw [e] at hQ2
      exact hQ2
    · rw [Bool.eq_false_iff.mpr h, Bool.false_and] at hQ2
      exact hQ2
  refine ite2 (fun hb => ?_) (fun hb => ?_)
  · rw [Bool.and_eq_true] at hb
    have hpos : 0 < ds.length := by
      rw [← hll]
      cases cl with
      | nil => simp at hb
      | cons a l => simp
    refine ⟨_, rfl, _, rfl, _, rfl, len_d (Dp.up G2.s hcv2) ⟨st, scr, ns, W1, _, rfl, by omega, by have : (2 : Int) ^ 30 = 1073741824 := by decide
                                                                                                   omega, G2, fun j H3 hj g3 o3 => ?_⟩⟩
    have hj' : j < ds.length := by omega
    refine ixL_w j g3.i (Dp.up g3.g hcv2) (List.getElem?_eq_getElem hj') (fun v hv => ?_)
    have ce := hds _ (List.getElem_mem hj')
    exact fin g3 o3 hv (ce.isE _).1 (Nat.le_trans (ce.isE (tb := tb) (sch := sch) 0).2 (Nat.le_trans (by decide) (vb_pos d)))
  · exact ⟨_, rfl, _, rfl, st, scr, ns, W1, k, rfl, hk, G2, fun v dd W3 H3 g3 o3 hv hE hB => fin g3 o3 hv (hE _ sc) (Nat.le_trans hB (vb_pos d))⟩
theorem law_value_all (Z : Glb mg) (D : DefN K mg "_law_value" 23) (c__law_take : C8.Cal P w K mg base 1 "_law_take" (spTake K) []) (c__law_cells : C8.Cal P w K mg base 1 "_law_cells" (spCells K) [])
    (c__law_constant : C8.Cal P w K mg base 3 "_law_constant" (spConst tb sch K) []) : ∀ n : Nat, C8.Cal P w K mg base (n + 4) "_law_value" (spLV tb sch K n) []
  | 0 => by
    refine cal_of (k := 3) D (N := ["_law_state_here", "_law_scopes", "_law_kind", "_law_depth", "_law_cells_here", "_law_pick", "_law_op", "_law_left"]) (ps := ["_law_state_here", "_law_scopes", "_law_kind", "_law_depth"]) (C8.fnScope_by (by decide +kernel)) (fun _ _ _ _ _ _ us hl => match us, hl with | [_, _, _, _], _ => rfl) (fun vs H Q E h => ?_) fun fa cdv A outer s H vs Q E hr h => none_body ?_
    · obtain ⟨st, scr, ns, W, x, sc, k, d, rfl, _⟩ := h
      rfl
    · obtain ⟨st, scr, ns, W, x, sc, k, d, rfl, hd, _⟩ := h
      omega
  | n + 1 => ok_law_value Z D c__law_take c__law_cells c__law_constant (law_value_all Z D c__law_take c__law_cells c__law_constant n)
end
end K23

set_option Elab.async false
set_option linter.all false
set_option maxRecDepth 100000
set_option maxHeartbeats 4000000
/-! K23za: comparisons, kinds. -/
namespace K23
open PySem PySem.Spec PyProof.Rows L2

/-- J for the state -/
theorem stOk_upd {st scr D : Addr} {ns : List Int} {H H1 : Hp} {o : HO} (h : StOk st scr ns H1) (hD : H D = none) (hst : H st ≠ none) : StOk st scr ns (upd H1 D o) := by
  obtain ⟨e4, r, pp, mx, h1, h2⟩ := h
  refine ⟨e4, r, pp, mx, ?_, h2⟩
  rw [upd_ne fun z => hst (by rw [z]; exact hD)]
  exact h1
theorem kinds3_get {i : Nat} {v : V} (h : ([.str "number", .str "number", .str "text"] : List V)[i]? = some v) : ∃ k : Kd, k ≠ .cond ∧ v = .str (kdNm k) := by
  match i, h with
  | 0, h => exact ⟨.num, (by decide), (Option.some.inj h).symm⟩
  | 1, h => exact ⟨.num, (by decide), (Option.some.inj h).symm⟩
  | 2, h => exact ⟨.txt, (by decide), (Option.some.inj h).symm⟩
  | i + 3, h => simp at h
theorem cmps_get {i : Nat} {v : V} (h : ([.str "eq", .str "eq", .str "ne", .str "lt", .str "le", .str "gt", .str "ge"] : List V)[i]? = some v) : ∃ o : Cm, v = .str o.nm := by
  match i, h with
  | 0, h => exact ⟨.eq, (Option.some.inj h).symm⟩
  | 1, h => exact ⟨.eq, (Option.some.inj h).symm⟩
  | 2, h => exact ⟨.ne, (Option.some.inj h).symm⟩
  | 3, h => exact ⟨.lt, (Option.some.inj h).symm⟩
  | 4, h => exact ⟨.le, (Option.some.inj h).symm⟩
  | 5, h => exact ⟨.gt, (Option.some.inj h).symm⟩
  | 6, h => exact ⟨.ge, (Option.some.inj h).symm⟩
  | i + 7, h => simp at h
theorem hcmps_get {i : Nat} {v : V} (h : ([.str "ge", .str "lt", .str "eq", .str "ne", .str "le", .str "gt"] : List V)[i]? = some v) : ∃ o : Cm, v = .str o.nm := by
  match i, h with
  | 0, h => exact ⟨.ge, (Option.some.inj h).symm⟩
  | 1, h => exact ⟨.lt, (Option.some.inj h).symm⟩
  | 2, h => exact ⟨.eq, (Option.some.inj h).symm⟩
  | 3, h => exact ⟨.ne, (Option.some.inj h).symm⟩
  | 4, h => exact ⟨.le, (Option.some.inj h).symm⟩
  | 5, h => exact ⟨.gt, (Option.some.inj h).symm⟩
  | i + 6, h => simp at h
theorem cm_bulk (o : Cm) : o.nm.cps.size = 2 := by cases o <;> decide
section
variable (tb : Str → List Row) (sch : List (Str × List Kd)) (K : PySem.W.Frag)
def spCmpG : Sp := fun vs H Q _ => ∃ (st scr : Addr) (ns : List Int) (W : Hp) (x : V) (sc : Sc) (d : Nat), vs = [.ref st, x, .int d] ∧ d ≤ 1 ∧ Gs K st scr ns W H ∧ Dp K W x (scD sc) ∧ ScOk sc ∧
  ∀ v dd W' H', Gw st W H W' H' → StOk st scr ns H' → Dp K W' v dd → (∀ g, ∃ f, RepE tb sch (d + 2) g sc dd .cond f) → dd.bulk ≤ 2 * vb d + 5 → Q v H'
def spKinds : Sp := fun vs H Q _ => ∃ (st scr : Addr) (ns : List Int) (W : Hp), vs = [.ref st] ∧ Gs K st scr ns W H ∧
  ∀ v kds W' H', Gw st W H W' H' → StOk st scr ns H' → Dp K W' v (ksD kds) → kds ≠ [] → kds.length ≤ 3 → (∀ k ∈ kds, k ≠ Kd.cond) → Q v H'
end
section
variable {tb : Str → List Row} {sch : List (Str × List Kd)} {P : Program} {w : World} {K : PySem.W.Frag} {mg : Str → Option Value} {base : Heap}
theorem ok_law_comparison (Z : Glb mg) (D : DefN K mg "_law_comparison" 24) (c__law_take : C8.Cal P w K mg base 1 "_law_take" (spTake K) []) (c__law_value : C8.Cal P w K mg base 6 "_law_value" (spLV tb sch K 2) []) : C8.Cal P w K mg base 7 "_law_comparison" (spCmpG tb sch K) [] := by
  have S : FnScope ["_law_state_here", "_law_scopes", "_law_depth", "_law_kind", "_law_op", "_law_left"] ["_law_state_here", "_law_scopes", "_law_depth"] (C8.fnScope (top 24)) := C8.fnScope_by (by decide +kernel)
  refine cal_of D S (fun _ _ _ _ _ _ us hl => match us, hl with | [_, _, _], _ => rfl) (fun vs H Q E h => ?_) fun f cdv A outer s H vs Q E hr h => ?_
  · obtain ⟨st, scr, ns, W, x, sc, d, rfl, _⟩ := h
    rfl
  obtain ⟨st, scr, ns, W, x, sc, d, rfl, hd, G, hx, hsc, q⟩ := h
  refine ⟨_, (pss_cons (ps_set (i := 3) S.nd rfl (by first | exact .inl rfl | exact .inr rfl) (pe_ix (ix_listK (K := K)) (pe_lst (pa_cons pe_strA (pa_cons pe_strA (pa_cons pe_strA pa_nilA)))) (C8.pe_c c__law_take hr (by omega) rfl (pa_cons (pv 0) (pa_cons pe_intA pa_nilA))) (fun _ _ => rfl)))
    (pss_cons (ps_set (i := 4) S.nd rfl (by first | exact .inl rfl | exact .inr rfl) (pe_ix (ix_listK (K := K)) (pe_lst (pa_cons pe_strA (pa_cons pe_strA (pa_cons pe_strA (pa_cons pe_strA (pa_cons pe_strA (pa_cons pe_strA (pa_cons pe_strA pa_nilA)))))))) (C8.pe_c c__law_take hr (by omega) rfl (pa_cons (pv 0) (pa_cons pe_intA pa_nilA))) (fun _ _ => rfl)))
    (pss_cons (ps_set (i := 5) S.nd rfl (by first | exact .inl rfl | exact .inr rfl) (C8.pe_c c__law_value hr (by omega) rfl (pa_cons (pv 0) (pa_cons (pv 1) (pa_cons (pv 3) (pa_cons (pv 2) pa_nilA))))))
    (pss_one (ps_ret (pe_tup (pa_cons (pv 4) (pa_cons (pv 5) (pa_cons (C8.pe_c c__law_value hr (by omega) rfl (pa_cons (pv 0) (pa_cons (pv 1) (pa_cons (pv 3) (pa_cons (pv 2) pa_nilA))))) pa_nilA))))))))), ?_⟩
  refine ⟨by show 3 ≤ sizeLine; decide, fun p hp => ⟨_, rfl, ?_⟩⟩
  refine pick_new (items := [.str "number", .str "number", .str "text"]) G hp fun i v H1 hi g1 o1 => ?_
  obtain ⟨k, hk, rfl⟩ := kinds3_get hi
  have G1 := G.step g1 o1
  refine ⟨by show 7 ≤ sizeLine; decide, fun p2 hp2 => ⟨_, rfl, ?_⟩⟩
  refine pick_new (items := [.str "eq", .str "eq", .str "ne", .str "lt", .str "le", .str "gt", .str "ge"]) G1 hp2 fun j v H2 hj g2 o2 => ?_
  obtain ⟨o, rfl⟩ := cmps_get hj
  have G2 := G1.step g2 o2
  refine ⟨_, rfl, _, rfl, _, rfl, _, rfl, st, scr, ns, W, x, sc, k, d, rfl, by omega, hk, G2, hx, hsc, fun v1 d1 W3 H3 g3 o3 hv1 hE1 hB1 => ?_⟩
  have G3 := G2.step g3 o3
  refine ⟨_, rfl, _, rfl, _, rfl, _, rfl, _, rfl, _, rfl, st, scr, ns, W3, x, sc, k, d, rfl, by omega, hk, G3, Dp.up g3.g hx, hsc, fun v2 d2 W4 H4 g4 o4 hv2 hE2 hB2 => ⟨by show 3 ≤ sizeLine; decide, fun p3 hp3 => ?_⟩⟩
  have G4 := G3.step g4 o4
  refine q _ (.tuple [.str o.nm, d1, d2]) _ _ ((g1.trans g2).trans (g3.trans (g4.trans (Grow.new G4.s hp3 _)))) (o4.same (same_new hp3 _)) (newT_of (same_none G4.s hp3) (.cons (.str _) (.cons (Dp.up g4.g hv1) (.cons hv2 .nil)))) (fun g => ?_) ?_
  · obtain ⟨f1, e1⟩ := hE1 g
    obtain ⟨f2, e2⟩ := hE2 g
    exact ⟨_, .cm o (Nat.lt_succ_self _) hk e1 e2⟩
  · have h2 := cm_bulk o
    simp only [PyData.bulk, PyData.bulkAll]
    omega
theorem ok_law_kinds (Z : Glb mg) (D : DefN K mg "_law_kinds" 26) (c__law_take : C8.Cal P w K mg base 1 "_law_take" (spTake K) []) : C8.Cal P w K mg base 2 "_law_kinds" (spKinds K) [] := by
  have S : FnScope ["_law_state_here", "_law_n"] ["_law_state_here"] (C8.fnScope (top 26)) := C8.fnScope_by (by decide +kernel)
  refine cal_of D S (fun _ _ _ _ _ _ us hl => match us, hl with | [_], _ => rfl) (fun vs H Q E h => ?_) fun f cdv A outer s H vs Q E hr h => ?_
  · obtain ⟨st, scr, ns, W, rfl, _⟩ := h
    rfl
  obtain ⟨st, scr, ns, W, rfl, G, q⟩ := h
  refine ⟨_, (pss_one (ps_ret (pe_lc (own := [("_law_n", 1)]) (g := gName 1) (by rfl) S.nd (pi_range1 (by rfl) Z.range (pa_cons (pe_op (op_add) pe_intA (C8.pe_c c__law_take hr (by omega) rfl (pa_cons (pv 0) (pa_cons pe_intA pa_nilA)))) pa_nilA)) (blkOk_by (own := [("_law_n", 1)]) (N := ["_law_state_here", "_law_n"]) (sc := C8.fnScope (top 26)) (by decide +kernel)) (fun _ _ _ _ _ => pg_name (i := 1) S.nd rfl (by first | exact .inl rfl | exact .inr rfl)) (fun _ _ _ _ _ => pts_nil) (fun _ _ _ _ _ => (pe_ix (ix_listK (K := K)) (pe_lst (pa_cons pe_strA (pa_cons pe_strA pa_nilA))) (pe_op (op_fdivB) (C8.pe_c c__law_take hr (by omega) rfl (pa_cons (pv 0) (pa_cons pe_intA pa_nilA))) pe_intA) (fun _ _ => rfl)))))), ?_⟩
  refine ⟨_, rfl, st, scr, ns, W, 3, rfl, by decide, by decide, G, fun i H1 hi g1 o1 => ?_⟩
  have G1 := G.step g1 o1
  refine ⟨_, _, rfl, rfl, _, rfl, by omega, by omega, ?_⟩
  have h0 : ((1 : Int) + (i : Int)).toNat = 1 + i := by omega
  rw [h0]
  intro DD hDD
  refine lc_viewR (K := K) (n := 1 + i) (E := fun b => b = st) (J := fun H => StOk st scr ns H) (R := fun _ d => ∃ k : Kd, k ≠ .cond ∧ d = .str (kdNm k)) (N := fun _ => False) G1.s hDD (fun z => G1.o.ne (by rw [← z]; exact hDD)) (fun H2 o hJ => stOk_upd hJ hDD G1.o.ne) (G1.o.same (same_new hDD _)) (by omega) (fun c hc => ?_) fun H3 W3 us outs g3 o3 hD3 hW3 ho hus => ?_
  · intro W4 H4 g4 hW4 hD4 o4 Kp Sk hK hS
    have G4 := G1.step g4 o4
    refine ⟨rfl, by show 2 ≤ sizeLine; decide, fun p hp => ?_⟩
    have s4 := same_new hp (.lst [.str "number", .str "text"])
    have pst : p ≠ st := fun z => G4.o.ne (by rw [← z]; exact hp)
    refine ⟨_, rfl, st, scr, ns, W4, 3, rfl, by decide, by decide, G4.up s4, fun j H5 hj g5 o5 => ?_⟩
    have h5 := g5.k _ _ upd_same pst
    refine ⟨_, _, rfl, rfl, ⟨by decide, by decide⟩, ?_⟩
    have hf : ((j : Int)).fdiv 2 = (j : Int) / 2 := Int.fdiv_eq_ediv_of_nonneg _ (by decide)
    have g45 : Gw st W4 H4 W4 H5 := (gw_same G4 s4).trans g5
    rcases (by omega : (j : Int) / 2 = 0 ∨ (j : Int) / 2 = 1) with z | z
    · exact ⟨p, _, 0, _, rfl, congrArg V.int (hf.trans z), SqL.of h5, rfl, hK (.str "number") _ _ W4 ⟨.num, by decide, rfl⟩ g45 o5 (.str _)⟩
    · exact ⟨p, _, 1, _, rfl, congrArg V.int (hf.trans z), SqL.of h5, rfl, hK (.str "text") _ _ W4 ⟨.txt, by decide, rfl⟩ g45 o5 (.str _)⟩
  · have G3 := G1.step g3 o3
    have g13 := g1.trans g3
    obtain ⟨kds, e1, e2, e3⟩ : ∃ kds : List Kd, outs = (kds.map fun k => PyData.str (kdNm k)) ∧ (∀ k ∈ kds, k ≠ Kd.cond) ∧ kds.length = (List.range (1 + i)).length := by
      generalize List.range (1 + i) = l at ho
      clear hus hD3 g3 G3 g13
      induction ho with
      | nil => exact ⟨[], rfl, (fun k h => nomatch h), rfl⟩
      | keep h t ih =>
        obtain ⟨kds, a1, a2, a3⟩ := ih
        obtain ⟨k, b1, rfl⟩ := h
        refine ⟨k :: kds, by rw [List.map_cons, a1], fun j hj => ?_, by rw [List.length_cons, List.length_cons, a3]⟩
        rcases List.mem_cons.mp hj with z | z
        · rw [z]; exact b1
        · exact a2 j z
      | skip h t ih => exact h.elim
    rw [List.length_range] at e3
    rw [e1] at hus
    have hD1 : H1 DD = none := hDD
    refine q (.ref DD) kds _ H3 (Gw.add g13 hD3 (gw_free g1 hDD) hW3) o3 (.lst (SqL.of upd_same) (DpAll.up (same_new hW3 _) hus)) (fun z => by rw [z] at e3; simp at e3; omega) (by omega) e2
end
end K23

set_option Elab.async false
set_option linter.all false
set_option maxRecDepth 100000
set_option maxHeartbeats 4000000
/-! K23zb: values of a group. -/
namespace K23
open PySem PySem.Spec PyProof.Rows L2

theorem lt30 {n : Nat} (h : n ≤ 1000) : (n : Int) < 2 ^ 30 := by
  have : (2 : Int) ^ 30 = 1073741824 := by decide
  omega
theorem pick_le {K : PySem.W.Frag} {st scr p : Addr} {ns : List Int} {W H : Hp} {items : List V} {many : Int} {Q : VK} (G : Gs K st scr ns W H) (hp : H p = none) (h1 : 1 ≤ many) (hm : many ≤ (items.length : Int)) (hl : items.length ≤ 1000)
    (q : ∀ (i : Nat) v H', (i : Int) < many → items[i]? = some v → Gw st W H W H' → StOk st scr ns H' → Q v H') : spTake K [.ref st, .int many] (upd H p (.lst items)) (fun y H' => rIxL K (.ref p) y H' Q) C8.E0 := by
  have s1 := same_new hp (.lst items)
  refine ⟨st, scr, ns, W, _, rfl, h1, by have : (2 : Int) ^ 30 = 1073741824 := by decide
                                         omega, G.up s1, fun i H' hi g o => ?_⟩
  have hi' : i < items.length := by omega
  have pne : p ≠ st := fun z => G.o.ne (by rw [← z]; exact hp)
  exact ⟨p, items, i, items[i], rfl, rfl, SqL.of (g.k _ _ upd_same pne), atI_nat (List.getElem?_eq_getElem hi'), q i _ H' hi (List.getElem?_eq_getElem hi') ((gw_same G s1).trans g) o⟩
theorem ops2_get {i : Nat} {v : V} (h : ([.str "sub", .str "add", .str "mul", .str "div", .str "mod"] : List V)[i]? = some v) : ∃ o : Ar, v = .str o.nm := by
  match i, h with
  | 0, h => exact ⟨.sub, (Option.some.inj h).symm⟩
  | 1, h => exact ⟨.add, (Option.some.inj h).symm⟩
  | 2, h => exact ⟨.mul, (Option.some.inj h).symm⟩
  | 3, h => exact ⟨.div, (Option.some.inj h).symm⟩
  | 4, h => exact ⟨.mod, (Option.some.inj h).symm⟩
  | i + 5, h => simp at h
def gb : Nat → Nat
  | 0 => 110
  | d + 1 => 2 * gb d + 8
theorem gb_pos (d : Nat) : 110 ≤ gb d := by
  induction d with
  | zero => exact Nat.le_refl _
  | succ d ih =>
    show 110 ≤ 2 * gb d + 8
    omega
theorem cut1 (x : V) (xs : List V) : cutV (x :: xs) (some 1) none = xs := by
  have e : HT.sIx (x :: xs).length 0 (some 1) = 1 := by
    have := HT.sIx_nat (x :: xs).length 0 1
    rw [show ((1 : Nat) : Int) = 1 from rfl] at this
    rw [this, List.length_cons]
    omega
  unfold cutV
  rw [e, HT.sIx_none, List.drop_succ_cons, List.drop_zero, List.length_cons, Nat.add_sub_cancel, List.take_length]
theorem view_done {K : PySem.W.Frag} {st D : Addr} {W0 H W' H' : Hp} {ys : List V} {outs : List PyData} (g : Grow (fun b => b = st) W0 H W' H') (hD' : H' D = some (.lst ys)) (hD : H D = none) (hW : W' D = none) (hd : DpAll K W' ys outs) :
    Gw st W0 H (upd W' D (.lst ys)) H' ∧ Dp K (upd W' D (.lst ys)) (.ref D) (.list outs) := ⟨Gw.add g hD' hD hW, .lst (SqL.of upd_same) (DpAll.up (same_new hW _) hd)⟩
theorem IsE.isG {tb : Str → List Row} {sch : List (Str × List Kd)} {n : Nat} {sc : Sc} {k : Kd} {d : PyData} (h : IsE tb sch n sc k d) : IsG tb sch n sc k d := h true
def CsOk (scn : List (List Kd)) (cs : List (Nat × Nat)) : Prop := cs.length ≤ 4 ∧ ∀ p ∈ cs, ∃ ks k, scn[p.1]? = some ks ∧ ks[p.2]? = some k
section
variable (tb : Str → List Row) (sch : List (Str × List Kd)) (K : PySem.W.Frag)
def spLG (n : Nat) : Sp := fun vs H Q _ => ∃ (st scr : Addr) (ns : List Int) (W : Hp) (x vg : V) (scn : List (List Kd)) (sc : Sc) (cs : List (Nat × Nat)) (k : Kd) (d : Nat), vs = [.ref st, x, vg, .str (kdNm k), .int d] ∧ d < n ∧ k ≠ .cond ∧ Gs K st scr ns W H ∧ Dp K W x (scD (scn :: sc)) ∧ ScOk (scn :: sc) ∧ Dp K W vg (optG (some cs)) ∧ CsOk scn cs ∧
  ∀ v dd W' H', Gw st W H W' H' → StOk st scr ns H' → Dp K W' v dd → IsG tb sch (d + 3) (scn :: sc) k dd → dd.bulk ≤ gb d → Q v H'
end
section
variable {tb : Str → List Row} {sch : List (Str × List Kd)} {P : Program} {w : World} {K : PySem.W.Frag} {mg : Str → Option Value} {base : Heap}
theorem ok_law_group_value (Z : Glb mg) (D : DefN K mg "_law_group_value" 27) {n : Nat} (c__law_take : C8.Cal P w K mg base 1 "_law_take" (spTake K) []) (c__law_cells : C8.Cal P w K mg base 1 "_law_cells" (spCells K) [])
    (c__law_constant : C8.Cal P w K mg base 3 "_law_constant" (spConst tb sch K) []) (c__law_value : C8.Cal P w K mg base 6 "_law_value" (spLV tb sch K 2) []) (c__law_group_value : C8.Cal P w K mg base (n + 7) "_law_group_value" (spLG tb sch K n) []) :
    C8.Cal P w K mg base (n + 7 + 1) "_law_group_value" (spLG tb sch K (n + 1)) [] := by
  have S : FnScope ["_law_state_here", "_law_scopes", "_law_group_here", "_law_kind", "_law_depth", "_law_pick", "_law_cells_here", "_law_outer", "_law_op", "_law_left", "_law_cell"] ["_law_state_here", "_law_scopes", "_law_group_here", "_law_kind", "_law_depth"] (C8.fnScope (top 27)) := C8.fnScope_by (by decide +kernel)
  refine cal_of D S (fun _ _ _ _ _ _ us hl => match us, hl with | [_, _, _, _, _], _ => rfl) (fun vs H Q E h => ?_) fun f cdv A outer s H vs Q E hr h => ?_
  · obtain ⟨st, scr, ns, W, x, vg, scn, sc, cs, k, d, rfl, _⟩ := h
    rfl
  obtain ⟨st, scr, ns, W, x, vg, scn, sc, cs, k, d, rfl, hd, hk, G, hx, hsc, hg, hcs, q⟩ := h
  refine ⟨_, (pss_cons (ps_set (i := 5) S.nd rfl (by first | exact .inl rfl | exact .inr rfl) (C8.pe_c c__law_take hr (by omega) rfl (pa_cons (pv 0) (pa_cons pe_intA pa_nilA))))
    (pss_cons (ps_setLc (i := 6) (own := [("_law_cell", 10)]) (g := gName 10) (by rfl) S.nd rfl rfl (sw_true rfl rfl rfl (by decide +kernel)) (pi_listK (K := K) (pv 2)) (blkOk_by (own := [("_law_cell", 10)]) (N := ["_law_state_here", "_law_scopes", "_law_group_here", "_law_kind", "_law_depth", "_law_pick", "_law_cells_here", "_law_outer", "_law_op", "_law_left", "_law_cell"]) (sc := C8.fnScope (top 27)) (by decide +kernel)) (fun _ _ _ _ _ => pg_name (i := 10) S.nd rfl (by first | exact .inl rfl | exact .inr rfl)) (fun _ _ _ _ _ => (pts_one (pt_cmpR (op_eq) (pe_ix (ix_listK (K := K)) (pe_ix (ix_listK (K := K)) (pe_ix (ix_listK (K := K)) (pv 1) pe_intA (fun _ _ => rfl)) (pe_ix (ix_tupK (K := K)) (pv 10) pe_intA (fun _ _ => rfl)) (fun _ _ => rfl)) (pe_ix (ix_tupK (K := K)) (pv 10) pe_intA (fun _ _ => rfl)) (fun _ _ => rfl)) (pv 3) (nomark _)))) (fun _ _ _ _ _ => (pv 10)))
    (pss_cons (ps_setLc (i := 7) (own := [("_law_cell", 10)]) (g := gName 10) (by rfl) S.nd rfl rfl (sw_true rfl rfl rfl (by decide +kernel)) (pi_listK (K := K) (C8.pe_c c__law_cells hr (by omega) rfl (pa_cons (pe_slice (sl_listK (K := K)) (pv 1) (po_some pe_intA) po_none) (pa_cons (pv 3) pa_nilA)))) (blkOk_by (own := [("_law_cell", 10)]) (N := ["_law_state_here", "_law_scopes", "_law_group_here", "_law_kind", "_law_depth", "_law_pick", "_law_cells_here", "_law_outer", "_law_op", "_law_left", "_law_cell"]) (sc := C8.fnScope (top 27)) (by decide +kernel)) (fun _ _ _ _ _ => pg_name (i := 10) S.nd rfl (by first | exact .inl rfl | exact .inr rfl)) (fun _ _ _ _ _ => pts_nil) (fun _ _ _ _ _ => (pe_tup (pa_cons pe_strA (pa_cons (pe_op (op_add) (pe_ix (ix_tupK (K := K)) (pv 10) pe_intA (fun _ _ => rfl)) pe_intA) (pa_cons (pe_ix (ix_tupK (K := K)) (pv 10) pe_intA (fun _ _ => rfl)) (pa_cons (pe_ix (ix_tupK (K := K)) (pv 10) pe_intA (fun _ _ => rfl)) pa_nilA)))))))
    (pss_cons (ps_if (PW.pt (pw_and (pt_cmpR (op_eq) (pv 5) pe_intA (nomark _)) (pw_and1 (pt_truth (pv 6) (by intro _; rfl)))))
      (pss_one (ps_ret (pe_ix (ix_listK (K := K)) (pv 6) (C8.pe_c c__law_take hr (by omega) rfl (pa_cons (pv 0) (pa_cons (pe_callB (id := "len") (cr_len (K := K)) (by rfl) Z.len (by decide +kernel) (pa_cons (pv 6) pa_nilA)) pa_nilA))) (fun _ _ => rfl))))
      pss_nil)
    (pss_cons (ps_if (PW.pt (pw_and (pt_cmpR (op_eq) (pv 5) pe_intA (nomark _)) (pw_and1 (pt_eqS (pv 3)))))
      (pss_one (ps_ret (pe_tup (pa_cons pe_strA pa_nilA))))
      pss_nil)
    (pss_cons (ps_if (PW.pt (pw_and (pt_cmpR (op_eq) (pv 5) pe_intA (nomark _)) (pw_and (pt_eqS (pv 3)) (pw_and1 (pt_cmpR (op_gt) (pv 4) pe_intA (nomark _))))))
      (pss_cons (ps_set (i := 9) S.nd rfl (by first | exact .inl rfl | exact .inr rfl) (C8.pe_c c__law_group_value hr (by omega) rfl (pa_cons (pv 0) (pa_cons (pv 1) (pa_cons (pv 2) (pa_cons (pv 3) (pa_cons (pe_op (op_sub) (pv 4) pe_intA) pa_nilA)))))))
    (pss_cons (ps_set (i := 8) S.nd rfl (by first | exact .inl rfl | exact .inr rfl) (pe_ix (ix_listK (K := K)) (pe_lst (pa_cons pe_strA (pa_cons pe_strA (pa_cons pe_strA (pa_cons pe_strA (pa_cons pe_strA pa_nilA)))))) (C8.pe_c c__law_take hr (by omega) rfl (pa_cons (pv 0) (pa_cons pe_intA pa_nilA))) (fun _ _ => rfl)))
    (pss_one (ps_ret (pe_tup (pa_cons (pv 8) (pa_cons (pv 9) (pa_cons (C8.pe_c c__law_group_value hr (by omega) rfl (pa_cons (pv 0) (pa_cons (pv 1) (pa_cons (pv 2) (pa_cons (pv 3) (pa_cons (pe_op (op_sub) (pv 4) pe_intA) pa_nilA)))))) pa_nilA))))))))
      pss_nil)
    (pss_cons (ps_if (PW.pt (pw_and (pt_cmpR (op_eq) (pv 5) pe_intA (nomark _)) (pw_and1 (pt_truth (pv 7) (by intro _; rfl)))))
      (pss_one (ps_ret (pe_ix (ix_listK (K := K)) (pv 7) (C8.pe_c c__law_take hr (by omega) rfl (pa_cons (pv 0) (pa_cons (pe_callB (id := "len") (cr_len (K := K)) (by rfl) Z.len (by decide +kernel) (pa_cons (pv 7) pa_nilA)) pa_nilA))) (fun _ _ => rfl))))
      pss_nil)
    (pss_cons (ps_if (PW.pt (pw_and (pt_cmpR (op_eq) (pv 5) pe_intA (nomark _)) (pw_and (pt_eqS (pv 3)) (pw_and1 (pt_cmpR (op_gt) (pv 4) pe_intA (nomark _))))))
      (pss_one (ps_ret (pe_tup (pa_cons pe_strA (pa_cons (C8.pe_c c__law_group_value hr (by omega) rfl (pa_cons (pv 0) (pa_cons (pv 1) (pa_cons (pv 2) (pa_cons (pv 3) (pa_cons (pe_op (op_sub) (pv 4) pe_intA) pa_nilA)))))) pa_nilA)))))
      pss_nil)
    (pss_cons (ps_if (pt_cmpR (op_eq) (pv 5) pe_intA (nomark _))
      (pss_one (ps_ret (C8.pe_c c__law_constant hr (by omega) rfl (pa_cons (pv 0) (pa_cons (pv 3) pa_nilA)))))
      pss_nil)
    (pss_cons (ps_set (i := 8) S.nd rfl (by first | exact .inl rfl | exact .inr rfl) (pe_ix (ix_listK (K := K)) (pe_lst (pa_cons pe_strA (pa_cons pe_strA (pa_cons pe_strA pa_nilA)))) (C8.pe_c c__law_take hr (by omega) rfl (pa_cons (pv 0) (pa_cons (pe_op (op_add) pe_intA (pe_callTy (T := "int") (cr_int1) (by rfl) Z.int (by decide +kernel) (pa_cons (pe_eqS (pv 3)) pa_nilA))) pa_nilA))) (fun _ _ => rfl)))
    (pss_one (ps_ret (pe_tup (pa_cons (pv 8) (pa_cons (C8.pe_c c__law_value hr (by omega) rfl (pa_cons (pv 0) (pa_cons (pv 1) (pa_cons (pv 3) (pa_cons pe_intA pa_nilA))))) pa_nilA))))))))))))))), ?_⟩
  refine ⟨_, rfl, st, scr, ns, W, 7, rfl, by decide, by decide, G, fun i H1 hi g1 o1 => ?_⟩
  have G1 := G.step g1 o1
  have hscn := hsc.2 scn List.mem_cons_self
  -- the group's cells of the kind
  obtain ⟨ga, gl, rfl, hga, hgl⟩ := dp_list hg
  have hgll : gl.length = cs.length := by rw [dpall_len hgl, List.length_map]
  refine ⟨_, rfl, ga, rfl, ⟨_, G1.s.seq hga⟩, fun DD hDD => ?_⟩
  refine lc_view (K := K) (E := fun b => b = st) (V0 := W) (H := H1) (xs := gl) (as := cs) (Rel := fun p y => Dp K W y (cellD 0 p.1 p.2)) (J := fun H => StOk st scr ns H) (R := fun p d => d = cellD 0 p.1 p.2 ∧ CellOk (scn :: sc) k d) (N := fun _ => True)
    G1.s hga hgll (fun j c y e1 e2 => ?_) hDD (fun z => G1.o.ne (by rw [← z]; exact hDD)) (fun H2 o hJ => stOk_upd hJ hDD G1.o.ne) (G1.o.same (same_new hDD _)) (by have := hcs.1; omega) (fun p y hp hy W4 H4 g4 hW4 hD4 o4 Kp Sk hK hS => ?_) fun H2 W2 us outs g2 o2 hD2 hW2 ho hus => ?_
  · obtain ⟨dd, f1, f2⟩ := dpall_get2 hgl e2
    rw [List.getElem?_map, e1] at f1
    cases f1
    exact f2
  · obtain ⟨ks, k', e1, e2⟩ := hcs.2 p hp
    have hy4 := Dp.up g4.g hy
    have p1 : p.1 < scn.length := (List.getElem?_eq_some_iff.mp e1).1
    have p2 : p.2 < ks.length := (List.getElem?_eq_some_iff.mp e2).1
    have hks := (hscn.2 ks (List.mem_of_getElem? e1)).1
    refine ⟨rfl, _, rfl, ixL_w 0 g4.i (Dp.up g4.g hx) (d := scnD scn) rfl fun v hv => ⟨_, rfl, ixT_w 2 g4.i hy4 rfl fun v2 hv2 => ?_⟩⟩
    cases dp_int hv2
    refine ixL_w p.1 g4.i hv (d := ksD ks) (by rw [List.getElem?_map, e1]; rfl) fun v3 hv3 => ⟨_, rfl, ixT_w 3 g4.i hy4 rfl fun v4 hv4 => ?_⟩
    cases dp_int hv4
    refine ixL_w p.2 g4.i hv3 (d := .str (kdNm k')) (by rw [List.getElem?_map, e2]; rfl) fun v5 hv5 => ?_
    cases dp_str hv5
    refine ⟨_, rfl, rfl, _, rfl, ?_⟩
    rw [kdNm_eq]
    refine ite2 (fun hb => ?_) (fun hb => hS W4 H4 trivial (Grow.here g4.i) o4)
    have ek : k' = k := of_decide_eq_true hb
    subst ek
    exact ⟨_, rfl, hK (cellD 0 p.1 p.2) y _ W4 ⟨rfl, 0, p.1, p.2, scn, ks, rfl, rfl, e1, e2, by decide, by have := hscn.1; omega, by omega⟩ (Grow.here g4.i) o4 hy4⟩
  have G2' := G1.step g2 o2
  obtain ⟨g2a, dp2⟩ := view_done g2 hD2 hDD hW2 hus
  generalize hW2a : upd W2 DD (.lst us) = W2a at g2a dp2
  have G2 := G1.step g2a o2
  have g12 := g1.trans g2a
  have hx2 := Dp.up g12.g hx
  have ok2 : ∀ e ∈ outs, CellOk (scn :: sc) k e := fun e he => by
    obtain ⟨c, _, h1, h2⟩ := ho.all e he
    exact h2
  have ol2 : outs.length ≤ 4 := Nat.le_trans ho.len hcs.1
  -- the cells of the outer scopes
  obtain ⟨xa, xl, rfl, hxa, hxl⟩ := dp_list hx2
  obtain ⟨x0, xs, rfl, hx0, hxs⟩ : ∃ x0 xs, xl = x0 :: xs ∧ Dp K W2a x0 (scnD scn) ∧ DpAll K W2a xs (sc.map scnD) := by
    cases hxl with
    | cons h t => exact ⟨_, _, rfl, h, t⟩
  refine ⟨_, rfl, _, rfl, xa, _, rfl, G2.s.seq hxa, fun p hp => ?_⟩
  rw [cut1]
  have G3 := G2.new hp (.lst xs)
  have hWp := same_none G2.s hp
  have hsc' : ScOk sc := ⟨by have := hsc.1; rw [List.length_cons] at this; omega, fun y hy => hsc.2 y (List.mem_cons_of_mem _ hy)⟩
  refine ⟨_, rfl, st, scr, ns, upd W2a p (.lst xs), .ref p, sc, k, rfl, G3, .lst (SqL.of upd_same) (DpAll.up (same_new hWp _) hxs), hsc', fun cv ds W3 H3 g3 o3 hcv hds hdl => ?_⟩
  have G3b := G3.step g3 o3
  obtain ⟨ca, cl, rfl, hca, hcl⟩ := dp_list hcv
  have hll : cl.length = ds.length := dpall_len hcl
  refine ⟨ca, rfl, ⟨_, G3b.s.seq hca⟩, fun D2 hD2' => ?_⟩
  refine lc_view (K := K) (E := fun b => b = st) (V0 := W3) (H := H3) (xs := cl) (as := ds) (Rel := fun d y => Dp K W3 y d) (J := fun H => StOk st scr ns H) (R := fun _ e => CellOk (scn :: sc) k e) (N := fun _ => False)
    G3b.s hca hll (fun j c y e1 e2 => ?_) hD2' (fun z => G3b.o.ne (by rw [← z]; exact hD2')) (fun H4 o hJ => stOk_upd hJ hD2' G3b.o.ne) (G3b.o.same (same_new hD2' _)) (by omega) (fun dd y hdd hy W4 H4 g4 hW4 hD4 o4 Kp Sk hK hS => ?_) fun H4 W4 us2 outs2 g4 o4 hD4 hW4 ho4 hus4 => ?_
  · obtain ⟨d', f1, f2⟩ := dpall_get2 hcl e2
    rw [e1] at f1
    cases f1
    exact f2
  · obtain ⟨u, s', c, scn', ks, rfl, e1, e2, e3, hb1, hb2, hb3⟩ := hds dd hdd
    have hy4 := Dp.up g4.g hy
    have hu : u < sc.length := (List.getElem?_eq_some_iff.mp e1).1
    have hsl := hsc'.1
    refine ⟨rfl, _, rfl, ixT_w 1 g4.i hy4 rfl fun v1 hv1 => ?_⟩
    cases dp_int hv1
    refine ⟨_, _, rfl, rfl, _, rfl, ixT_w 2 g4.i hy4 rfl fun v2 hv2 => ?_⟩
    cases dp_int hv2
    refine ⟨_, rfl, ixT_w 3 g4.i hy4 rfl fun v3 hv3 => ?_⟩
    cases dp_int hv3
    refine ⟨by show 4 ≤ sizeLine; decide, fun p4 hp4 => ?_⟩
    exact hK (cellD (u + 1) s' c) (.ref p4) _ _ ⟨u + 1, s', c, scn', ks, rfl, e1, e2, e3, by omega, hb2, hb3⟩ (Grow.new g4.i hp4 _) (o4.same (same_new hp4 _)) (newT_of (same_none g4.i hp4) (.cons (.str _) (.cons (.int _) (.cons (.int _) (.cons (.int _) .nil)))))
  obtain ⟨g4a, dp4⟩ := view_done g4 hD4 hD2' hW4 hus4
  generalize hW5e : upd W4 D2 (.lst us2) = W5 at g4a dp4
  have G5 := G3b.step g4a o4
  have gall : Gw st W H W5 H4 := g12.trans ((Grow.new G2.s hp _).trans (g3.trans g4a))
  have ok4 : ∀ e ∈ outs2, CellOk (scn :: sc) k e := fun e he => by
    obtain ⟨c, _, h1⟩ := ho4.all e he
    exact h1
  have ol4 : outs2.length ≤ 36 := Nat.le_trans ho4.len hdl
  have dp2' : Dp K W5 (.ref DD) (.list outs) := Dp.up (Same.trn (same_new hWp (.lst xs)) (g3.trans g4a).g) dp2
  have hx5 : Dp K W5 (.ref xa) (scD (scn :: sc)) := Dp.up (Same.trn (same_new hWp (.lst xs)) (g3.trans g4a).g) hx2
  have hg5 : Dp K W5 (.ref ga) (optG (some cs)) := Dp.up gall.g hg
  obtain ⟨_, us1, eD, hS1, hus1⟩ := dp_list dp2'
  cases eD
  obtain ⟨_, us3, eD, hS3, hus3⟩ := dp_list dp4
  cases eD
  have hsDD := G5.s.seq hS1
  have hsD2 := G5.s.seq hS3
  have fin : ∀ {v : V} {dd : PyData} {W' H' : Hp}, Gw st W5 H4 W' H' → StOk st scr ns H' → Dp K W' v dd → IsG tb sch (d + 3) (scn :: sc) k dd → dd.bulk ≤ gb d → Q v H' := fun {v dd W' H'} g o h1 h2 h3 => q v dd W' H' (gall.trans g) o h1 h2 h3
  have gvl : ∀ {d' : Nat} {U V2 : Hp} {Q2 : VK}, d = d' + 1 → Gs K st scr ns U V2 → Same W5 U → (∀ v dd W' H', Gw st U V2 W' H' → StOk st scr ns H' → Dp K W' v dd → IsG tb sch (d' + 3) (scn :: sc) k dd → dd.bulk ≤ gb d' → Q2 v H') → spLG tb sch K n [.ref st, .ref xa, .ref ga, .str (kdNm k), .int ((d : Int) - 1)] V2 Q2 C8.E0 := fun {d' U V2 Q2} e G6 s6 q6 => by
    subst e
    exact ⟨st, scr, ns, U, .ref xa, .ref ga, scn, sc, cs, k, d', by rw [show (((d' + 1 : Nat) : Int) - 1) = (d' : Int) by omega], by omega, hk, G6, Dp.up s6 hx5, hsc, Dp.up s6 hg5, hcs, q6⟩
  dsimp only [gName, tNext, tSeq]
  refine if_pure (decide (i = 1) && !us1.isEmpty) (fun Q2 hQ2 => ?_) ?_
  · refine ⟨_, rfl, rfl, _, rfl, ?_⟩
    have e0 := int_eq i 1
    refine ite2 (fun h1 => ?_) (fun h1 => ?_)
    · have h2 : i = 1 := of_decide_eq_true (e0.symm.trans h1)
      rw [decide_eq_true h2, Bool.true_and] at hQ2
      exact ⟨_, rfl, _, .inl ⟨us1, hsDD, rfl⟩, hQ2⟩
    · have h2 : decide (i = 1) = false := e0.symm.trans (Bool.eq_false_iff.mpr h1)
      rw [h2, Bool.false_and] at hQ2
      exact hQ2
  refine ite2 (fun hb => ?_) (fun hb => ?_)
  · rw [Bool.and_eq_true] at hb
    have lu := dpall_len hus1
    have hpos : 0 < outs.length := by
      rw [← lu]
      cases us1 with
      | nil => simp at hb
      | cons a l => simp
    refine ⟨_, rfl, _, rfl, _, rfl, len_d (Dp.up G5.s dp2') ⟨st, scr, ns, W5, _, rfl, by omega, lt30 (by omega), G5, fun j H6 hj g6 o6 => ?_⟩⟩
    have hj' : j < outs.length := by omega
    refine ixL_w j g6.i (Dp.up g6.g dp2') (List.getElem?_eq_getElem hj') (fun v hv => ?_)
    have ce := ok2 _ (List.getElem_mem hj')
    exact fin g6 o6 hv (ce.isE (tb := tb) (sch := sch) _).1.isG (Nat.le_trans (ce.isE (tb := tb) (sch := sch) 0).2 (Nat.le_trans (by decide) (gb_pos d)))
  dsimp only [tNext, tSeq]
  refine if_pure (decide (i = 2) && decide (k = .num)) (fun Q2 hQ2 => ?_) ?_
  · refine ⟨_, rfl, rfl, _, rfl, ?_⟩
    have e0 := int_eq i 2
    refine ite2 (fun h1 => ?_) (fun h1 => ?_)
    · have h2 : i = 2 := of_decide_eq_true (e0.symm.trans h1)
      refine ⟨_, rfl, _, rfl, ?_⟩
      rw [decide_eq_true h2, Bool.true_and] at hQ2
      cases k with
      | cond => exact absurd rfl hk
      | txt => exact hQ2
      | num => exact hQ2
    · have h2 : decide (i = 2) = false := e0.symm.trans (Bool.eq_false_iff.mpr h1)
      rw [h2, Bool.false_and] at hQ2
      exact hQ2
  refine ite2 (fun hb => ?_) (fun hb => ?_)
  · rw [Bool.and_eq_true, decide_eq_true_eq, decide_eq_true_eq] at hb
    obtain ⟨_, rfl⟩ := hb
    refine ⟨by show 1 ≤ sizeLine; decide, fun p5 hp5 => fin (dd := .tuple [.str "count"]) (Grow.new G5.s hp5 _) (o4.same (same_new hp5 _)) (newT_of (same_none G5.s hp5) (.cons (.str _) .nil)) ⟨_, .cnt⟩ ?_⟩
    have h2 : ("count" : Str).cps.size = 5 := by decide
    have := gb_pos d
    simp only [PyData.bulk, PyData.bulkAll]
    omega
  dsimp only [tNext, tSeq]
  refine if_pure (decide (i = 3) && (decide (k = .num) && decide (0 < d))) (fun Q2 hQ2 => ?_) ?_
  · refine ⟨_, rfl, rfl, _, rfl, ?_⟩
    have e0 := int_eq i 3
    refine ite2 (fun h1 => ?_) (fun h1 => ?_)
    · have h2 : i = 3 := of_decide_eq_true (e0.symm.trans h1)
      refine ⟨_, rfl, _, rfl, ?_⟩
      cases k with
      | cond => exact absurd rfl hk
      | txt => exact iteFd rfl (by simpa using hQ2)
      | num =>
        refine iteTd rfl ⟨_, rfl, _, _, rfl, rfl, _, rfl, ?_⟩
        have e : (decide (i = 3) && (decide (Kd.num = Kd.num) && decide (0 < d))) = decide ((0 : Int) < (d : Int)) := by
          rw [decide_eq_true h2, Bool.true_and, decide_eq_true rfl, Bool.true_and]
          exact decide_eq_decide.mpr (by omega)
        rw [e] at hQ2
        exact hQ2
    · have h2 : decide (i = 3) = false := e0.symm.trans (Bool.eq_false_iff.mpr h1)
      rw [h2, Bool.false_and] at hQ2
      exact hQ2
  refine ite2 (fun hb => ?_) (fun hb => ?_)
  · rw [Bool.and_eq_true, Bool.and_eq_true, decide_eq_true_eq, decide_eq_true_eq, decide_eq_true_eq] at hb
    obtain ⟨_, rfl, h0⟩ := hb
    obtain ⟨d', rfl⟩ : ∃ d', d = d' + 1 := ⟨d - 1, by omega⟩
    refine ⟨_, rfl, _, rfl, _, rfl, _, rfl, _, rfl, _, _, rfl, rfl, gvl rfl G5 Same.rfl' fun v1 d1 W6 H6 g6 o6 hv1 hE1 hB1 => ?_⟩
    have G6 := G5.step g6 o6
    refine ⟨by show 5 ≤ sizeLine; decide, fun p5 hp5 => ⟨_, rfl, ?_⟩⟩
    refine pick_new (items := [.str "sub", .str "add", .str "mul", .str "div", .str "mod"]) G6 hp5 fun j v H7 hj g7 o7 => ?_
    obtain ⟨o, rfl⟩ := ops2_get hj
    have G7 := G6.step g7 o7
    refine ⟨_, rfl, _, rfl, _, rfl, _, rfl, _, rfl, _, rfl, _, rfl, _, _, rfl, rfl, gvl rfl G7 (g6.trans g7).g fun v2 d2 W8 H8 g8 o8 hv2 hE2 hB2 => ⟨by show 3 ≤ sizeLine; decide, fun p6 hp6 => ?_⟩⟩
    have G8 := G7.step g8 o8
    refine fin (dd := .tuple [.str o.nm, d1, d2]) ((g6.trans g7).trans (g8.trans (Grow.new G8.s hp6 _))) (o8.same (same_new hp6 _)) (newT_of (same_none G8.s hp6) (.cons (.str _) (.cons (Dp.up (g7.trans g8).g hv1) (.cons hv2 .nil)))) ?_ ?_
    · obtain ⟨f1, e1⟩ := hE1
      obtain ⟨f2, e2⟩ := hE2
      exact ⟨_, .ar o (by omega) e1 e2⟩
    · have h2 := nm_bulk o
      simp only [PyData.bulk, PyData.bulkAll]
      show _ ≤ 2 * gb d' + 8
      omega
  dsimp only [tNext, tSeq]
  refine if_pure (decide (i = 4) && !us3.isEmpty) (fun Q2 hQ2 => ?_) ?_
  · refine ⟨_, rfl, rfl, _, rfl, ?_⟩
    have e0 := int_eq i 4
    refine ite2 (fun h1 => ?_) (fun h1 => ?_)
    · have h2 : i = 4 := of_decide_eq_true (e0.symm.trans h1)
      rw [decide_eq_true h2, Bool.true_and] at hQ2
      exact ⟨_, rfl, _, .inl ⟨us3, hsD2, rfl⟩, hQ2⟩
    · have h2 : decide (i = 4) = false := e0.symm.trans (Bool.eq_false_iff.mpr h1)
      rw [h2, Bool.false_and] at hQ2
      exact hQ2
  refine ite2 (fun hb => ?_) (fun hb => ?_)
  · rw [Bool.and_eq_true] at hb
    have lu := dpall_len hus3
    have hpos : 0 < outs2.length := by
      rw [← lu]
      cases us3 with
      | nil => simp at hb
      | cons a l => simp
    refine ⟨_, rfl, _, rfl, _, rfl, len_d (Dp.up G5.s dp4) ⟨st, scr, ns, W5, _, rfl, by omega, lt30 (by omega), G5, fun j H6 hj g6 o6 => ?_⟩⟩
    have hj' : j < outs2.length := by omega
    refine ixL_w j g6.i (Dp.up g6.g dp4) (List.getElem?_eq_getElem hj') (fun v hv => ?_)
    have ce := ok4 _ (List.getElem_mem hj')
    exact fin g6 o6 hv (ce.isE (tb := tb) (sch := sch) _).1.isG (Nat.le_trans (ce.isE (tb := tb) (sch := sch) 0).2 (Nat.le_trans (by decide) (gb_pos d)))
  dsimp only [tNext, tSeq]
  refine if_pure (decide (i = 5) && (decide (k = .num) && decide (0 < d))) (fun Q2 hQ2 => ?_) ?_
  · refine ⟨_, rfl, rfl, _, rfl, ?_⟩
    have e0 := int_eq i 5
    refine ite2 (fun h1 => ?_) (fun h1 => ?_)
    · have h2 : i = 5 := of_decide_eq_true (e0.symm.trans h1)
      refine ⟨_, rfl, _, rfl, ?_⟩
      cases k with
      | cond => exact absurd rfl hk
      | txt => exact iteFd rfl (by simpa using hQ2)
      | num =>
        refine iteTd rfl ⟨_, rfl, _, _, rfl, rfl, _, rfl, ?_⟩
        have e : (decide (i = 5) && (decide (Kd.num = Kd.num) && decide (0 < d))) = decide ((0 : Int) < (d : Int)) := by
          rw [decide_eq_true h2, Bool.true_and, decide_eq_true rfl, Bool.true_and]
          exact decide_eq_decide.mpr (by omega)
        rw [e] at hQ2
        exact hQ2
    · have h2 : decide (i = 5) = false := e0.symm.trans (Bool.eq_false_iff.mpr h1)
      rw [h2, Bool.false_and] at hQ2
      exact hQ2
  refine ite2 (fun hb => ?_) (fun hb => ?_)
  · rw [Bool.and_eq_true, Bool.and_eq_true, decide_eq_true_eq, decide_eq_true_eq, decide_eq_true_eq] at hb
    obtain ⟨_, rfl, h0⟩ := hb
    obtain ⟨d', rfl⟩ : ∃ d', d = d' + 1 := ⟨d - 1, by omega⟩
    refine ⟨_, rfl, _, rfl, _, rfl, _, rfl, _, rfl, _, _, rfl, rfl, gvl rfl G5 Same.rfl' fun v1 d1 W6 H6 g6 o6 hv1 hE1 hB1 => ⟨by show 2 ≤ sizeLine; decide, fun p5 hp5 => ?_⟩⟩
    have G6 := G5.step g6 o6
    refine fin (dd := .tuple [.str "neg", d1]) (g6.trans (Grow.new G6.s hp5 _)) (o6.same (same_new hp5 _)) (newT_of (same_none G6.s hp5) (.cons (.str _) (.cons hv1 .nil))) ?_ ?_
    · obtain ⟨f1, e1⟩ := hE1
      exact ⟨_, .neg (by omega) e1⟩
    · have h2 : ("neg" : Str).cps.size = 3 := by decide
      simp only [PyData.bulk, PyData.bulkAll]
      show _ ≤ 2 * gb d' + 8
      omega
  dsimp only [tNext, tSeq]
  refine ⟨_, rfl, rfl, _, rfl, ?_⟩
  refine ite2 (fun hb => ?_) (fun hb => ?_)
  · exact ⟨_, rfl, _, rfl, st, scr, ns, W5, k, rfl, hk, G5, fun v dd W6 H6 g6 o6 hv hE hB => fin g6 o6 hv (hE _ _).isG (Nat.le_trans hB (Nat.le_trans (by decide) (gb_pos d)))⟩
  · refine ⟨by show 3 ≤ sizeLine; decide, fun p5 hp5 => ⟨_, rfl, _, rfl, _, rfl, .inr ⟨_, rfl, _, _, rfl, rfl, ?_⟩⟩⟩
    refine pick_le (items := [.str "least", .str "greatest", .str "sum"]) G5 hp5 (by split <;> omega) (by show _ ≤ (3 : Int); split <;> omega) (by decide) fun j v H7 hj hv g7 o7 => ?_
    obtain ⟨o, rfl, ho⟩ : ∃ o : Ag, v = .str o.nm ∧ (o = .sum → k = .num) := by
      match j, hv with
      | 0, hv => exact ⟨.least, (Option.some.inj hv).symm, fun z => nomatch z⟩
      | 1, hv => exact ⟨.greatest, (Option.some.inj hv).symm, fun z => nomatch z⟩
      | 2, hv =>
        refine ⟨.sum, (Option.some.inj hv).symm, fun _ => ?_⟩
        cases k with
        | num => rfl
        | cond => exact absurd rfl hk
        | txt =>
          have : ((2 : Nat) : Int) < 2 + 0 := hj
          omega
      | j + 3, hv => simp at hv
    have G7 := G5.step g7 o7
    refine ⟨_, rfl, _, rfl, _, rfl, _, rfl, st, scr, ns, W5, .ref xa, scn :: sc, k, 1, rfl, by decide, hk, G7, hx5, hsc, fun v2 d2 W8 H8 g8 o8 hv2 hE2 hB2 => ⟨by show 2 ≤ sizeLine; decide, fun p6 hp6 => ?_⟩⟩
    have G8 := G7.step g8 o8
    refine fin (dd := .tuple [.str o.nm, d2]) (g7.trans (g8.trans (Grow.new G8.s hp6 _))) (o8.same (same_new hp6 _)) (newT_of (same_none G8.s hp6) (.cons (.str _) (.cons hv2 .nil))) ?_ ?_
    · obtain ⟨f2, e2⟩ := hE2 false
      exact ⟨_, .ag o (by omega) e2 hk ho⟩
    · have h2 : o.nm.cps.size ≤ 8 := by cases o <;> decide
      have := gb_pos d
      have h3 : vb 1 = 100 := rfl
      simp only [PyData.bulk, PyData.bulkAll]
      omega
end
end K23

set_option Elab.async false
set_option linter.all false
set_option maxRecDepth 100000
set_option maxHeartbeats 4000000
/-! K23zc: having, the group's cells. -/
namespace K23
open PySem PySem.Spec PyProof.Rows L2

def hb : Nat → Nat
  | 0 => 350
  | d + 1 => 2 * hb d + 8
section
variable (tb : Str → List Row) (sch : List (Str × List Kd)) (K : PySem.W.Frag)
def spLH (n : Nat) : Sp := fun vs H Q _ => ∃ (st scr : Addr) (ns : List Int) (W : Hp) (x vg : V) (scn : List (List Kd)) (sc : Sc) (cs : List (Nat × Nat)) (d : Nat), vs = [.ref st, x, vg, .int d] ∧ d < n ∧ Gs K st scr ns W H ∧ Dp K W x (scD (scn :: sc)) ∧ ScOk (scn :: sc) ∧ Dp K W vg (optG (some cs)) ∧ CsOk scn cs ∧
  ∀ v dd W' H', Gw st W H W' H' → StOk st scr ns H' → Dp K W' v dd → (∃ f, RepE tb sch (d + 5) true (scn :: sc) dd .cond f) → dd.bulk ≤ hb d → Q v H'
def spGrpG : Sp := fun vs H Q _ => ∃ (st scr : Addr) (ns : List Int) (W : Hp) (x : V) (scn : List (List Kd)), vs = [.ref st, x] ∧ Gs K st scr ns W H ∧ Dp K W x (scnD scn) ∧ scn.length ≤ 3 ∧ (∀ ks ∈ scn, ks.length ≤ 3) ∧
  ∀ v cs W' H', Gw st W H W' H' → StOk st scr ns H' → Dp K W' v (optG (some cs)) → CsOk scn cs → Q v H'
end
theorem lo_bulk (o : Bool) : (loNm o).cps.size ≤ 3 := by cases o <;> decide
section
variable {tb : Str → List Row} {sch : List (Str × List Kd)} {P : Program} {w : World} {K : PySem.W.Frag} {mg : Str → Option Value} {base : Heap}
theorem law_group_value_all (Z : Glb mg) (D : DefN K mg "_law_group_value" 27) (c__law_take : C8.Cal P w K mg base 1 "_law_take" (spTake K) []) (c__law_cells : C8.Cal P w K mg base 1 "_law_cells" (spCells K) [])
    (c__law_constant : C8.Cal P w K mg base 3 "_law_constant" (spConst tb sch K) []) (c__law_value : C8.Cal P w K mg base 6 "_law_value" (spLV tb sch K 2) []) : ∀ n : Nat, C8.Cal P w K mg base (n + 7) "_law_group_value" (spLG tb sch K n) []
  | 0 => by
    refine cal_of (k := 6) D (N := ["_law_state_here", "_law_scopes", "_law_group_here", "_law_kind", "_law_depth", "_law_pick", "_law_cells_here", "_law_outer", "_law_op", "_law_left", "_law_cell"]) (ps := ["_law_state_here", "_law_scopes", "_law_group_here", "_law_kind", "_law_depth"]) (C8.fnScope_by (by decide +kernel)) (fun _ _ _ _ _ _ us hl => match us, hl with | [_, _, _, _, _], _ => rfl) (fun vs H Q E h => ?_) fun fa cdv A outer s H vs Q E hr h => none_body ?_
    · obtain ⟨st, scr, ns, W, x, vg, scn, sc, cs, k, d, rfl, _⟩ := h
      rfl
    · obtain ⟨st, scr, ns, W, x, vg, scn, sc, cs, k, d, rfl, hd, _⟩ := h
      omega
  | n + 1 => ok_law_group_value Z D c__law_take c__law_cells c__law_constant c__law_value (law_group_value_all Z D c__law_take c__law_cells c__law_constant c__law_value n)
theorem ok_law_having (Z : Glb mg) (D : DefN K mg "_law_having" 28) {n : Nat} (c__law_take : C8.Cal P w K mg base 1 "_law_take" (spTake K) []) (c__law_group_value : C8.Cal P w K mg base 9 "_law_group_value" (spLG tb sch K 2) [])
    (c__law_having : C8.Cal P w K mg base (n + 10) "_law_having" (spLH tb sch K n) []) : C8.Cal P w K mg base (n + 10 + 1) "_law_having" (spLH tb sch K (n + 1)) [] := by
  have S : FnScope ["_law_state_here", "_law_scopes", "_law_group_here", "_law_depth", "_law_pick", "_law_op", "_law_kind", "_law_left"] ["_law_state_here", "_law_scopes", "_law_group_here", "_law_depth"] (C8.fnScope (top 28)) := C8.fnScope_by (by decide +kernel)
  refine cal_of D S (fun _ _ _ _ _ _ us hl => match us, hl with | [_, _, _, _], _ => rfl) (fun vs H Q E h => ?_) fun f cdv A outer s H vs Q E hr h => ?_
  · obtain ⟨st, scr, ns, W, x, vg, scn, sc, cs, d, rfl, _⟩ := h
    rfl
  obtain ⟨st, scr, ns, W, x, vg, scn, sc, cs, d, rfl, hd, G, hx, hsc, hg, hcs, q⟩ := h
  refine ⟨_, (pss_cons (ps_set (i := 4) S.nd rfl (by first | exact .inl rfl | exact .inr rfl) (C8.pe_c c__law_take hr (by omega) rfl (pa_cons (pv 0) (pa_cons pe_intA pa_nilA))))
    (pss_cons (ps_if (PW.pt (pw_and (pt_cmpR (op_gt) (pv 3) pe_intA (nomark _)) (pw_and1 (pt_cmpR (op_lt) (pv 4) pe_intA (nomark _)))))
      (pss_cons (ps_set (i := 7) S.nd rfl (by first | exact .inl rfl | exact .inr rfl) (C8.pe_c c__law_having hr (by omega) rfl (pa_cons (pv 0) (pa_cons (pv 1) (pa_cons (pv 2) (pa_cons (pe_op (op_sub) (pv 3) pe_intA) pa_nilA))))))
    (pss_one (ps_ret (pe_tup (pa_cons (pe_ix (ix_listK (K := K)) (pe_lst (pa_cons pe_strA (pa_cons pe_strA pa_nilA))) (pv 4) (fun _ _ => rfl)) (pa_cons (pv 7) (pa_cons (C8.pe_c c__law_having hr (by omega) rfl (pa_cons (pv 0) (pa_cons (pv 1) (pa_cons (pv 2) (pa_cons (pe_op (op_sub) (pv 3) pe_intA) pa_nilA))))) pa_nilA)))))))
      pss_nil)
    (pss_cons (ps_if (PW.pt (pw_and (pt_cmpR (op_gt) (pv 3) pe_intA (nomark _)) (pw_and1 (pt_cmpR (op_eq) (pv 4) pe_intA (nomark _)))))
      (pss_one (ps_ret (pe_tup (pa_cons pe_strA (pa_cons (C8.pe_c c__law_having hr (by omega) rfl (pa_cons (pv 0) (pa_cons (pv 1) (pa_cons (pv 2) (pa_cons (pe_op (op_sub) (pv 3) pe_intA) pa_nilA))))) pa_nilA)))))
      pss_nil)
    (pss_cons (ps_set (i := 5) S.nd rfl (by first | exact .inl rfl | exact .inr rfl) (pe_ix (ix_listK (K := K)) (pe_lst (pa_cons pe_strA (pa_cons pe_strA (pa_cons pe_strA (pa_cons pe_strA (pa_cons pe_strA (pa_cons pe_strA pa_nilA))))))) (C8.pe_c c__law_take hr (by omega) rfl (pa_cons (pv 0) (pa_cons pe_intA pa_nilA))) (fun _ _ => rfl)))
    (pss_cons (ps_set (i := 6) S.nd rfl (by first | exact .inl rfl | exact .inr rfl) (pe_ix (ix_listK (K := K)) (pe_lst (pa_cons pe_strA (pa_cons pe_strA (pa_cons pe_strA pa_nilA)))) (C8.pe_c c__law_take hr (by omega) rfl (pa_cons (pv 0) (pa_cons pe_intA pa_nilA))) (fun _ _ => rfl)))
    (pss_cons (ps_set (i := 7) S.nd rfl (by first | exact .inl rfl | exact .inr rfl) (C8.pe_c c__law_group_value hr (by omega) rfl (pa_cons (pv 0) (pa_cons (pv 1) (pa_cons (pv 2) (pa_cons (pv 6) (pa_cons pe_intA pa_nilA)))))))
    (pss_one (ps_ret (pe_tup (pa_cons (pv 5) (pa_cons (pv 7) (pa_cons (C8.pe_c c__law_group_value hr (by omega) rfl (pa_cons (pv 0) (pa_cons (pv 1) (pa_cons (pv 2) (pa_cons (pv 6) (pa_cons pe_intA pa_nilA)))))) pa_nilA)))))))))))), ?_⟩
  refine ⟨_, rfl, st, scr, ns, W, 6, rfl, by decide, by decide, G, fun i H1 hi g1 o1 => ?_⟩
  have G1 := G.step g1 o1
  have hv : ∀ {d' : Nat} {U V2 : Hp} {Q2 : VK}, d = d' + 1 → Gs K st scr ns U V2 → Same W U → (∀ v dd W' H', Gw st U V2 W' H' → StOk st scr ns H' → Dp K W' v dd → (∃ f, RepE tb sch (d' + 5) true (scn :: sc) dd .cond f) → dd.bulk ≤ hb d' → Q2 v H') → spLH tb sch K n [.ref st, x, vg, .int ((d : Int) - 1)] V2 Q2 C8.E0 := fun {d' U V2 Q2} e G6 s6 q6 => by
    subst e
    exact ⟨st, scr, ns, U, x, vg, scn, sc, cs, d', by rw [show (((d' + 1 : Nat) : Int) - 1) = (d' : Int) by omega], by omega, G6, Dp.up s6 hx, hsc, Dp.up s6 hg, hcs, q6⟩
  dsimp only [gName, tSeq]
  refine if_pure (decide (0 < d) && decide (i < 2)) (fun Q2 hQ2 => ?_) ?_
  · refine ⟨_, rfl, _, _, rfl, rfl, _, rfl, ite2 (fun h1 => ?_) (fun h1 => ?_)⟩
    · have h2 : 0 < d := by
        have h3 : (0 : Int) < (d : Int) := of_decide_eq_true h1
        omega
      rw [decide_eq_true h2, Bool.true_and] at hQ2
      refine ⟨_, rfl, _, _, rfl, rfl, _, rfl, ?_⟩
      have e : decide (i < 2) = decide ((i : Int) < 2) := decide_eq_decide.mpr (by omega)
      rw [e] at hQ2
      exact hQ2
    · have h2 : ¬ 0 < d := fun z => h1 (decide_eq_true (by omega))
      rw [decide_eq_false h2, Bool.false_and] at hQ2
      exact hQ2
  refine ite2 (fun hb1 => ?_) (fun hb1 => ?_)
  · rw [Bool.and_eq_true, decide_eq_true_eq, decide_eq_true_eq] at hb1
    obtain ⟨h0, hi2⟩ := hb1
    obtain ⟨d', rfl⟩ : ∃ d', d = d' + 1 := ⟨d - 1, by omega⟩
    refine ⟨_, rfl, _, rfl, _, rfl, _, rfl, _, _, rfl, rfl, hv rfl G1 Same.rfl' fun v1 d1 W2 H2 g2 o2 hv1 hE1 hB1 => ?_⟩
    have G2 := G1.step g2 o2
    refine ⟨by show 2 ≤ sizeLine; decide, fun p hp => ⟨_, rfl, ?_⟩⟩
    have G3 := G2.up (same_new hp (.lst [.str "and", .str "or"]))
    obtain ⟨o, ho⟩ : ∃ o : Bool, ([.str "and", .str "or"] : List V)[i]? = some (.str (loNm o)) := by
      match i, hi2 with
      | 0, _ => exact ⟨true, rfl⟩
      | 1, _ => exact ⟨false, rfl⟩
    refine ⟨p, _, i, _, rfl, rfl, SqL.of upd_same, atI_nat ho, _, rfl, _, rfl, _, rfl, _, rfl, _, rfl, _, _, rfl, rfl, hv rfl G3 g2.g fun v2 d2 W4 H4 g4 o4 hv2 hE2 hB2 => ⟨by show 3 ≤ sizeLine; decide, fun p2 hp2 => ?_⟩⟩
    have G4 := G3.step g4 o4
    refine q _ (.tuple [.str (loNm o), d1, d2]) _ _ (g1.trans (g2.trans ((gw_same G2 (same_new hp _)).trans (g4.trans (Grow.new G4.s hp2 _))))) (o4.same (same_new hp2 _)) (newT_of (same_none G4.s hp2) (.cons (.str _) (.cons (Dp.up g4.g hv1) (.cons hv2 .nil)))) ?_ ?_
    · obtain ⟨f1, e1⟩ := hE1
      obtain ⟨f2, e2⟩ := hE2
      exact ⟨_, .lo o (by omega) e1 e2⟩
    · have h2 := lo_bulk o
      simp only [PyData.bulk, PyData.bulkAll]
      show _ ≤ 2 * hb d' + 8
      omega
  dsimp only [tNext, tSeq]
  refine if_pure (decide (0 < d) && decide (i = 2)) (fun Q2 hQ2 => ?_) ?_
  · refine ⟨_, rfl, _, _, rfl, rfl, _, rfl, ite2 (fun h1 => ?_) (fun h1 => ?_)⟩
    · have h2 : 0 < d := by
        have h3 : (0 : Int) < (d : Int) := of_decide_eq_true h1
        omega
      rw [decide_eq_true h2, Bool.true_and] at hQ2
      refine ⟨_, rfl, rfl, _, rfl, ?_⟩
      rw [← int_eq i 2] at hQ2
      exact hQ2
    · have h2 : ¬ 0 < d := fun z => h1 (decide_eq_true (by omega))
      rw [decide_eq_false h2, Bool.false_and] at hQ2
      exact hQ2
  refine ite2 (fun hb1 => ?_) (fun hb1 => ?_)
  · rw [Bool.and_eq_true, decide_eq_true_eq, decide_eq_true_eq] at hb1
    obtain ⟨h0, hi2⟩ := hb1
    obtain ⟨d', rfl⟩ : ∃ d', d = d' + 1 := ⟨d - 1, by omega⟩
    refine ⟨_, rfl, _, rfl, _, rfl, _, rfl, _, _, rfl, rfl, hv rfl G1 Same.rfl' fun v1 d1 W2 H2 g2 o2 hv1 hE1 hB1 => ⟨by show 2 ≤ sizeLine; decide, fun p2 hp2 => ?_⟩⟩
    have G2 := G1.step g2 o2
    refine q _ (.tuple [.str "not", d1]) _ _ (g1.trans (g2.trans (Grow.new G2.s hp2 _))) (o2.same (same_new hp2 _)) (newT_of (same_none G2.s hp2) (.cons (.str _) (.cons hv1 .nil))) ?_ ?_
    · obtain ⟨f1, e1⟩ := hE1
      exact ⟨_, .nt (by omega) e1⟩
    · have h2 : ("not" : Str).cps.size = 3 := by decide
      simp only [PyData.bulk, PyData.bulkAll]
      show _ ≤ 2 * hb d' + 8
      omega
  dsimp only [tNext, tSeq]
  refine ⟨by show 6 ≤ sizeLine; decide, fun p hp => ⟨_, rfl, ?_⟩⟩
  refine pick_new (items := [.str "ge", .str "lt", .str "eq", .str "ne", .str "le", .str "gt"]) G1 hp fun j v H2 hj g2 o2 => ?_
  obtain ⟨o, rfl⟩ := hcmps_get hj
  have G2 := G1.step g2 o2
  refine ⟨by show 3 ≤ sizeLine; decide, fun p2 hp2 => ⟨_, rfl, ?_⟩⟩
  refine pick_new (items := [.str "number", .str "number", .str "text"]) G2 hp2 fun j v H3 hj g3 o3 => ?_
  obtain ⟨k, hk, rfl⟩ := kinds3_get hj
  have G3 := G2.step g3 o3
  refine ⟨_, rfl, _, rfl, _, rfl, _, rfl, st, scr, ns, W, x, vg, scn, sc, cs, k, 1, rfl, by decide, hk, G3, hx, hsc, hg, hcs, fun v1 d1 W4 H4 g4 o4 hv1 hE1 hB1 => ?_⟩
  have G4 := G3.step g4 o4
  refine ⟨_, rfl, _, rfl, _, rfl, _, rfl, _, rfl, _, rfl, st, scr, ns, W4, x, vg, scn, sc, cs, k, 0, rfl, by decide, hk, G4, Dp.up g4.g hx, hsc, Dp.up g4.g hg, hcs, fun v2 d2 W5 H5 g5 o5 hv2 hE2 hB2 => ⟨by show 3 ≤ sizeLine; decide, fun p3 hp3 => ?_⟩⟩
  have G5 := G4.step g5 o5
  refine q _ (.tuple [.str o.nm, d1, d2]) _ _ ((g1.trans g2).trans (g3.trans (g4.trans (g5.trans (Grow.new G5.s hp3 _))))) (o5.same (same_new hp3 _)) (newT_of (same_none G5.s hp3) (.cons (.str _) (.cons (Dp.up g5.g hv1) (.cons hv2 .nil)))) ?_ ?_
  · obtain ⟨f1, e1⟩ := hE1
    obtain ⟨f2, e2⟩ := hE2
    exact ⟨_, .cm o (n' := 4) (by omega) hk (e1.mono (by omega)) (e2.mono (by omega))⟩
  · have h2 := cm_bulk o
    have h3 : gb 1 = 228 := rfl
    have h4 : gb 0 = 110 := rfl
    have h5 : 350 ≤ hb d := by
      cases d with
      | zero => exact Nat.le_refl _
      | succ d =>
        show 350 ≤ 2 * hb d + 8
        have : ∀ e, 350 ≤ hb e := fun e => by
          induction e with
          | zero => exact Nat.le_refl _
          | succ e ih =>
            show 350 ≤ 2 * hb e + 8
            omega
        have := this d
        omega
    simp only [PyData.bulk, PyData.bulkAll]
    omega
theorem law_having_all (Z : Glb mg) (D : DefN K mg "_law_having" 28) (c__law_take : C8.Cal P w K mg base 1 "_law_take" (spTake K) []) (c__law_group_value : C8.Cal P w K mg base 9 "_law_group_value" (spLG tb sch K 2) []) : ∀ n : Nat, C8.Cal P w K mg base (n + 10) "_law_having" (spLH tb sch K n) []
  | 0 => by
    refine cal_of (k := 9) D (N := ["_law_state_here", "_law_scopes", "_law_group_here", "_law_depth", "_law_pick", "_law_op", "_law_kind", "_law_left"]) (ps := ["_law_state_here", "_law_scopes", "_law_group_here", "_law_depth"]) (C8.fnScope_by (by decide +kernel)) (fun _ _ _ _ _ _ us hl => match us, hl with | [_, _, _, _], _ => rfl) (fun vs H Q E h => ?_) fun fa cdv A outer s H vs Q E hr h => none_body ?_
    · obtain ⟨st, scr, ns, W, x, vg, scn, sc, cs, d, rfl, _⟩ := h
      rfl
    · obtain ⟨st, scr, ns, W, x, vg, scn, sc, cs, d, rfl, hd, _⟩ := h
      omega
  | n + 1 => ok_law_having Z D c__law_take c__law_group_value (law_having_all Z D c__law_take c__law_group_value n)
end
end K23

set_option Elab.async false
set_option linter.all false
set_option maxRecDepth 100000
set_option maxHeartbeats 4000000
/-! K23zd: the group's cells. -/
namespace K23
open PySem PySem.Spec PyProof.Rows L2

theorem Gw.mut {st a : Addr} {W H U H' : Hp} (x : Gw st W H U H') (h0 : H a = none) (hU : U a = none) (o : HO) : Gw st W H U (upd H' a o) := by
  refine ⟨x.g, fun b u e => ?_, fun b u e n => ?_, fun b e => ?_, x.f⟩
  · rw [upd_ne (ne_of_none e hU)]
    exact x.i b u e
  · rw [upd_ne (ne_of_none e h0)]
    exact x.k b u e n
  · have : b ≠ a := fun z => e (by rw [z]; exact h0)
    rw [upd_ne this]
    exact x.e b e
section
variable {tb : Str → List Row} {sch : List (Str × List Kd)} {P : Program} {w : World} {K : PySem.W.Frag} {mg : Str → Option Value} {base : Heap}
theorem ok_law_group (Z : Glb mg) (D : DefN K mg "_law_group" 29) (c__law_take : C8.Cal P w K mg base 1 "_law_take" (spTake K) []) : C8.Cal P w K mg base 2 "_law_group" (spGrpG K) [] := by
  have S : FnScope ["_law_state_here", "_law_scope", "_law_group_here", "_law_s", "_law_c"] ["_law_state_here", "_law_scope"] (C8.fnScope (top 29)) := C8.fnScope_by (by decide +kernel)
  refine cal_of D S (fun _ _ _ _ _ _ us hl => match us, hl with | [_, _], _ => rfl) (fun vs H Q E h => ?_) fun f cdv A outer s H vs Q E hr h => ?_
  · obtain ⟨st, scr, ns, W, x, scn, rfl, _⟩ := h
    rfl
  obtain ⟨st, scr, ns, W, x, scn, rfl, G, hx, hs1, hs2, q⟩ := h
  refine ⟨_, (pss_cons (ps_set (i := 2) S.nd rfl (by first | exact .inl rfl | exact .inr rfl) (pe_lst pa_nilA))
    (pss_cons (ps_for PassesOwn.never rfl (pi_range1 (by rfl) Z.range (pa_cons (pe_callB (id := "len") (cr_len (K := K)) (by rfl) Z.len (by decide +kernel) (pa_cons (pv 1) pa_nilA)) pa_nilA)) (pg_name (i := 3) S.nd rfl (by first | exact .inl rfl | exact .inr rfl))
      (pss_one (ps_for PassesOwn.never rfl (pi_range1 (by rfl) Z.range (pa_cons (pe_callB (id := "len") (cr_len (K := K)) (by rfl) Z.len (by decide +kernel) (pa_cons (pe_ix (ix_listK (K := K)) (pv 1) (pv 3) (fun _ _ => rfl)) pa_nilA)) pa_nilA)) (pg_name (i := 4) S.nd rfl (by first | exact .inl rfl | exact .inr rfl))
      (pss_one (ps_if (PW.pt (pw_and (pt_cmpR (op_lt) (pe_callB (id := "len") (cr_len (K := K)) (by rfl) Z.len (by decide +kernel) (pa_cons (pv 2) pa_nilA)) pe_intA (nomark _)) (pw_and1 (pt_cmpR (op_eq) (C8.pe_c c__law_take hr (by omega) rfl (pa_cons (pv 0) (pa_cons pe_intA pa_nilA))) pe_intA (nomark _)))))
      (pss_one (ps_expr (pe_bm PySem.F.plainAttrs_list PySem.F.slot_list_append PySem.F.type_list_append mt_append (pv 2) (pa_cons (pe_tup (pa_cons pe_strA (pa_cons pe_intA (pa_cons (pv 3) (pa_cons (pv 4) pa_nilA))))) pa_nilA))))
      pss_nil)))))
    (pss_one (ps_ret (pv 2))))), ?_⟩
  refine ⟨by show 0 ≤ sizeLine; decide, fun p hp => ?_⟩
  have s1 := same_new hp (.lst [])
  have pst : p ≠ st := fun z => G.o.ne (by rw [← z]; exact hp)
  refine ⟨_, rfl, len_d (Dp.up (Same.trn G.s s1) hx) ⟨_, rfl, by omega, by rw [List.length_map]; omega, ?_⟩⟩
  have h0 : ((scn.map ksD).length : Int).toNat = scn.length := by rw [Int.toNat_natCast, List.length_map]
  rw [h0]
  refine for_range (n := scn.length) (fun i σ H' => ∃ a3 a4 zs cs U, σ = [some (.ref st), some x, some (.ref p), a3, a4] ∧ Gs K st scr ns U H' ∧ Gw st W H U H' ∧ U p = none ∧ H' p = some (.lst zs) ∧ DpAll K U zs (cs.map fun q => cellD 0 q.1 q.2) ∧ CsOk scn cs)
    ⟨none, none, [], [], W, rfl, G.up s1, gw_same G s1, same_none G.s hp, upd_same, .nil, by simp, (fun q hq => nomatch hq)⟩ (fun i σ H' hi ⟨a3, a4, zs, cs, U, e, G1, g1, hU, hzs, hcs, hok⟩ => ?_) fun σ H' ⟨a3, a4, zs, cs, U, e, G1, g1, hU, hzs, hcs, hok⟩ => ?_
  · subst e
    have esc : scn[i]? = some scn[i] := List.getElem?_eq_getElem hi
    generalize scn[i] = ks at esc
    have hks := hs2 ks (List.mem_of_getElem? esc)
    refine ⟨_, rfl, _, rfl, ixL_w i G1.s (Dp.up g1.g hx) (d := ksD ks) (by rw [List.getElem?_map, esc]; rfl) (fun v hv => ?_) (by omega)⟩
    refine len_d (Dp.up G1.s hv) ⟨_, rfl, by omega, by rw [List.length_map]; omega, ?_⟩
    have h1 : ((ks.map fun k => PyData.str (kdNm k)).length : Int).toNat = ks.length := by rw [Int.toNat_natCast, List.length_map]
    rw [h1]
    refine for_range (n := ks.length) (fun j σ H2 => ∃ a4 zs cs U, σ = [some (.ref st), some x, some (.ref p), some (.int (0 + i)), a4] ∧ Gs K st scr ns U H2 ∧ Gw st W H U H2 ∧ U p = none ∧ H2 p = some (.lst zs) ∧ DpAll K U zs (cs.map fun q => cellD 0 q.1 q.2) ∧ CsOk scn cs)
      ⟨a4, zs, cs, U, rfl, G1, g1, hU, hzs, hcs, hok⟩ (fun j σ H2 hj ⟨a4, zs, cs, U, e, G2, g2, hU, hzs, hcs, hok⟩ => ?_) fun σ H2 ⟨a4, zs, cs, U, e, G2, g2, hU, hzs, hcs, hok⟩ => ?_
    · subst e
      have lz := dpall_len hcs
      rw [List.length_map] at lz
      refine ⟨_, rfl, p, zs, rfl, .inl (SqL.of hzs), _, _, rfl, rfl, _, rfl, ite2 (fun h2 => ?_) (fun h2 => ?_)⟩
      · have h3 : ((zs.length : Nat) : Int) < 4 := of_decide_eq_true h2
        refine ⟨_, rfl, st, scr, ns, U, 3, rfl, by decide, by decide, G2, fun k H3 hk g3 o3 => ⟨rfl, _, rfl, ite2 (fun h4 => ?_) (fun h4 => ?_)⟩⟩
        · have G3 := G2.step g3 o3
          have hz3 := g3.k _ _ hzs pst
          refine ⟨_, rfl, .inl ⟨rfl, _, SqL.of hz3⟩, _, rfl, _, rfl, by show 4 ≤ sizeLine; decide, fun p2 hp2 => ?_⟩
          have pp2 : p ≠ p2 := fun z => by
            rw [← z, hz3] at hp2
            cases hp2
          have g23 := (g2.trans g3).trans (Grow.new G3.s hp2 (.tup [.str "cell", .int 0, .int (0 + i), .int (0 + j)]))
          have G4 := G3.new hp2 (.tup [.str "cell", .int 0, .int (0 + i), .int (0 + j)])
          have hU2 : upd U p2 (.tup [.str "cell", .int 0, .int (0 + i), .int (0 + j)]) p = none := by
            rw [upd_ne pp2]
            exact hU
          refine ⟨p, zs, .ref p2, rfl, rfl, by rw [upd_ne pp2]; exact hz3, by rw [sizeLine_eq]; omega, _, zs ++ [.ref p2], cs ++ [(i, j)], _, rfl, ?_, Gw.mut g23 hp hU2 _, hU2, upd_same, ?_, ?_⟩
          · exact ⟨(Gw.mut g23 hp hU2 _).i, G4.n, G4.l, stOk_upd G4.o hp G.o.ne⟩
          · rw [List.map_append]
            refine dpall_snoc (DpAll.up (same_new (same_none G3.s hp2) _) hcs) ?_
            have dp : DpAll K U [.str "cell", .int 0, .int (0 + i), .int (0 + j)] [.str "cell", .int 0, .int i, .int j] := by
              rw [Int.zero_add, Int.zero_add]
              exact .cons (.str _) (.cons (.int _) (.cons (.int _) (.cons (.int _) .nil)))
            exact newT_of (same_none G3.s hp2) dp
          · refine ⟨by rw [List.length_append, List.length_singleton]; omega, fun r hr => ?_⟩
            rcases List.mem_append.mp hr with h | h
            · exact hok.2 r h
            · rw [List.mem_singleton.mp h]
              exact ⟨ks, _, esc, List.getElem?_eq_getElem hj⟩
        · have G3 := G2.step g3 o3
          exact ⟨_, zs, cs, U, rfl, G3, g2.trans g3, hU, g3.k _ _ hzs pst, hcs, hok⟩
      · exact ⟨_, zs, cs, U, rfl, G2, g2, hU, hzs, hcs, hok⟩
    · subst e
      exact ⟨_, _, zs, cs, U, rfl, G2, g2, hU, hzs, hcs, hok⟩
  · subst e
    exact ⟨_, rfl, q _ cs _ H' (Gw.add g1 hzs hp hU) G1.o (.lst (SqL.of upd_same) (DpAll.up (same_new hU _) hcs)) hok⟩
end
end K23

set_option Elab.async false
set_option linter.all false
set_option maxRecDepth 100000
set_option maxHeartbeats 4000000
/-! K23ze: conditions. -/
namespace K23
open PySem PySem.Spec PyProof.Rows L2

/-- a schema's entries: name and kinds, and the columns' names (of no account) -/
abbrev Ents := List ((Str × List Kd) × PyData)
def entD (e : (Str × List Kd) × PyData) : PyData := .tuple [.str e.1.1, ksD e.1.2, e.2]
def schD (es : Ents) : PyData := .list (es.map entD)
def EntsOk (es : Ents) : Prop := es.length = 3 ∧ ∀ e ∈ es, e.1.1.cps.size ≤ 5 ∧ e.1.2.length ≤ 3 ∧ ∀ k ∈ e.1.2, k ≠ Kd.cond
def cN : Nat → Nat
  | 0 => 3
  | d + 1 => cN d + 8
def bc : Nat → Nat
  | 0 => 100
  | d + 1 => 2 * bc d + 3100
theorem cN_pos (d : Nat) : 3 ≤ cN d := by
  induction d with
  | zero => exact Nat.le_refl _
  | succ d ih =>
    show 3 ≤ cN d + 8
    omega
theorem bc_pos (d : Nat) : 100 ≤ bc d := by
  induction d with
  | zero => exact Nat.le_refl _
  | succ d ih =>
    show 100 ≤ 2 * bc d + 3100
    omega
def bs (d : Nat) : Nat := 1500 + bc d
section
variable (tb : Str → List Row) (es : Ents) (K : PySem.W.Frag)
def spCond (n : Nat) : Sp := fun vs H Q _ => ∃ (st scr : Addr) (ns : List Int) (W : Hp) (xs x : V) (sc : Sc) (d : Nat), vs = [.ref st, xs, x, .int d] ∧ d < n ∧ Gs K st scr ns W H ∧ Dp K W xs (schD es) ∧ Dp K W x (scD sc) ∧ ScOk sc ∧ sc ≠ [] ∧
  ∀ v dd W' H', Gw st W H W' H' → StOk st scr ns H' → Dp K W' v dd → (∃ f, RepE tb (es.map (·.1)) (cN d) false sc dd .cond f) → dd.bulk ≤ bc d → Q v H'
def spSelG (n : Nat) : Sp := fun vs H Q _ => ∃ (st scr : Addr) (ns : List Int) (W : Hp) (xs xo xk : V) (sc : Sc) (kds : List Kd) (d : Nat), vs = [.ref st, xs, xo, .int d, xk] ∧ d < n ∧ Gs K st scr ns W H ∧ Dp K W xs (schD es) ∧ Dp K W xo (scD sc) ∧ ScOk sc ∧ sc.length ≤ 2 ∧
  Dp K W xk (ksD kds) ∧ kds ≠ [] ∧ kds.length ≤ 3 ∧ (∀ k ∈ kds, k ≠ Kd.cond) ∧
  ∀ v dd W' H', Gw st W H W' H' → StOk st scr ns H' → Dp K W' v dd → (∃ q, RepQ tb (es.map (·.1)) (cN d + 4) 1 sc dd kds q) → dd.bulk ≤ bs d → Q v H'
def spQst (n : Nat) : Sp := fun vs H Q _ => ∃ (st scr : Addr) (ns : List Int) (W : Hp) (xs xo xk : V) (sc : Sc) (kds : List Kd) (d : Nat), vs = [.ref st, xs, xo, .int d, xk] ∧ d < n ∧ Gs K st scr ns W H ∧ Dp K W xs (schD es) ∧ Dp K W xo (scD sc) ∧ ScOk sc ∧ sc.length ≤ 2 ∧
  Dp K W xk (ksD kds) ∧ kds ≠ [] ∧ kds.length ≤ 3 ∧ (∀ k ∈ kds, k ≠ Kd.cond) ∧
  ∀ v dd W' H', Gw st W H W' H' → StOk st scr ns H' → Dp K W' v dd → (∃ m q, RepQ tb (es.map (·.1)) (cN d + 7) m sc dd kds q) → dd.bulk ≤ (if sc = [] then 4 * bs d + 40 else 2 * bs d + 14) → Q v H'
end
section
variable {tb : Str → List Row} {es : Ents} {P : Program} {w : World} {K : PySem.W.Frag} {mg : Str → Option Value} {base : Heap}
theorem ok_law_condition (Z : Glb mg) (D : DefN K mg "_law_condition" 25) {n : Nat} (c__law_take : C8.Cal P w K mg base 1 "_law_take" (spTake K) []) (c__law_kinds : C8.Cal P w K mg base 2 "_law_kinds" (spKinds K) [])
    (c__law_comparison : C8.Cal P w K mg base 7 "_law_comparison" (spCmpG tb (es.map (·.1)) K) []) (c__law_condition : C8.Cal P w K mg base (3 * n + 13) "_law_condition" (spCond tb es K n) []) (c__law_question : C8.Cal P w K mg base (3 * n + 15) "_law_question" (spQst tb es K n) []) :
    C8.Cal P w K mg base (3 * n + 15 + 1) "_law_condition" (spCond tb es K (n + 1)) [] := by
  have S : FnScope ["_law_state_here", "_law_schema_here", "_law_scopes", "_law_depth", "_law_pick", "_law_left"] ["_law_state_here", "_law_schema_here", "_law_scopes", "_law_depth"] (C8.fnScope (top 25)) := C8.fnScope_by (by decide +kernel)
  refine cal_of D S (fun _ _ _ _ _ _ us hl => match us, hl with | [_, _, _, _], _ => rfl) (fun vs H Q E h => ?_) fun f cdv A outer s H vs Q E hr h => ?_
  · obtain ⟨st, scr, ns, W, xs, x, sc, d, rfl, _⟩ := h
    rfl
  obtain ⟨st, scr, ns, W, xs, x, sc, d, rfl, hd, G, hxs, hx, hsc, hne, q⟩ := h
  refine ⟨_, (pss_cons (ps_set (i := 4) S.nd rfl (by first | exact .inl rfl | exact .inr rfl) (C8.pe_c c__law_take hr (by omega) rfl (pa_cons (pv 0) (pa_cons pe_intA pa_nilA))))
    (pss_cons (ps_if (PW.pt (pw_and (pt_cmpR (op_gt) (pv 3) pe_intA (nomark _)) (pw_and1 (PW.pt (pw_or (pt_cmpR (op_eq) (pv 4) pe_intA (nomark _)) (pw_or1 (pt_cmpR (op_eq) (pv 4) pe_intA (nomark _))))))))
      (pss_cons (ps_set (i := 5) S.nd rfl (by first | exact .inl rfl | exact .inr rfl) (C8.pe_c c__law_condition hr (by omega) rfl (pa_cons (pv 0) (pa_cons (pv 1) (pa_cons (pv 2) (pa_cons (pe_op (op_sub) (pv 3) pe_intA) pa_nilA))))))
    (pss_one (ps_ret (pe_tup (pa_cons (pe_ix (ix_listK (K := K)) (pe_lst (pa_cons pe_strA (pa_cons pe_strA pa_nilA))) (pe_op (op_sub) (pv 4) pe_intA) (fun _ _ => rfl)) (pa_cons (pv 5) (pa_cons (C8.pe_c c__law_condition hr (by omega) rfl (pa_cons (pv 0) (pa_cons (pv 1) (pa_cons (pv 2) (pa_cons (pe_op (op_sub) (pv 3) pe_intA) pa_nilA))))) pa_nilA)))))))
      pss_nil)
    (pss_cons (ps_if (PW.pt (pw_and (pt_cmpR (op_gt) (pv 3) pe_intA (nomark _)) (pw_and1 (pt_cmpR (op_eq) (pv 4) pe_intA (nomark _)))))
      (pss_one (ps_ret (pe_tup (pa_cons pe_strA (pa_cons (C8.pe_c c__law_condition hr (by omega) rfl (pa_cons (pv 0) (pa_cons (pv 1) (pa_cons (pv 2) (pa_cons (pe_op (op_sub) (pv 3) pe_intA) pa_nilA))))) pa_nilA)))))
      pss_nil)
    (pss_cons (ps_if (PW.pt (pw_and (pt_cmpR (op_gt) (pv 3) pe_intA (nomark _)) (pw_and (pt_cmpR (op_eq) (pv 4) pe_intA (nomark _)) (pw_and1 (pt_cmpR (op_lt) (pe_callB (id := "len") (cr_len (K := K)) (by rfl) Z.len (by decide +kernel) (pa_cons (pv 2) pa_nilA)) pe_intA (nomark _))))))
      (pss_one (ps_ret (pe_tup (pa_cons pe_strA (pa_cons (C8.pe_c c__law_question hr (by omega) rfl (pa_cons (pv 0) (pa_cons (pv 1) (pa_cons (pv 2) (pa_cons (pe_op (op_sub) (pv 3) pe_intA) (pa_cons (C8.pe_c c__law_kinds hr (by omega) rfl (pa_cons (pv 0) pa_nilA)) pa_nilA)))))) pa_nilA)))))
      pss_nil)
    (pss_one (ps_ret (C8.pe_c c__law_comparison hr (by omega) rfl (pa_cons (pv 0) (pa_cons (pv 2) (pa_cons (pe_callB (id := "min") (call_min2 rfl) (by rfl) Z.min (by decide +kernel) (pa_cons (pv 3) (pa_cons pe_intA pa_nilA))) pa_nilA)))))))))), ?_⟩
  refine ⟨_, rfl, st, scr, ns, W, 9, rfl, by decide, by decide, G, fun i H1 hi g1 o1 => ?_⟩
  have G1 := G.step g1 o1
  have cv : ∀ {d' : Nat} {U V2 : Hp} {Q2 : VK}, d = d' + 1 → Gs K st scr ns U V2 → Same W U → (∀ v dd W' H', Gw st U V2 W' H' → StOk st scr ns H' → Dp K W' v dd → (∃ f, RepE tb (es.map (·.1)) (cN d') false sc dd .cond f) → dd.bulk ≤ bc d' → Q2 v H') → spCond tb es K n [.ref st, xs, x, .int ((d : Int) - 1)] V2 Q2 C8.E0 := fun {d' U V2 Q2} e G6 s6 q6 => by
    subst e
    exact ⟨st, scr, ns, U, xs, x, sc, d', by rw [show (((d' + 1 : Nat) : Int) - 1) = (d' : Int) by omega], by omega, G6, Dp.up s6 hxs, Dp.up s6 hx, hsc, hne, q6⟩
  dsimp only [gName, tSeq]
  refine if_pure (decide (0 < d) && (decide (i = 1) || decide (i = 2))) (fun Q2 hQ2 => ?_) ?_
  · refine ⟨_, rfl, _, _, rfl, rfl, _, rfl, ite2 (fun h1 => ?_) (fun h1 => ?_)⟩
    · have h2 : 0 < d := by
        have h3 : (0 : Int) < (d : Int) := of_decide_eq_true h1
        omega
      rw [decide_eq_true h2, Bool.true_and] at hQ2
      refine ⟨_, rfl, rfl, _, rfl, ?_⟩
      rw [← int_eq i 1, ← int_eq i 2] at hQ2
      refine ite2 (fun h4 => ?_) (fun h4 => ⟨_, rfl, rfl, _, rfl, ?_⟩)
      · have h5 : decide (V.int (i : Int) = V.int ((1 : Nat) : Int)) = true := h4
        rw [h5, Bool.true_or] at hQ2
        exact hQ2
      · have h5 : decide (V.int (i : Int) = V.int ((1 : Nat) : Int)) = false := Bool.eq_false_iff.mpr h4
        rw [h5, Bool.false_or] at hQ2
        exact hQ2
    · have h2 : ¬ 0 < d := fun z => h1 (decide_eq_true (by omega))
      rw [decide_eq_false h2, Bool.false_and] at hQ2
      exact hQ2
  refine ite2 (fun hb1 => ?_) (fun hb1 => ?_)
  · rw [Bool.and_eq_true, Bool.or_eq_true, decide_eq_true_eq, decide_eq_true_eq, decide_eq_true_eq] at hb1
    obtain ⟨h0, hi2⟩ := hb1
    obtain ⟨d', rfl⟩ : ∃ d', d = d' + 1 := ⟨d - 1, by omega⟩
    refine ⟨_, rfl, _, rfl, _, rfl, _, rfl, _, _, rfl, rfl, cv rfl G1 Same.rfl' fun v1 d1 W2 H2 g2 o2 hv1 hE1 hB1 => ?_⟩
    have G2 := G1.step g2 o2
    refine ⟨by show 2 ≤ sizeLine; decide, fun p hp => ⟨_, rfl, _, _, rfl, rfl, ?_⟩⟩
    have G3 := G2.up (same_new hp (.lst [.str "and", .str "or"]))
    obtain ⟨o, ho⟩ : ∃ o : Bool, atI ([.str "and", .str "or"] : List V) ((i : Int) - 1) = some (.str (loNm o)) := by
      rcases hi2 with rfl | rfl
      · exact ⟨true, rfl⟩
      · exact ⟨false, rfl⟩
    refine ⟨p, _, _, _, rfl, rfl, SqL.of upd_same, ho, _, rfl, _, rfl, _, rfl, _, rfl, _, rfl, _, _, rfl, rfl, cv rfl G3 g2.g fun v2 d2 W4 H4 g4 o4 hv2 hE2 hB2 => ⟨by show 3 ≤ sizeLine; decide, fun p2 hp2 => ?_⟩⟩
    have G4 := G3.step g4 o4
    refine q _ (.tuple [.str (loNm o), d1, d2]) _ _ (g1.trans (g2.trans ((gw_same G2 (same_new hp _)).trans (g4.trans (Grow.new G4.s hp2 _))))) (o4.same (same_new hp2 _)) (newT_of (same_none G4.s hp2) (.cons (.str _) (.cons (Dp.up g4.g hv1) (.cons hv2 .nil)))) ?_ ?_
    · obtain ⟨f1, e1⟩ := hE1
      obtain ⟨f2, e2⟩ := hE2
      exact ⟨_, .lo o (show cN d' < cN d' + 8 by omega) e1 e2⟩
    · have h2 := lo_bulk o
      simp only [PyData.bulk, PyData.bulkAll]
      show _ ≤ 2 * bc d' + 3100
      omega
  dsimp only [tNext, tSeq]
  refine if_pure (decide (0 < d) && decide (i = 3)) (fun Q2 hQ2 => ?_) ?_
  · refine ⟨_, rfl, _, _, rfl, rfl, _, rfl, ite2 (fun h1 => ?_) (fun h1 => ?_)⟩
    · have h2 : 0 < d := by
        have h3 : (0 : Int) < (d : Int) := of_decide_eq_true h1
        omega
      rw [decide_eq_true h2, Bool.true_and] at hQ2
      refine ⟨_, rfl, rfl, _, rfl, ?_⟩
      rw [← int_eq i 3] at hQ2
      exact hQ2
    · have h2 : ¬ 0 < d := fun z => h1 (decide_eq_true (by omega))
      rw [decide_eq_false h2, Bool.false_and] at hQ2
      exact hQ2
  refine ite2 (fun hb1 => ?_) (fun hb1 => ?_)
  · rw [Bool.and_eq_true, decide_eq_true_eq, decide_eq_true_eq] at hb1
    obtain ⟨h0, _⟩ := hb1
    obtain ⟨d', rfl⟩ : ∃ d', d = d' + 1 := ⟨d - 1, by omega⟩
    refine ⟨_, rfl, _, rfl, _, rfl, _, rfl, _, _, rfl, rfl, cv rfl G1 Same.rfl' fun v1 d1 W2 H2 g2 o2 hv1 hE1 hB1 => ⟨by show 2 ≤ sizeLine; decide, fun p2 hp2 => ?_⟩⟩
    have G2 := G1.step g2 o2
    refine q _ (.tuple [.str "not", d1]) _ _ (g1.trans (g2.trans (Grow.new G2.s hp2 _))) (o2.same (same_new hp2 _)) (newT_of (same_none G2.s hp2) (.cons (.str _) (.cons hv1 .nil))) ?_ ?_
    · obtain ⟨f1, e1⟩ := hE1
      exact ⟨_, .nt (show cN d' < cN d' + 8 by omega) e1⟩
    · have h2 : ("not" : Str).cps.size = 3 := by decide
      simp only [PyData.bulk, PyData.bulkAll]
      show _ ≤ 2 * bc d' + 3100
      omega
  dsimp only [tNext, tSeq]
  refine if_pure (decide (0 < d) && (decide (i = 4) && decide (sc.length < 3))) (fun Q2 hQ2 => ?_) ?_
  · refine ⟨_, rfl, _, _, rfl, rfl, _, rfl, ite2 (fun h1 => ?_) (fun h1 => ?_)⟩
    · have h2 : 0 < d := by
        have h3 : (0 : Int) < (d : Int) := of_decide_eq_true h1
        omega
      rw [decide_eq_true h2, Bool.true_and] at hQ2
      refine ⟨_, rfl, rfl, _, rfl, ?_⟩
      rw [← int_eq i 4] at hQ2
      refine ite2 (fun h4 => ?_) (fun h4 => ?_)
      · have h5 : decide (V.int (i : Int) = V.int ((4 : Nat) : Int)) = true := h4
        rw [h5, Bool.true_and] at hQ2
        refine ⟨_, rfl, len_d (Dp.up G1.s hx) ⟨_, _, rfl, rfl, _, rfl, ?_⟩⟩
        have e : decide (sc.length < 3) = decide ((((sc.map scnD).length : Nat) : Int) < 3) := decide_eq_decide.mpr (by rw [List.length_map]; omega)
        rw [e] at hQ2
        exact hQ2
      · have h5 : decide (V.int (i : Int) = V.int ((4 : Nat) : Int)) = false := Bool.eq_false_iff.mpr h4
        rw [h5, Bool.false_and] at hQ2
        exact hQ2
    · have h2 : ¬ 0 < d := fun z => h1 (decide_eq_true (by omega))
      rw [decide_eq_false h2, Bool.false_and] at hQ2
      exact hQ2
  refine ite2 (fun hb1 => ?_) (fun hb1 => ?_)
  · rw [Bool.and_eq_true, Bool.and_eq_true, decide_eq_true_eq, decide_eq_true_eq, decide_eq_true_eq] at hb1
    obtain ⟨h0, _, hs3⟩ := hb1
    obtain ⟨d', rfl⟩ : ∃ d', d = d' + 1 := ⟨d - 1, by omega⟩
    refine ⟨_, rfl, _, rfl, _, rfl, _, rfl, _, _, rfl, rfl, _, rfl, st, scr, ns, W, rfl, G1, fun vk kds W2 H2 g2 o2 hvk hk1 hk2 hk3 => ?_⟩
    have G2 := G1.step g2 o2
    refine ⟨st, scr, ns, W2, xs, x, vk, sc, kds, d', (show [V.ref st, xs, x, V.int (((d' + 1 : Nat) : Int) - 1), vk] = _ by rw [show (((d' + 1 : Nat) : Int) - 1) = (d' : Int) by omega]), by omega, G2, Dp.up g2.g hxs, Dp.up g2.g hx, hsc, by omega, hvk, hk1, hk2, hk3, fun v1 d1 W3 H3 g3 o3 hv1 hE1 hB1 => ⟨by show 2 ≤ sizeLine; decide, fun p2 hp2 => ?_⟩⟩
    have G3 := G2.step g3 o3
    refine q _ (.tuple [.str "exists", d1]) _ _ ((g1.trans g2).trans (g3.trans (Grow.new G3.s hp2 _))) (o3.same (same_new hp2 _)) (newT_of (same_none G3.s hp2) (.cons (.str _) (.cons hv1 .nil))) ?_ ?_
    · obtain ⟨m, q1, e1⟩ := hE1
      exact ⟨_, .ex (show cN d' + 7 < cN d' + 8 by omega) e1⟩
    · have h2 : ("exists" : Str).cps.size = 6 := by decide
      simp only [PyData.bulk, PyData.bulkAll]
      show _ ≤ 2 * bc d' + 3100
      rw [if_neg hne] at hB1
      unfold bs at hB1
      omega
  dsimp only [tNext, tSeq]
  refine ⟨_, rfl, _, rfl, _, rfl, _, _, rfl, ?_⟩
  have e1 : (if (1 : Int) < (d : Int) then (1 : Int) else (d : Int)) = ((min d 1 : Nat) : Int) := by
    split <;> omega
  rw [e1]
  refine ⟨st, scr, ns, W, x, sc, min d 1, rfl, by omega, G1, hx, hsc, fun v dd W2 H2 g2 o2 hv hE hB => q v dd W2 H2 (g1.trans g2) o2 hv ?_ (Nat.le_trans hB ?_)⟩
  · obtain ⟨f, e⟩ := hE false
    refine ⟨f, e.mono ?_⟩
    cases d with
    | zero =>
      show min 0 1 + 2 ≤ 3
      decide
    | succ d =>
      show _ ≤ cN d + 8
      have := cN_pos d
      omega
  · cases d with
    | zero => decide
    | succ d =>
      have e2 : min (d + 1) 1 = 1 := by omega
      rw [e2]
      show 2 * vb 1 + 5 ≤ 2 * bc d + 3100
      have h3 : vb 1 = 100 := rfl
      omega
end
end K23

set_option Elab.async false
set_option linter.all false
set_option maxRecDepth 100000
set_option maxHeartbeats 4000000
/-! K23zf: selects. -/
namespace K23
open PySem PySem.Spec PyProof.Rows L2

theorem outs_map {α : Type} {f : α → PyData} : ∀ {l : List α} {o : List PyData}, Outs (fun a d => d = f a) (fun _ => False) l o → o = l.map f
  | _, _, .nil => rfl
  | _, _, .keep h t => by rw [h, outs_map t, List.map_cons]
  | _, _, .skip h _ => h.elim
theorem outs_len {α : Type} {R : α → PyData → Prop} : ∀ {l : List α} {o : List PyData}, Outs R (fun _ => False) l o → o.length = l.length
  | _, _, .nil => rfl
  | _, _, .keep _ t => congrArg Nat.succ (outs_len t)
  | _, _, .skip h _ => h.elim
theorem outs_ents {es : Ents} {α : Type} : ∀ {l : List α} {o : List PyData}, Outs (fun _ d => ∃ e ∈ es, d = entD e) (fun _ => False) l o → ∃ q : Ents, o = q.map entD ∧ q.length = l.length ∧ ∀ e ∈ q, e ∈ es
  | _, _, .nil => ⟨[], rfl, rfl, fun e h => nomatch h⟩
  | _, _, .keep h t => by
    obtain ⟨e, he, rfl⟩ := h
    obtain ⟨q, rfl, h2, h3⟩ := outs_ents t
    refine ⟨e :: q, rfl, congrArg Nat.succ h2, fun y hy => ?_⟩
    rcases List.mem_cons.mp hy with z | z
    · rw [z]; exact he
    · exact h3 y z
  | _, _, .skip h _ => h.elim
section
variable {tb : Str → List Row} {sch : List (Str × List Kd)}
theorem outs_items {n B : Nat} {sc : Sc} : ∀ {l : List Kd} {o : List PyData}, Outs (fun k d => (∃ f, RepE tb sch n true sc d k f) ∧ d.bulk ≤ B) (fun _ => False) l o →
    ∃ items : List (PyData × Kd × Sem), o = items.map (·.1) ∧ l = items.map (·.2.1) ∧ ∀ x ∈ items, RepE tb sch n true sc x.1 x.2.1 x.2.2 ∧ x.1.bulk ≤ B
  | _, _, .nil => ⟨[], rfl, rfl, fun e h => nomatch h⟩
  | _, _, .keep (c := k) (d := d) h t => by
    obtain ⟨⟨f, e⟩, hB⟩ := h
    obtain ⟨items, h1, h2, h3⟩ := outs_items t
    refine ⟨(d, k, f) :: items, by rw [h1, List.map_cons], by rw [h2, List.map_cons], fun y hy => ?_⟩
    rcases List.mem_cons.mp hy with z | z
    · rw [z]; exact ⟨e, hB⟩
    · exact h3 y z
  | _, _, .skip h _ => h.elim
theorem bulkAll_le {B : Nat} : ∀ {ds : List PyData}, (∀ d ∈ ds, d.bulk ≤ B) → PyData.bulkAll ds ≤ ds.length * (B + 1)
  | [], _ => by simp [PyData.bulkAll]
  | d :: ds, h => by
    have h1 := h d List.mem_cons_self
    have h2 := bulkAll_le fun y hy => h y (List.mem_cons_of_mem _ hy)
    simp only [PyData.bulkAll, List.length_cons, Nat.succ_mul]
    omega
end
/-- a drawn select: what it is and what it costs -/
theorem sel_final {tb : Str → List Row} {es : Ents} (hes : EntsOk es) {d : Nat} {sc : Sc} {l : Ents} (hl : l.length ≤ 3) (hle : ∀ e ∈ l, e ∈ es) {items : List (PyData × Kd × Sem)} (hi0 : items ≠ []) (hi3 : items.length ≤ 3) (hik : ∀ x ∈ items, x.2.1 ≠ Kd.cond)
    (hi : ∀ x ∈ items, RepE tb (es.map (·.1)) 4 true (l.map (·.1.2) :: sc) x.1 x.2.1 x.2.2 ∧ x.1.bulk ≤ 228) (wh : Option (PyData × Sem)) (hw : ∀ x, wh = some x → RepE tb (es.map (·.1)) (cN d) false (l.map (·.1.2) :: sc) x.1 .cond x.2) (hwb : (optD wh).bulk ≤ bc d)
    (grp : Option (List (Nat × Nat))) (hg : ∀ cs, grp = some cs → CsOk (l.map (·.1.2)) cs) (hav : Option (PyData × Sem)) (hh : ∀ x, hav = some x → RepE tb (es.map (·.1)) 6 true (l.map (·.1.2) :: sc) x.1 .cond x.2) (hhb : (optD hav).bulk ≤ 708) :
    (∃ q, RepQ tb (es.map (·.1)) (cN d + 4) 1 sc (.tuple [.str "select", .list (items.map (·.1)), .list (l.map fun e => .str e.1.1), optD wh, optG grp, optD hav]) (items.map (·.2.1)) q) ∧
    (PyData.tuple [.str "select", .list (items.map (·.1)), .list (l.map fun e => .str e.1.1), optD wh, optG grp, optD hav]).bulk ≤ bs d := by
  have c3 := cN_pos d
  have e1 : (l.map (·.1)).map (·.2) = l.map (·.1.2) := by rw [List.map_map]; rfl
  have e2 : (l.map (·.1)).map (fun s => PyData.str s.1) = l.map fun e => PyData.str e.1.1 := by rw [List.map_map]; rfl
  refine ⟨⟨selM tb items (l.map (·.1)) wh grp hav, ?_⟩, ?_⟩
  · have := RepQ.sel (tb := tb) (sch := es.map (·.1)) (n := cN d + 4) (n' := cN d + 3) (m := 1) (sc := sc) items (l.map (·.1)) wh grp hav (by omega) (by omega) (fun s hs => by
        obtain ⟨e, he, rfl⟩ := List.mem_map.mp hs
        exact List.mem_map.mpr ⟨e, hle e he, rfl⟩) (by rw [List.length_map]; exact hl) hi0 (by omega) hik (fun x hx => by rw [e1]; exact (hi x hx).1.mono (by omega)) (fun x hx => by rw [e1]; exact (hw x hx).mono (by omega))
        (fun cs hc => by rw [e1]; exact ⟨(hg cs hc).1, (hg cs hc).2⟩) (fun x hx => by rw [e1]; exact (hh x hx).mono (by omega))
    rw [e2] at this
    exact this
  · have h2 : ("select" : Str).cps.size = 6 := by decide
    have b1 := bulkAll_le (B := 228) (ds := items.map (·.1)) fun x hx => by
      obtain ⟨y, hy, rfl⟩ := List.mem_map.mp hx
      exact (hi y hy).2
    have b2 := bulkAll_le (B := 5) (ds := l.map fun e => PyData.str e.1.1) fun x hx => by
      obtain ⟨y, hy, rfl⟩ := List.mem_map.mp hx
      exact (hes.2 y (hle y hy)).1
    have b3 : (optG grp).bulk ≤ 36 := by
      cases grp with
      | none => exact Nat.zero_le _
      | some cs =>
        have h4 := (hg cs rfl).1
        have b4 := bulkAll_le (B := 8) (ds := cs.map fun p => cellD 0 p.1 p.2) fun x hx => by
          obtain ⟨y, hy, rfl⟩ := List.mem_map.mp hx
          have h5 : ("cell" : Str).cps.size = 4 := by decide
          unfold cellD
          simp only [PyData.bulk, PyData.bulkAll]
          omega
        rw [List.length_map] at b4
        show PyData.bulkAll _ ≤ 36
        have : cs.length * (8 + 1) ≤ 4 * 9 := Nat.mul_le_mul h4 (Nat.le_refl _)
        omega
    rw [List.length_map] at b1 b2
    have b5 : items.length * (228 + 1) ≤ 3 * 229 := Nat.mul_le_mul hi3 (Nat.le_refl _)
    have b6 : l.length * (5 + 1) ≤ 3 * 6 := Nat.mul_le_mul hl (Nat.le_refl _)
    simp only [PyData.bulk, PyData.bulkAll]
    unfold bs
    omega
section
variable {tb : Str → List Row} {es : Ents} {P : Program} {w : World} {K : PySem.W.Frag} {mg : Str → Option Value} {base : Heap}
theorem ok_law_select (hes : EntsOk es) (Z : Glb mg) (D : DefN K mg "_law_select" 30) {n : Nat} (c__law_take : C8.Cal P w K mg base 1 "_law_take" (spTake K) []) (c__law_group : C8.Cal P w K mg base 2 "_law_group" (spGrpG K) [])
    (c__law_value : C8.Cal P w K mg base 6 "_law_value" (spLV tb (es.map (·.1)) K 2) []) (c__law_group_value : C8.Cal P w K mg base 9 "_law_group_value" (spLG tb (es.map (·.1)) K 2) []) (c__law_having : C8.Cal P w K mg base 12 "_law_having" (spLH tb (es.map (·.1)) K 2) [])
    (c__law_condition : C8.Cal P w K mg base (3 * n + 13) "_law_condition" (spCond tb es K n) []) :
    C8.Cal P w K mg base (3 * n + 13 + 1) "_law_select" (spSelG tb es K n) [] := by
  have S : FnScope ["_law_state_here", "_law_schema_here", "_law_outer", "_law_depth", "_law_kinds_here", "_law_many", "_law_sources", "_law_scope", "_law_names", "_law_scopes", "_law_where", "_law_group_here", "_law_items", "_law_having_here", "_law_n", "_law_source", "_law_kind"] ["_law_state_here", "_law_schema_here", "_law_outer", "_law_depth", "_law_kinds_here"] (C8.fnScope (top 30)) := C8.fnScope_by (by decide +kernel)
  refine cal_of D S (fun _ _ _ _ _ _ us hl => match us, hl with | [_, _, _, _, _], _ => rfl) (fun vs H Q E h => ?_) fun f cdv A outer s H vs Q E hr h => ?_
  · obtain ⟨st, scr, ns, W, xs, xo, xk, sc, kds, d, rfl, _⟩ := h
    rfl
  obtain ⟨st, scr, ns, W, xs, xo, xk, sc, kds, d, rfl, hd, G, hxs, hxo, hsc, hs2, hxk, hk0, hk3, hkc, q⟩ := h
  refine ⟨_, (C8.pss_cut (ps_set (i := 5) S.nd rfl (by first | exact .inl rfl | exact .inr rfl) (pe_op (op_add) pe_intA (pe_op (op_mul) (C8.pe_c c__law_take hr (by omega) rfl (pa_cons (pv 0) (pa_cons pe_intA pa_nilA))) (pe_callTy (T := "int") (cr_int1) (by rfl) Z.int (by decide +kernel) (pa_cons (pe_or (pe_cmpR (op_eq) (pe_callB (id := "len") (cr_len (K := K)) (by rfl) Z.len (by decide +kernel) (pa_cons (pv 2) pa_nilA)) pe_intA (nomark _)) (pe_one (pe_and (pe_cmpR (op_eq) (pe_callB (id := "len") (cr_len (K := K)) (by rfl) Z.len (by decide +kernel) (pa_cons (pv 2) pa_nilA)) pe_intA (nomark _)) (pe_one (pe_cmpR (op_gt) (pv 3) pe_intA (nomark _)))))) pa_nilA)))))
    (C8.pss_cut (ps_if (PW.pt (pw_and (pt_cmpR (op_eq) (pe_callB (id := "len") (cr_len (K := K)) (by rfl) Z.len (by decide +kernel) (pa_cons (pv 2) pa_nilA)) pe_intA (nomark _)) (pw_and1 (pt_cmpR (op_eq) (C8.pe_c c__law_take hr (by omega) rfl (pa_cons (pv 0) (pa_cons pe_intA pa_nilA))) pe_intA (nomark _)))))
      (pss_cons (ps_set (i := 5) S.nd rfl (by first | exact .inl rfl | exact .inr rfl) pe_intA)
    (pss_one (ps_set (i := 3) S.nd rfl (by first | exact .inl rfl | exact .inr rfl) pe_intA)))
      pss_nil)
    (pss_cons (ps_setLc (i := 6) (own := [("_law_n", 14)]) (g := gName 14) (by rfl) S.nd rfl rfl (sw_true rfl rfl rfl (by decide +kernel)) (pi_range1 (by rfl) Z.range (pa_cons (pv 5) pa_nilA)) (blkOk_by (own := [("_law_n", 14)]) (N := ["_law_state_here", "_law_schema_here", "_law_outer", "_law_depth", "_law_kinds_here", "_law_many", "_law_sources", "_law_scope", "_law_names", "_law_scopes", "_law_where", "_law_group_here", "_law_items", "_law_having_here", "_law_n", "_law_source", "_law_kind"]) (sc := C8.fnScope (top 30)) (by decide +kernel)) (fun _ _ _ _ _ => pg_name (i := 14) S.nd rfl (by first | exact .inl rfl | exact .inr rfl)) (fun _ _ _ _ _ => pts_nil) (fun _ _ _ _ _ => (pe_ix (ix_listK (K := K)) (pv 1) (C8.pe_c c__law_take hr (by omega) rfl (pa_cons (pv 0) (pa_cons pe_intA pa_nilA))) (fun _ _ => rfl))))
    (pss_cons (ps_setLc (i := 7) (own := [("_law_source", 15)]) (g := gName 15) (by rfl) S.nd rfl rfl (sw_true rfl rfl rfl (by decide +kernel)) (pi_listK (K := K) (pv 6)) (blkOk_by (own := [("_law_source", 15)]) (N := ["_law_state_here", "_law_schema_here", "_law_outer", "_law_depth", "_law_kinds_here", "_law_many", "_law_sources", "_law_scope", "_law_names", "_law_scopes", "_law_where", "_law_group_here", "_law_items", "_law_having_here", "_law_n", "_law_source", "_law_kind"]) (sc := C8.fnScope (top 30)) (by decide +kernel)) (fun _ _ _ _ _ => pg_name (i := 15) S.nd rfl (by first | exact .inl rfl | exact .inr rfl)) (fun _ _ _ _ _ => pts_nil) (fun _ _ _ _ _ => (pe_ix (ix_tupK (K := K)) (pv 15) pe_intA (fun _ _ => rfl))))
    (pss_cons (ps_setLc (i := 8) (own := [("_law_source", 15)]) (g := gName 15) (by rfl) S.nd rfl rfl (sw_true rfl rfl rfl (by decide +kernel)) (pi_listK (K := K) (pv 6)) (blkOk_by (own := [("_law_source", 15)]) (N := ["_law_state_here", "_law_schema_here", "_law_outer", "_law_depth", "_law_kinds_here", "_law_many", "_law_sources", "_law_scope", "_law_names", "_law_scopes", "_law_where", "_law_group_here", "_law_items", "_law_having_here", "_law_n", "_law_source", "_law_kind"]) (sc := C8.fnScope (top 30)) (by decide +kernel)) (fun _ _ _ _ _ => pg_name (i := 15) S.nd rfl (by first | exact .inl rfl | exact .inr rfl)) (fun _ _ _ _ _ => pts_nil) (fun _ _ _ _ _ => (pe_ix (ix_tupK (K := K)) (pv 15) pe_intA (fun _ _ => rfl))))
    (pss_cons (ps_set (i := 9) S.nd rfl (by first | exact .inl rfl | exact .inr rfl) (pe_op (op_catK (K := K)) (pe_lst (pa_cons (pv 7) pa_nilA)) (pv 2)))
    (pss_cons (ps_set (i := 10) S.nd rfl (by first | exact .inl rfl | exact .inr rfl) pe_nonA)
    (C8.pss_cut (ps_if (pt_cmpR (op_gt) (C8.pe_c c__law_take hr (by omega) rfl (pa_cons (pv 0) (pa_cons pe_intA pa_nilA))) pe_intA (nomark _))
      (pss_one (ps_set (i := 10) S.nd rfl (by first | exact .inl rfl | exact .inr rfl) (C8.pe_c c__law_condition hr (by omega) rfl (pa_cons (pv 0) (pa_cons (pv 1) (pa_cons (pv 9) (pa_cons (pv 3) pa_nilA)))))))
      pss_nil)
    (pss_cons (ps_if (pt_cmpR (op_ne) (C8.pe_c c__law_take hr (by omega) rfl (pa_cons (pv 0) (pa_cons pe_intA pa_nilA))) pe_intA (nomark _))
      (pss_one (ps_ret (pe_tup (pa_cons pe_strA (pa_cons (pe_lc (own := [("_law_kind", 16)]) (g := gName 16) (by rfl) S.nd (pi_listK (K := K) (pv 4)) (blkOk_by (own := [("_law_kind", 16)]) (N := ["_law_state_here", "_law_schema_here", "_law_outer", "_law_depth", "_law_kinds_here", "_law_many", "_law_sources", "_law_scope", "_law_names", "_law_scopes", "_law_where", "_law_group_here", "_law_items", "_law_having_here", "_law_n", "_law_source", "_law_kind"]) (sc := C8.fnScope (top 30)) (by decide +kernel)) (fun _ _ _ _ _ => pg_name (i := 16) S.nd rfl (by first | exact .inl rfl | exact .inr rfl)) (fun _ _ _ _ _ => pts_nil) (fun _ _ _ _ _ => (C8.pe_c c__law_value hr (by omega) rfl (pa_cons (pv 0) (pa_cons (pv 9) (pa_cons (pv 16) (pa_cons pe_intA pa_nilA))))))) (pa_cons (pv 8) (pa_cons (pv 10) (pa_cons pe_nonA (pa_cons pe_nonA pa_nilA)))))))))
      pss_nil)
    (pss_cons (ps_set (i := 11) S.nd rfl (by first | exact .inl rfl | exact .inr rfl) (C8.pe_c c__law_group hr (by omega) rfl (pa_cons (pv 0) (pa_cons (pv 7) pa_nilA))))
    (pss_cons (ps_setLc (i := 12) (own := [("_law_kind", 16)]) (g := gName 16) (by rfl) S.nd rfl rfl (sw_true rfl rfl rfl (by decide +kernel)) (pi_listK (K := K) (pv 4)) (blkOk_by (own := [("_law_kind", 16)]) (N := ["_law_state_here", "_law_schema_here", "_law_outer", "_law_depth", "_law_kinds_here", "_law_many", "_law_sources", "_law_scope", "_law_names", "_law_scopes", "_law_where", "_law_group_here", "_law_items", "_law_having_here", "_law_n", "_law_source", "_law_kind"]) (sc := C8.fnScope (top 30)) (by decide +kernel)) (fun _ _ _ _ _ => pg_name (i := 16) S.nd rfl (by first | exact .inl rfl | exact .inr rfl)) (fun _ _ _ _ _ => pts_nil) (fun _ _ _ _ _ => (C8.pe_c c__law_group_value hr (by omega) rfl (pa_cons (pv 0) (pa_cons (pv 9) (pa_cons (pv 11) (pa_cons (pv 16) (pa_cons pe_intA pa_nilA))))))))
    (pss_cons (ps_set (i := 13) S.nd rfl (by first | exact .inl rfl | exact .inr rfl) pe_nonA)
    (C8.pss_cut (ps_if (PW.pt (pw_or (pt_not (pt_truth (pv 11) (by intro _; rfl))) (pw_or1 (pt_cmpR (op_eq) (C8.pe_c c__law_take hr (by omega) rfl (pa_cons (pv 0) (pa_cons pe_intA pa_nilA))) pe_intA (nomark _)))))
      (pss_one (ps_set (i := 13) S.nd rfl (by first | exact .inl rfl | exact .inr rfl) (C8.pe_c c__law_having hr (by omega) rfl (pa_cons (pv 0) (pa_cons (pv 9) (pa_cons (pv 11) (pa_cons (pe_callB (id := "min") (call_min2 rfl) (by rfl) Z.min (by decide +kernel) (pa_cons (pv 3) (pa_cons pe_intA pa_nilA))) pa_nilA)))))))
      pss_nil)
    (pss_one (ps_ret (pe_tup (pa_cons pe_strA (pa_cons (pv 12) (pa_cons (pv 8) (pa_cons (pv 10) (pa_cons (pv 11) (pa_cons (pv 13) pa_nilA)))))))))))))))))))))), ?_⟩
  -- many
  refine ⟨fun σ' H' => ∃ mm : Nat, 1 ≤ mm ∧ mm ≤ 2 ∧ σ' = [some (.ref st), some xs, some xo, some (.int d), some xk, some (.int mm), none, none, none, none, none, none, none, none, none, none, none] ∧ Gs K st scr ns W H' ∧ Gw st W H W H', ?_, fun σ' H1 ⟨mm, m1, m2, e, G1, g1⟩ => ?_⟩
  · refine ⟨_, rfl, st, scr, ns, W, 2, rfl, by decide, by decide, G, fun i H1 hi g1 o1 => ?_⟩
    have G1 := G.step g1 o1
    have fin : ∀ b : Bool, ∃ mm : Nat, 1 ≤ mm ∧ mm ≤ 2 ∧ ([some (.ref st), some xs, some xo, some (.int d), some xk, some (.int (1 + (i : Int) * (if b = true then 1 else 0))), none, none, none, none, none, none, none, none, none, none, none] : L2.St) = [some (.ref st), some xs, some xo, some (.int d), some xk, some (.int mm), none, none, none, none, none, none, none, none, none, none, none] ∧ Gs K st scr ns W H1 ∧ Gw st W H W H1 := fun b => by
      refine ⟨1 + i * (if b = true then 1 else 0), by omega, by split <;> omega, ?_, G1, g1⟩
      have : ((1 : Int) + (i : Int) * (if b = true then 1 else 0)) = ((1 + i * (if b = true then 1 else 0) : Nat) : Int) := by
        split <;> omega
      rw [this]
    have mul : ∀ b : Bool, CMul (i : Int) (if b = true then 1 else 0) := fun b => .inl ⟨by omega, by omega⟩
    refine ⟨_, rfl, len_d (Dp.up G1.s hxo) ⟨rfl, _, rfl, ite2 (fun _ => ?_) (fun _ => ?_)⟩⟩
    · exact .inr ⟨true, rfl, _, _, rfl, rfl, mul true, _, _, rfl, rfl, fin true⟩
    · refine ⟨_, rfl, len_d (Dp.up G1.s hxo) ⟨rfl, _, rfl, ite2 (fun _ => ?_) (fun _ => ?_)⟩⟩
      · exact ⟨_, rfl, _, _, rfl, rfl, .inr ⟨_, rfl, _, _, rfl, rfl, mul _, _, _, rfl, rfl, fin _⟩⟩
      · exact .inr ⟨false, rfl, _, _, rfl, rfl, mul false, _, _, rfl, rfl, fin false⟩
  subst e
  -- three sources
  refine ⟨fun σ' H' => ∃ mm dd : Nat, 1 ≤ mm ∧ mm ≤ 3 ∧ (dd = d ∨ dd = 0) ∧ σ' = [some (.ref st), some xs, some xo, some (.int dd), some xk, some (.int mm), none, none, none, none, none, none, none, none, none, none, none] ∧ Gs K st scr ns W H' ∧ Gw st W H W H', ?_, fun σ' H2 ⟨mm, dd, m1, m2, hdd, e, G2, g2⟩ => ?_⟩
  · refine ⟨_, rfl, len_d (Dp.up G1.s hxo) ⟨rfl, _, rfl, ite2 (fun _ => ?_) (fun _ => ?_)⟩⟩
    · refine ⟨_, rfl, st, scr, ns, W, 6, rfl, by decide, by decide, G1, fun j H2 hj g2 o2 => ⟨rfl, _, rfl, ite2 (fun _ => ?_) (fun _ => ?_)⟩⟩
      · exact ⟨3, 0, by omega, by omega, .inr rfl, rfl, G1.step g2 o2, g1.trans g2⟩
      · exact ⟨mm, d, m1, by omega, .inl rfl, rfl, G1.step g2 o2, g1.trans g2⟩
    · exact ⟨mm, d, m1, by omega, .inl rfl, rfl, G1, g1⟩
  subst e
  have hddn : dd < n := by omega
  have cdd : cN dd ≤ cN d := by
    rcases hdd with rfl | rfl
    · exact Nat.le_refl _
    · exact cN_pos d
  have bdd : bc dd ≤ bc d := by
    rcases hdd with rfl | rfl
    · exact Nat.le_refl _
    · exact bc_pos d
  have hd1 : min dd 1 ≤ 1 := by omega
  -- sources
  refine ⟨_, rfl, _, rfl, by omega, by omega, ?_⟩
  have h0 : ((mm : Nat) : Int).toNat = mm := Int.toNat_natCast mm
  rw [h0]
  intro D1 hD1
  refine lc_viewR (K := K) (n := mm) (E := fun b => b = st) (J := fun H => StOk st scr ns H) (R := fun _ d => ∃ e ∈ es, d = entD e) (N := fun _ => False) G2.s hD1 (fun z => G2.o.ne (by rw [← z]; exact hD1)) (fun H2 o hJ => stOk_upd hJ hD1 G2.o.ne) (G2.o.same (same_new hD1 _)) (by omega) (fun c hc => ?_) fun H3 W3 us1 outs1 g3 o3 hD1' hW3 ho1 hus1 => ?_
  · intro W4 H4 g4 hW4 hD4 o4 Kp Sk hK hS
    have G4 := G2.step g4 o4
    refine ⟨rfl, _, rfl, _, rfl, st, scr, ns, W4, 3, rfl, by decide, by decide, G4, fun j H5 hj g5 o5 => ?_⟩
    have hj' : j < es.length := by rw [hes.1]; omega
    refine ixL_w j g5.i (Dp.up (Same.trn g4.g g5.g) hxs) (d := entD es[j]) (by rw [List.getElem?_map, List.getElem?_eq_getElem hj']; rfl) fun v hv => ?_
    exact hK _ v H5 W4 ⟨_, List.getElem_mem hj', rfl⟩ g5 o5 hv
  obtain ⟨l, rfl, hll, hle⟩ := outs_ents ho1
  rw [List.length_range] at hll
  obtain ⟨g3a, dp1⟩ := view_done g3 hD1' hD1 hW3 hus1
  generalize upd W3 D1 (.lst us1) = U3 at g3a dp1
  have G3 := G2.step g3a o3
  have g23 := g2.trans g3a
  obtain ⟨_, us, eD, hS1, hus⟩ := dp_list dp1
  cases eD
  have husl : us.length = l.length := by rw [dpall_len hus, List.length_map]
  -- scope
  refine ⟨_, rfl, D1, rfl, ⟨_, G3.s.seq hS1⟩, fun D2 hD2 => ?_⟩
  refine lc_view (K := K) (E := fun b => b = st) (V0 := U3) (H := H3) (xs := us) (as := l) (Rel := fun e y => Dp K U3 y (entD e)) (J := fun H => StOk st scr ns H) (R := fun e d => d = ksD e.1.2) (N := fun _ => False)
    G3.s hS1 husl (fun j c y e1 e2 => ?_) hD2 (fun z => G3.o.ne (by rw [← z]; exact hD2)) (fun H4 o hJ => stOk_upd hJ hD2 G3.o.ne) (G3.o.same (same_new hD2 _)) (by omega) (fun e y he hy W4 H4 g4 hW4 hD4 o4 Kp Sk hK hS => ?_) fun H4 W4 us2 outs2 g4 o4 hD2' hW4 ho2 hus2 => ?_
  · obtain ⟨d', f1, f2⟩ := dpall_get2 hus e2
    rw [List.getElem?_map, e1] at f1
    cases f1
    exact f2
  · exact ⟨rfl, _, rfl, ixT_w 1 g4.i (Dp.up g4.g hy) rfl fun v hv => hK _ v _ W4 rfl (Grow.here g4.i) o4 hv⟩
  have e2 := outs_map ho2
  obtain ⟨g4a, dp2⟩ := view_done g4 hD2' hD2 hW4 hus2
  rw [e2] at dp2
  generalize upd W4 D2 (.lst us2) = U4 at g4a dp2
  have G4 := G3.step g4a o4
  have g24 := g23.trans g4a
  have hus4 := DpAll.up g4a.g hus
  have hS4 := g4a.g.seq hS1
  -- names
  refine ⟨_, rfl, D1, rfl, ⟨_, G4.s.seq hS4⟩, fun D3 hD3 => ?_⟩
  refine lc_view (K := K) (E := fun b => b = st) (V0 := U4) (H := H4) (xs := us) (as := l) (Rel := fun e y => Dp K U4 y (entD e)) (J := fun H => StOk st scr ns H) (R := fun e d => d = .str e.1.1) (N := fun _ => False)
    G4.s hS4 husl (fun j c y e1 e2 => ?_) hD3 (fun z => G4.o.ne (by rw [← z]; exact hD3)) (fun H4 o hJ => stOk_upd hJ hD3 G4.o.ne) (G4.o.same (same_new hD3 _)) (by omega) (fun e y he hy W5 H5 g5 hW5 hD5 o5 Kp Sk hK hS => ?_) fun H5 W5 us3 outs3 g5 o5 hD3' hW5 ho3 hus3 => ?_
  · obtain ⟨d', f1, f2⟩ := dpall_get2 hus4 e2
    rw [List.getElem?_map, e1] at f1
    cases f1
    exact f2
  · exact ⟨rfl, _, rfl, ixT_w 0 g5.i (Dp.up g5.g hy) rfl fun v hv => hK _ v _ W5 rfl (Grow.here g5.i) o5 hv⟩
  have e3 := outs_map ho3
  obtain ⟨g5a, dp3⟩ := view_done g5 hD3' hD3 hW5 hus3
  rw [e3] at dp3
  generalize upd W5 D3 (.lst us3) = U5 at g5a dp3
  have G5 := G4.step g5a o5
  have g25 := g24.trans g5a
  -- scopes
  obtain ⟨oa, ol, rfl, hoa, hol⟩ := dp_list (Dp.up g25.g hxo)
  have hscope := Dp.up g5a.g dp2
  refine ⟨_, rfl, by show 1 ≤ sizeLine; decide, fun p1 hp1 => ⟨_, rfl, ?_⟩⟩
  have q1 := same_new hp1 (.lst [.ref D2])
  have lol := dpall_len hol
  rw [List.length_map] at lol
  refine ⟨p1, oa, _, ol, rfl, rfl, SqL.of upd_same, (Same.trn G5.s q1).seq hoa, by rw [List.length_singleton, sizeLine_eq]; omega, fun p2 hp2 => ?_⟩
  have G5b := G5.up q1
  have G6 := G5b.new hp2 (.lst ([.ref D2] ++ ol))
  have hU2 := same_none G5b.s hp2
  have g26 : Gw st W H (upd U5 p2 (.lst ([.ref D2] ++ ol))) _ := g25.trans ((gw_same G5 q1).trans (Grow.new G5b.s hp2 (.lst ([.ref D2] ++ ol))))
  have hscD : Dp K (upd U5 p2 (.lst ([.ref D2] ++ ol))) (.ref p2) (scD (l.map (·.1.2) :: sc)) := by
    refine .lst (SqL.of upd_same) (DpAll.up (same_new hU2 _) (.cons ?_ hol))
    unfold scnD
    rw [List.map_map]
    exact hscope
  have hnames := Dp.up (same_new hU2 (.lst ([.ref D2] ++ ol))) dp3
  have hscope6 := Dp.up (same_new hU2 (.lst ([.ref D2] ++ ol))) hscope
  generalize upd U5 p2 (.lst ([.ref D2] ++ ol)) = U6 at G6 g26 hscD hnames hscope6
  generalize upd (upd H5 p1 (.lst [.ref D2])) p2 (.lst ([.ref D2] ++ ol)) = H6 at G6 g26 ⊢
  have hl3 : l.length ≤ 3 := by omega
  have hscok : ScOk (l.map (·.1.2) :: sc) := by
    refine ⟨by rw [List.length_cons]; omega, fun scn h => ?_⟩
    rcases List.mem_cons.mp h with z | z
    · rw [z, List.length_map]
      refine ⟨hl3, fun ks hks => ?_⟩
      obtain ⟨e, he, rfl⟩ := List.mem_map.mp hks
      exact (hes.2 e (hle e he)).2
    · exact hsc.2 scn z
  have hsl : ∀ ks ∈ l.map (·.1.2), ks.length ≤ 3 := fun ks hks => ((hscok.2 _ List.mem_cons_self).2 ks hks).1
  have hxs6 := Dp.up g26.g hxs
  have hxk6 := Dp.up g26.g hxk
  have hscope6' : Dp K U6 (.ref D2) (scnD (l.map (·.1.2))) := by
    unfold scnD
    rw [List.map_map]
    exact hscope6
  -- where
  refine ⟨fun σ' H' => ∃ (wv : V) (wh : Option (PyData × Sem)) (U7 : Hp), σ' = [some (.ref st), some xs, some (.ref oa), some (.int dd), some xk, some (.int mm), some (.ref D1), some (.ref D2), some (.ref D3), some (.ref p2), some wv, none, none, none, none, none, none] ∧ Gs K st scr ns U7 H' ∧ Gw st U6 H6 U7 H' ∧ Dp K U7 wv (optD wh) ∧
      (∀ x, wh = some x → RepE tb (es.map (·.1)) (cN d) false (l.map (·.1.2) :: sc) x.1 .cond x.2) ∧ (optD wh).bulk ≤ bc d, ?_, fun σ' H7 ⟨wv, wh, U7, e, G7, g7, hwv, hwE, hwB⟩ => ?_⟩
  · refine ⟨_, rfl, st, scr, ns, U6, 4, rfl, by decide, by decide, G6, fun j H7 hj g7 o7 => ⟨_, _, rfl, rfl, _, rfl, ite2 (fun _ => ?_) (fun _ => ?_)⟩⟩
    · have G7 := G6.step g7 o7
      refine ⟨_, rfl, _, rfl, _, rfl, _, rfl, st, scr, ns, U6, xs, .ref p2, _, dd, rfl, hddn, G7, hxs6, hscD, hscok, (fun z => nomatch z), fun v cd U8 H8 g8 o8 hv hE hB => ?_⟩
      obtain ⟨f, e⟩ := hE
      refine ⟨v, some (cd, f), U8, rfl, G7.step g8 o8, g7.trans g8, hv, fun x hx => ?_, Nat.le_trans hB bdd⟩
      cases hx
      exact e.mono cdd
    · exact ⟨.non, none, U6, rfl, G6.step g7 o7, g7, .non, (fun x hx => nomatch hx), Nat.zero_le _⟩
  subst e
  have hxk7 := Dp.up g7.g hxk6
  have hscD7 := Dp.up g7.g hscD
  have hnames7 := Dp.up g7.g hnames
  -- the items, by any value
  refine ⟨_, rfl, st, scr, ns, U7, 3, rfl, by decide, by decide, G7, fun j H8 hj g8 o8 => ⟨rfl, _, rfl, ite2 (fun _ => ?_) (fun _ => ?_)⟩⟩
  · have G8 := G7.step g8 o8
    obtain ⟨ka, kl, rfl, hka, hkl⟩ := dp_list hxk7
    have hkll : kl.length = kds.length := by rw [dpall_len hkl, List.length_map]
    refine ⟨_, rfl, ka, rfl, ⟨_, G8.s.seq hka⟩, fun D4 hD4 => ?_⟩
    refine lc_view (K := K) (E := fun b => b = st) (V0 := U7) (H := H8) (xs := kl) (as := kds) (Rel := fun k y => y = .str (kdNm k)) (J := fun H => StOk st scr ns H) (R := fun k d => (∃ f, RepE tb (es.map (·.1)) 4 true (l.map (·.1.2) :: sc) d k f) ∧ d.bulk ≤ 228) (N := fun _ => False)
      G8.s hka hkll (fun j c y e1 e2 => ?_) hD4 (fun z => G8.o.ne (by rw [← z]; exact hD4)) (fun H4 o hJ => stOk_upd hJ hD4 G8.o.ne) (G8.o.same (same_new hD4 _)) (by omega) (fun k y hk hy W9 H9 g9 hW9 hD9 o9 Kp Sk hK hS => ?_) fun H9 W9 us4 outs4 g9 o9 hD4' hW9 ho4 hus4 => ?_
    · obtain ⟨d', f1, f2⟩ := dpall_get2 hkl e2
      rw [List.getElem?_map, e1] at f1
      cases f1
      exact dp_str f2
    · subst hy
      have G9 := G8.step g9 o9
      refine ⟨rfl, _, rfl, _, rfl, _, rfl, st, scr, ns, W9, .ref p2, _, k, 1, rfl, by decide, hkc k hk, G9, Dp.up g9.g hscD7, hscok, fun v vd W10 H10 g10 o10 hv hE hB => ?_⟩
      obtain ⟨f, e⟩ := hE true
      exact hK vd v H10 W10 ⟨⟨f, e.mono (by omega)⟩, Nat.le_trans hB (by decide)⟩ g10 o10 hv
    obtain ⟨items, rfl, hki, hit⟩ := outs_items ho4
    obtain ⟨g9a, dp4⟩ := view_done g9 hD4' hD4 hW9 hus4
    generalize upd W9 D4 (.lst us4) = U9 at g9a dp4
    have G9 := G8.step g9a o9
    refine ⟨_, rfl, _, rfl, by show 6 ≤ sizeLine; decide, fun p3 hp3 => ?_⟩
    have il : items.length = kds.length := by rw [hki, List.length_map]
    obtain ⟨fq, fb⟩ := sel_final hes (d := d) (sc := sc) hl3 hle (items := items) (fun z => hk0 (by rw [hki, z]; rfl)) (by omega) (fun x hx => hkc _ (by rw [hki]; exact List.mem_map.mpr ⟨x, hx, rfl⟩)) hit wh hwE hwB none (fun cs hc => nomatch hc) none (fun x hx => nomatch hx) (Nat.zero_le _)
    rw [← hki] at fq
    refine q _ _ _ _ ((g26.trans g7).trans (g8.trans (g9a.trans (Grow.new G9.s hp3 _)))) (o9.same (same_new hp3 _)) (newT_of (same_none G9.s hp3) (.cons (.str _) (.cons dp4 (.cons (Dp.up g9a.g hnames7) (.cons (Dp.up g9a.g hwv) (.cons .non (.cons .non .nil))))))) fq fb
  -- a grouped select
  have G8 := G7.step g8 o8
  dsimp only [tNext, tSeq]
  refine ⟨_, rfl, _, rfl, st, scr, ns, U7, .ref D2, l.map (·.1.2), rfl, G8, Dp.up g7.g hscope6', by rw [List.length_map]; exact hl3, hsl, fun gv cs U9 H9 g9 o9 hgv hcs => ?_⟩
  have G9 := G8.step g9 o9
  have hxk9 := Dp.up g9.g hxk7
  have hscD9 := Dp.up g9.g hscD7
  obtain ⟨ka, kl, rfl, hka, hkl⟩ := dp_list hxk9
  have hkll : kl.length = kds.length := by rw [dpall_len hkl, List.length_map]
  refine ⟨_, rfl, ka, rfl, ⟨_, G9.s.seq hka⟩, fun D4 hD4 => ?_⟩
  refine lc_view (K := K) (E := fun b => b = st) (V0 := U9) (H := H9) (xs := kl) (as := kds) (Rel := fun k y => y = .str (kdNm k)) (J := fun H => StOk st scr ns H) (R := fun k d => (∃ f, RepE tb (es.map (·.1)) 4 true (l.map (·.1.2) :: sc) d k f) ∧ d.bulk ≤ 228) (N := fun _ => False)
    G9.s hka hkll (fun j c y e1 e2 => ?_) hD4 (fun z => G9.o.ne (by rw [← z]; exact hD4)) (fun H4 o hJ => stOk_upd hJ hD4 G9.o.ne) (G9.o.same (same_new hD4 _)) (by omega) (fun k y hk hy W10 H10 g10 hW10 hD10 o10 Kp Sk hK hS => ?_) fun H10 W10 us4 outs4 g10 o10 hD4' hW10 ho4 hus4 => ?_
  · obtain ⟨d', f1, f2⟩ := dpall_get2 hkl e2
    rw [List.getElem?_map, e1] at f1
    cases f1
    exact dp_str f2
  · subst hy
    have G10 := G9.step g10 o10
    refine ⟨rfl, _, rfl, _, rfl, _, rfl, _, rfl, st, scr, ns, W10, .ref p2, gv, _, sc, cs, k, 1, rfl, by decide, hkc k hk, G10, Dp.up g10.g hscD9, hscok, Dp.up g10.g hgv, hcs, fun v vd W11 H11 g11 o11 hv hE hB => ?_⟩
    exact hK vd v H11 W11 ⟨hE, hB⟩ g11 o11 hv
  obtain ⟨items, rfl, hki, hit⟩ := outs_items ho4
  obtain ⟨g10a, dp4⟩ := view_done g10 hD4' hD4 hW10 hus4
  generalize upd W10 D4 (.lst us4) = U10 at g10a dp4
  have G10 := G9.step g10a o10
  have hgv10 := Dp.up g10a.g hgv
  have hscD10 := Dp.up g10a.g hscD9
  have g10all : Gw st W H U10 H10 := (g26.trans g7).trans (g8.trans (g9.trans g10a))
  have hvc : ∀ {V2 : Hp} {Q2 : VK}, Gs K st scr ns U10 V2 → (∀ v vd W' H', Gw st U10 V2 W' H' → StOk st scr ns H' → Dp K W' v vd → (∃ f, RepE tb (es.map (·.1)) 6 true (l.map (·.1.2) :: sc) vd .cond f) → vd.bulk ≤ 708 → Q2 v H') →
      spLH tb (es.map (·.1)) K 2 [.ref st, .ref p2, gv, .int (if (1 : Int) < (dd : Int) then 1 else (dd : Int))] V2 Q2 C8.E0 := fun {V2 Q2} G11 q11 => by
    have e1 : (if (1 : Int) < (dd : Int) then (1 : Int) else (dd : Int)) = ((min dd 1 : Nat) : Int) := by split <;> omega
    rw [e1]
    refine ⟨st, scr, ns, U10, .ref p2, gv, _, sc, cs, min dd 1, rfl, by omega, G11, hscD10, hscok, hgv10, hcs, fun v vd W' H' g o hv hE hB => q11 v vd W' H' g o hv ?_ (Nat.le_trans hB ?_)⟩
    · obtain ⟨f, e⟩ := hE
      exact ⟨f, e.mono (by omega)⟩
    · rcases (by omega : min dd 1 = 0 ∨ min dd 1 = 1) with z | z <;> rw [z] <;> decide
  obtain ⟨ga, gl, rfl, hga, hgl⟩ := dp_list hgv10
  -- having
  refine ⟨fun σ' H' => ∃ (hv : V) (hav : Option (PyData × Sem)) (U11 : Hp), σ' = [some (.ref st), some xs, some (.ref oa), some (.int dd), some (.ref ka), some (.int mm), some (.ref D1), some (.ref D2), some (.ref D3), some (.ref p2), some wv, some (.ref ga), some (.ref D4), some hv, none, none, none] ∧ Gs K st scr ns U11 H' ∧ Gw st U10 H10 U11 H' ∧ Dp K U11 hv (optD hav) ∧
      (∀ x, hav = some x → RepE tb (es.map (·.1)) 6 true (l.map (·.1.2) :: sc) x.1 .cond x.2) ∧ (optD hav).bulk ≤ 708, ?_, fun σ' H11 ⟨hv, hav, U11, e, G11, g11, hhv, hhE, hhB⟩ => ?_⟩
  · have fin : ∀ {V2 : Hp} {v : V} {vd : PyData} {W' H' : Hp}, Gw st U10 H10 U10 V2 → Gs K st scr ns U10 V2 → Gw st U10 V2 W' H' → StOk st scr ns H' → Dp K W' v vd → (∃ f, RepE tb (es.map (·.1)) 6 true (l.map (·.1.2) :: sc) vd .cond f) → vd.bulk ≤ 708 → _ := fun {V2 v vd W' H'} ga' GV g o hv hE hB =>
      (show ∃ (hv : V) (hav : Option (PyData × Sem)) (U11 : Hp), [some (.ref st), some xs, some (.ref oa), some (.int dd), some (.ref ka), some (.int mm), some (.ref D1), some (.ref D2), some (.ref D3), some (.ref p2), some wv, some (.ref ga), some (.ref D4), some v, none, none, none] = [some (.ref st), some xs, some (.ref oa), some (.int dd), some (.ref ka), some (.int mm), some (.ref D1), some (.ref D2), some (.ref D3), some (.ref p2), some wv, some (.ref ga), some (.ref D4), some hv, none, none, none] ∧ Gs K st scr ns U11 H' ∧ Gw st U10 H10 U11 H' ∧ Dp K U11 hv (optD hav) ∧
          (∀ x, hav = some x → RepE tb (es.map (·.1)) 6 true (l.map (·.1.2) :: sc) x.1 .cond x.2) ∧ (optD hav).bulk ≤ 708 from by
        obtain ⟨f, e⟩ := hE
        refine ⟨v, some (vd, f), W', rfl, GV.step g o, ga'.trans g, hv, fun x hx => ?_, hB⟩
        cases hx
        exact e)
    refine ⟨_, rfl, _, .inl ⟨gl, G10.s.seq hga, rfl⟩, ite2 (fun h1 => ?_) (fun h1 => ?_)⟩
    · refine iteTd rfl ⟨_, rfl, _, rfl, _, rfl, _, rfl, _, _, rfl, hvc G10 fun v vd W' H' g o hv hE hB => ?_⟩
      exact fin (Grow.here G10.s) G10 g o hv hE hB
    · refine ⟨_, rfl, st, scr, ns, U10, 2, rfl, by decide, by decide, G10, fun j H11 hj g11 o11 => ⟨rfl, _, rfl, ite2 (fun _ => ?_) (fun _ => ?_)⟩⟩
      · have G11 := G10.step g11 o11
        refine ⟨_, rfl, _, rfl, _, rfl, _, rfl, _, _, rfl, hvc G11 fun v vd W' H' g o hv hE hB => ?_⟩
        exact fin g11 G11 g o hv hE hB
      · exact ⟨.non, none, U10, rfl, G10.step g11 o11, g11, .non, (fun x hx => nomatch hx), Nat.zero_le _⟩
  subst e
  refine ⟨_, rfl, _, rfl, _, rfl, _, rfl, _, rfl, by show 6 ≤ sizeLine; decide, fun p3 hp3 => ?_⟩
  have il : items.length = kds.length := by rw [hki, List.length_map]
  obtain ⟨fq, fb⟩ := sel_final hes (d := d) (sc := sc) hl3 hle (items := items) (fun z => hk0 (by rw [hki, z]; rfl)) (by omega) (fun x hx => hkc _ (by rw [hki]; exact List.mem_map.mpr ⟨x, hx, rfl⟩)) hit wh hwE hwB (some cs) (fun cs' hc => by cases hc; exact hcs) hav hhE hhB
  rw [← hki] at fq
  have up9 := Same.trn g9.g (Same.trn g10a.g g11.g)
  exact q _ _ _ _ (g10all.trans (g11.trans (Grow.new G11.s hp3 _))) (G11.o.same (same_new hp3 _)) (newT_of (same_none G11.s hp3) (.cons (.str _) (.cons (Dp.up g11.g dp4) (.cons (Dp.up up9 hnames7) (.cons (Dp.up up9 hwv) (.cons (Dp.up g11.g hgv10) (.cons hhv .nil))))))) fq fb
end
end K23

set_option Elab.async false
set_option linter.all false
set_option maxRecDepth 100000
set_option maxHeartbeats 4000000
/-! K23zg: questions; the generator, all depths. -/
namespace K23
open PySem PySem.Spec PyProof.Rows L2

theorem RepQ.mono {tb : Str → List Row} {sch : List (Str × List Kd)} {n n' m : Nat} {sc : Sc} {d : PyData} {ks : List Kd} {q : Lv → List Row} (h : n ≤ n') (e : RepQ tb sch n m sc d ks q) : RepQ tb sch n' m sc d ks q := by
  cases e with
  | sel items srcs wh grp hav h0 hm hs hl hne hil hik hi hw hg hh => exact .sel items srcs wh grp hav (by omega) hm hs hl hne hil hik hi hw hg hh
  | uni h0 hm h11 e1 e2 => exact .uni (by omega) hm h11 e1 e2
  | exc h0 hm h11 e1 e2 => exact .exc (by omega) hm h11 e1 e2
  | int h0 hm h11 e1 e2 => exact .int (by omega) hm h11 e1 e2
theorem setop {tb : Str → List Row} {sch : List (Str × List Kd)} {n m1 m2 m : Nat} {sc : Sc} {d1 d2 : PyData} {ks : List Kd} {q1 q2 : Lv → List Row} {i : Nat} {v : V} (h : ([.str "union", .str "except", .str "intersect"] : List V)[i]? = some v) (hm : m1 + m2 ≤ m) (h11 : m ≤ 11)
    (e1 : RepQ tb sch n m1 sc d1 ks q1) (e2 : RepQ tb sch n m2 sc d2 ks q2) : ∃ nm : Str, v = .str nm ∧ nm.cps.size ≤ 9 ∧ ∃ q, RepQ tb sch (n + 1) m sc (.tuple [.str nm, d1, d2]) ks q := by
  match i, h with
  | 0, h => exact ⟨"union", (Option.some.inj h).symm, by decide, _, .uni (Nat.lt_succ_self _) hm h11 e1 e2⟩
  | 1, h => exact ⟨"except", (Option.some.inj h).symm, by decide, _, .exc (Nat.lt_succ_self _) hm h11 e1 e2⟩
  | 2, h => exact ⟨"intersect", (Option.some.inj h).symm, by decide, _, .int (Nat.lt_succ_self _) hm h11 e1 e2⟩
  | i + 3, h => simp at h
section
variable {tb : Str → List Row} {es : Ents} {P : Program} {w : World} {K : PySem.W.Frag} {mg : Str → Option Value} {base : Heap}
theorem ok_law_question (Z : Glb mg) (D : DefN K mg "_law_question" 31) {n : Nat} (c__law_take : C8.Cal P w K mg base 1 "_law_take" (spTake K) []) (c__law_select : C8.Cal P w K mg base (3 * n + 14) "_law_select" (spSelG tb es K n) []) :
    C8.Cal P w K mg base (3 * n + 14 + 1) "_law_question" (spQst tb es K n) [] := by
  have S : FnScope ["_law_state_here", "_law_schema_here", "_law_outer", "_law_depth", "_law_kinds_here", "_law_tree", "_law_n", "_law_op"] ["_law_state_here", "_law_schema_here", "_law_outer", "_law_depth", "_law_kinds_here"] (C8.fnScope (top 31)) := C8.fnScope_by (by decide +kernel)
  refine cal_of D S (fun _ _ _ _ _ _ us hl => match us, hl with | [_, _, _, _, _], _ => rfl) (fun vs H Q E h => ?_) fun f cdv A outer s H vs Q E hr h => ?_
  · obtain ⟨st, scr, ns, W, xs, xo, xk, sc, kds, d, rfl, _⟩ := h
    rfl
  obtain ⟨st, scr, ns, W, xs, xo, xk, sc, kds, d, rfl, hd, G, hxs, hxo, hsc, hs2, hxk, hk0, hk3, hkc, q⟩ := h
  refine ⟨_, (pss_cons (ps_set (i := 5) S.nd rfl (by first | exact .inl rfl | exact .inr rfl) (C8.pe_c c__law_select hr (by omega) rfl (pa_cons (pv 0) (pa_cons (pv 1) (pa_cons (pv 2) (pa_cons (pv 3) (pa_cons (pv 4) pa_nilA)))))))
    (pss_cons (ps_for PassesOwn.never rfl (pi_range1 (by rfl) Z.range (pa_cons (pe_op (op_sub) pe_intA (pe_op (op_mul) pe_intA (pe_callTy (T := "int") (cr_int1) (by rfl) Z.int (by decide +kernel) (pa_cons (pe_cmpR (op_gt) (pe_callB (id := "len") (cr_len (K := K)) (by rfl) Z.len (by decide +kernel) (pa_cons (pv 2) pa_nilA)) pe_intA (nomark _)) pa_nilA)))) pa_nilA)) (pg_name (i := 6) S.nd rfl (by first | exact .inl rfl | exact .inr rfl))
      (pss_cons (ps_if (pt_cmpR (op_ne) (C8.pe_c c__law_take hr (by omega) rfl (pa_cons (pv 0) (pa_cons pe_intA pa_nilA))) pe_intA (nomark _))
      (pss_one (ps_ret (pv 5)))
      pss_nil)
    (pss_cons (ps_set (i := 7) S.nd rfl (by first | exact .inl rfl | exact .inr rfl) (pe_ix (ix_listK (K := K)) (pe_lst (pa_cons pe_strA (pa_cons pe_strA (pa_cons pe_strA pa_nilA)))) (C8.pe_c c__law_take hr (by omega) rfl (pa_cons (pv 0) (pa_cons pe_intA pa_nilA))) (fun _ _ => rfl)))
    (pss_one (ps_set (i := 5) S.nd rfl (by first | exact .inl rfl | exact .inr rfl) (pe_tup (pa_cons (pv 7) (pa_cons (pv 5) (pa_cons (C8.pe_c c__law_select hr (by omega) rfl (pa_cons (pv 0) (pa_cons (pv 1) (pa_cons (pv 2) (pa_cons (pv 3) (pa_cons (pv 4) pa_nilA)))))) pa_nilA)))))))))
    (pss_one (ps_ret (pv 5))))), ?_⟩
  have sel : ∀ {U V2 : Hp} {Q2 : VK}, Gs K st scr ns U V2 → Same W U → (∀ v dd W' H', Gw st U V2 W' H' → StOk st scr ns H' → Dp K W' v dd → (∃ q, RepQ tb (es.map (·.1)) (cN d + 4) 1 sc dd kds q) → dd.bulk ≤ bs d → Q2 v H') → spSelG tb es K n [.ref st, xs, xo, .int d, xk] V2 Q2 C8.E0 := fun {U V2 Q2} GU s q2 =>
    ⟨st, scr, ns, U, xs, xo, xk, sc, kds, d, rfl, hd, GU, Dp.up s hxs, Dp.up s hxo, hsc, hs2, Dp.up s hxk, hk0, hk3, hkc, q2⟩
  refine ⟨_, rfl, _, rfl, _, rfl, _, rfl, _, rfl, sel G Same.rfl' fun v1 d1 W1 H1 g1 o1 hv1 hE1 hB1 => ?_⟩
  have G1 := G.step g1 o1
  refine ⟨_, rfl, len_d (Dp.up (Same.trn g1.g G1.s) hxo) ⟨_, _, rfl, rfl, .inr ⟨_, rfl, _, _, rfl, rfl, .inl ⟨by decide, by decide⟩, _, _, rfl, rfl, _, rfl, by split <;> omega, by split <;> omega, ?_⟩⟩⟩
  obtain ⟨mm, hmm, hm3, hmc⟩ : ∃ mm : Nat, ((3 : Int) - 2 * (if decide ((0 : Int) < (((sc.map scnD).length : Nat) : Int)) = true then 1 else 0)).toNat = mm ∧ mm ≤ 3 ∧ (sc ≠ [] → mm ≤ 1) := by
    cases sc with
    | nil => exact ⟨3, rfl, Nat.le_refl _, fun z => absurd rfl z⟩
    | cons a l =>
      refine ⟨1, ?_, by decide, fun _ => Nat.le_refl _⟩
      rw [if_pos (decide_eq_true (by rw [List.map_cons, List.length_cons]; omega))]
      rfl
  rw [hmm]
  -- what is handed back after i operators
  have fin : ∀ {i : Nat} {v : V} {dd : PyData} {W' H' : Hp}, i ≤ mm → Gw st W H W' H' → StOk st scr ns H' → Dp K W' v dd → (∃ q, RepQ tb (es.map (·.1)) (cN d + 4 + i) (1 + i) sc dd kds q) → dd.bulk ≤ (i + 1) * bs d + 12 * i → Q v H' := fun {i v dd W' H'} hi g o hv hE hB => by
    obtain ⟨q1, e⟩ := hE
    refine q v dd W' H' g o hv ⟨_, q1, e.mono (by omega)⟩ (Nat.le_trans hB ?_)
    by_cases z : sc = []
    · rw [if_pos z]
      have : (i + 1) * bs d ≤ 4 * bs d := Nat.mul_le_mul_right _ (by omega)
      omega
    · rw [if_neg z]
      have h1 := hmc z
      have : (i + 1) * bs d ≤ 2 * bs d := Nat.mul_le_mul_right _ (by omega)
      omega
  refine for_range (n := mm) (fun i σ H' => ∃ a6 a7 v dd W', σ = [some (.ref st), some xs, some xo, some (.int d), some xk, some v, a6, a7] ∧ Gs K st scr ns W' H' ∧ Gw st W H W' H' ∧ Dp K W' v dd ∧ (∃ q, RepQ tb (es.map (·.1)) (cN d + 4 + i) (1 + i) sc dd kds q) ∧ dd.bulk ≤ (i + 1) * bs d + 12 * i)
    ⟨none, none, v1, d1, W1, rfl, G1, g1, hv1, hE1, by omega⟩ (fun i σ H2 hi ⟨a6, a7, v, dd, W2, e, G2, g2, hv, hE, hB⟩ => ?_) fun σ H2 ⟨a6, a7, v, dd, W2, e, G2, g2, hv, hE, hB⟩ => ?_
  · subst e
    refine ⟨_, rfl, st, scr, ns, W2, 4, rfl, by decide, by decide, G2, fun j H3 hj g3 o3 => ⟨rfl, _, rfl, ite2 (fun _ => ?_) (fun _ => ?_)⟩⟩
    · exact ⟨_, rfl, fin (Nat.le_of_lt hi) (g2.trans g3) o3 hv hE hB⟩
    · have G3 := G2.step g3 o3
      refine ⟨by show 3 ≤ sizeLine; decide, fun p hp => ⟨_, rfl, ?_⟩⟩
      refine pick_new (items := [.str "union", .str "except", .str "intersect"]) G3 hp fun k vo H4 hk g4 o4 => ?_
      have G4 := G3.step g4 o4
      obtain ⟨q1, e1⟩ := hE
      have vstr : ∃ nm : Str, vo = .str nm := by
        match k, hk with
        | 0, hk => exact ⟨_, (Option.some.inj hk).symm⟩
        | 1, hk => exact ⟨_, (Option.some.inj hk).symm⟩
        | 2, hk => exact ⟨_, (Option.some.inj hk).symm⟩
        | k + 3, hk => simp at hk
      refine ⟨_, rfl, _, rfl, _, rfl, _, rfl, _, rfl, _, rfl, _, rfl, sel G4 g2.g fun v2 d2 W5 H5 g5 o5 hv2 hE2 hB2 => ⟨by show 3 ≤ sizeLine; decide, fun p2 hp2 => ?_⟩⟩
      have G5 := G4.step g5 o5
      obtain ⟨q2, e2⟩ := hE2
      obtain ⟨nm, rfl, hnm, q3, e3⟩ := setop (m := 1 + (i + 1)) hk (by omega) (by omega) e1 (e2.mono (show cN d + 4 ≤ cN d + 4 + i by omega))
      refine ⟨_, _, _, .tuple [.str nm, dd, d2], _, rfl, G5.new hp2 _, (g2.trans g3).trans (g4.trans (g5.trans (Grow.new G5.s hp2 _))), newT_of (same_none G5.s hp2) (.cons (.str _) (.cons (Dp.up g5.g hv) (.cons hv2 .nil))), ⟨q3, e3⟩, ?_⟩
      have h7 : (i + 1 + 1) * bs d = (i + 1) * bs d + bs d := Nat.succ_mul _ _
      simp only [PyData.bulk, PyData.bulkAll]
      omega
  · subst e
    exact ⟨_, rfl, fin (Nat.le_refl _) g2 G2.o hv hE hB⟩
/-- the generator's defs -/
structure GDefs (K : PySem.W.Frag) (mg : Str → Option Value) : Prop where
  Z : Glb mg
  take : DefN K mg "_law_take" 18
  datum : DefN K mg "_law_datum" 20
  constant : DefN K mg "_law_constant" 21
  cells : DefN K mg "_law_cells" 22
  value : DefN K mg "_law_value" 23
  comparison : DefN K mg "_law_comparison" 24
  condition : DefN K mg "_law_condition" 25
  kinds : DefN K mg "_law_kinds" 26
  group_value : DefN K mg "_law_group_value" 27
  having : DefN K mg "_law_having" 28
  group : DefN K mg "_law_group" 29
  select : DefN K mg "_law_select" 30
  question : DefN K mg "_law_question" 31
theorem gen_all (hes : EntsOk es) (Y : GDefs K mg) : ∀ n : Nat, C8.Cal P w K mg base (3 * n + 13) "_law_condition" (spCond tb es K n) [] ∧ C8.Cal P w K mg base (3 * n + 15) "_law_question" (spQst tb es K n) [] := by
  have t1 := ok_law_take (P := P) (w := w) (base := base) Y.Z Y.take
  have d2 := ok_law_datum Y.Z Y.datum t1
  have k3 := ok_law_constant (tb := tb) (sch := es.map (·.1)) Y.Z Y.constant d2
  have c1 := ok_law_cells (P := P) (w := w) (base := base) Y.Z Y.cells
  have v6 := law_value_all Y.Z Y.value t1 c1 k3 2
  have cmp := ok_law_comparison Y.Z Y.comparison t1 v6
  have kn := ok_law_kinds Y.Z Y.kinds t1
  have gv := law_group_value_all Y.Z Y.group_value t1 c1 k3 v6 2
  have hv := law_having_all Y.Z Y.having t1 gv 2
  have gr := ok_law_group (K := K) Y.Z Y.group t1
  have step : ∀ n, C8.Cal P w K mg base (3 * n + 13) "_law_condition" (spCond tb es K n) [] → C8.Cal P w K mg base (3 * n + 15) "_law_question" (spQst tb es K n) [] := fun n h =>
    ok_law_question Y.Z Y.question t1 (ok_law_select hes Y.Z Y.select t1 gr v6 gv hv h)
  intro n
  induction n with
  | zero =>
    have h0 : C8.Cal P w K mg base 13 "_law_condition" (spCond tb es K 0) [] := by
      refine cal_of (k := 12) Y.condition (N := ["_law_state_here", "_law_schema_here", "_law_scopes", "_law_depth", "_law_pick", "_law_left"]) (ps := ["_law_state_here", "_law_schema_here", "_law_scopes", "_law_depth"]) (C8.fnScope_by (by decide +kernel)) (fun _ _ _ _ _ _ us hl => match us, hl with | [_, _, _, _], _ => rfl) (fun vs H Q E h => ?_) fun fa cdv A outer s H vs Q E hr h => none_body ?_
      · obtain ⟨st, scr, ns, W, xs, x, sc, d, rfl, _⟩ := h
        rfl
      · obtain ⟨st, scr, ns, W, xs, x, sc, d, rfl, hd, _⟩ := h
        omega
    exact ⟨h0, step 0 h0⟩
  | succ n ih =>
    have h1 := ok_law_condition Y.Z Y.condition t1 kn cmp ih.1 ih.2
    exact ⟨h1, step (n + 1) h1⟩
end
end K23

set_option Elab.async false
set_option linter.all false
set_option maxRecDepth 100000
set_option maxHeartbeats 4000000
/-! K23zh: the drawn rows; the schema. -/
namespace K23
open PySem PySem.Spec PyProof.Rows L2

def rSortS2 (K : PySem.W.Frag) (P : Program) (w : World) : List V → Hp → VK → Prop := fun vs H Q => ∃ (a : Addr) (L : List (Addr × Row)) (ks : List Kd) (S : Addr → Row → Prop), vs = [V.ref a] ∧ H a = some (SetHO P w a L) ∧ (∀ b r, S b r → SqT K H b (r.map kV)) ∧ (∀ p ∈ L, S p.1 p.2) ∧
  (∀ p ∈ L, RowK ks p.2) ∧ (ks ≠ [] ∨ L.length ≤ 1) ∧ ∀ (L' : List (Addr × Row)) (p : Addr), (∀ q ∈ L', S q.1 q.2) → L'.map (·.2) = sortR (L.map (·.2)) → H p = none → Q (.ref p) (upd H p (.lst (L'.map fun q => V.ref q.1)))
theorem cr_sortS2 {X : Cx} (hc : X.calm = true) (hu : X.A.units + 8 < cLine) : CallR X (.builtin "sorted") (rSortS2 X.K X.prog X.w) := by
  intro pins s σ H vs us Q I r h
  obtain ⟨a, L, ks, S, rfl, ha, hS, hkS, hK, hne, q⟩ := h
  have hk : ∀ p ∈ L, SqT X.K H p.1 (p.2.map kV) := fun p hp => hS _ _ (hkS p hp)
  obtain ⟨es, ep, t, ob, rows, tab, nd, led, room⟩ : Set0 X.prog X.w s.heap a L := (I.hok a _ ha).1
  have R : SetR X.prog X.w s.heap a L es ep t := ⟨ob, rows, tab, nd, fun p hp => row_at I (hk p hp), led, room⟩
  obtain ⟨o, ho, hex, hd⟩ := ob
  have hfew := R.few
  have hsz := rows_size rows
  rw [Vals.ref1 r]
  refine Calls.call_function_entry kind_sorted plain_sorted entry_sorted (args_sorted1 _) ?_
  unfold Builtin.«sorted»
  refine wpAny_bind (m := checkCount "sorted" 1 1 _) (wpAny_pure ?_)
  refine wpAny_bind (collect_set (A := X.A.in1) (I.ok.hd hc) ⟨o, ho, hex.1, hd⟩ R.fits (by unfold scanBound; omega) R.tab.up R.led fun s1 vs k1 hz g1 o1 pm => ?_)
  have hes : es.toList.map (·.2) = L.map fun q => Value.ref q.1 := by
    rw [rows, rowsAt, List.map_map] <;> rfl
  rw [hes] at pm
  obtain ⟨L1, e1, p1⟩ := perm_lift pm L rfl
  subst e1
  have l1 := p1.length_eq
  refine wpAny_bind (wpAny_newList ?_ (by rw [List.length_map, sizeLine_eq]; omega))
  refine wpAny_bind (wpAny_holding (wpAny_mono (sort_new (S := S) hS (L := L1) (ks := ks) (Q := Q) I k1 hz g1 o1 (fun q hq => hkS q (p1.mem_iff.mp hq)) (fun q hq => hK q (p1.mem_iff.mp hq)) (hne.imp id fun z => by omega) ((p1.map (·.2)).nodup_iff.mpr nd) (by omega) (by show X.A.units + 1 + 2 < cLine; omega) fun L' p h1 h2 hn => q L' p h1 ?_ hn) (fun u s' hs => ?_) fun _ _ z => z))
  · rw [h2]
    exact up_ext (up_sortR _) (up_sortR _) fun y => by rw [mem_sortR, mem_sortR, (p1.map (·.2)).mem_iff]
  · exact wpAny_pure ⟨_, rfl, hs⟩

def spDrawn (K : PySem.W.Frag) : Sp := fun vs H Q _ => ∃ (st scr : Addr) (ns : List Int) (W : Hp) (xk : V) (kds : List Kd), vs = [.ref st, xk, .int 3] ∧ Gs K st scr ns W H ∧ Dp K W xk (ksD kds) ∧ kds ≠ [] ∧ kds.length ≤ 3 ∧ (∀ k ∈ kds, k ≠ Kd.cond) ∧
  ∀ v rs W' H', Gw st W H W' H' → StOk st scr ns H' → Dp K W' v (rowsD rs) → (∀ r ∈ rs, RowK kds r) → rs.length ≤ 3 → Q v H'
theorem nodup_le : ∀ {l m : List Row}, l.Nodup → (∀ x ∈ l, x ∈ m) → l.length ≤ m.length
  | [], _, _, _ => Nat.zero_le _
  | a :: l, m, h, s => by
    obtain ⟨h1, h2⟩ := List.nodup_cons.mp h
    have ha := s a List.mem_cons_self
    have h3 := nodup_le (l := l) (m := m.filter fun x => !decide (x = a)) h2 fun x hx => List.mem_filter.mpr ⟨s x (List.mem_cons_of_mem _ hx), by
      have : x ≠ a := fun e => h1 (by rw [← e]; exact hx)
      simp [this]⟩
    have h4 : (m.filter fun x => !decide (x = a)).length < m.length := List.length_filter_lt_length_iff_exists.mpr ⟨a, ha, by simp⟩
    rw [List.length_cons]
    omega
theorem outs_row : ∀ {l : List Kd} {o : List PyData}, Outs (fun k d => ∃ key : Key, HasK k (kV key) ∧ d = keyD key) (fun _ => False) l o → (∀ k ∈ l, k ≠ Kd.cond) → ∃ r : Row, o = r.map keyD ∧ RowK l r
  | _, _, .nil, _ => ⟨[], rfl, .nil⟩
  | _, _, .keep h t, hk => by
    obtain ⟨key, h1, rfl⟩ := h
    obtain ⟨r, rfl, h3⟩ := outs_row t fun k hm => hk k (List.mem_cons_of_mem _ hm)
    exact ⟨key :: r, rfl, .cons ⟨hk _ List.mem_cons_self, h1⟩ h3⟩
  | _, _, .skip h _, _ => h.elim
section
variable {P : Program} {w : World} {K : PySem.W.Frag} {mg : Str → Option Value} {base : Heap}
theorem ok_law_drawn_rows (Z : Glb mg) (D : DefN K mg "_law_drawn_rows" 39) (c__law_take : C8.Cal P w K mg base 1 "_law_take" (spTake K) []) (c__law_datum : C8.Cal P w K mg base 2 "_law_datum" (spDatum K) []) : C8.Cal P w K mg base 3 "_law_drawn_rows" (spDrawn K) [] := by
  have S : FnScope ["_law_state_here", "_law_kinds_here", "_law_most", "_law_rows_here", "_law_n", "_law_kind"] ["_law_state_here", "_law_kinds_here", "_law_most"] (C8.fnScope (top 39)) := C8.fnScope_by (by decide +kernel)
  refine cal_of D S (fun _ _ _ _ _ _ us hl => match us, hl with | [_, _, _], _ => rfl) (fun vs H Q E h => ?_) fun f cdv A outer s H vs Q E hr h => ?_
  · obtain ⟨st, scr, ns, W, xk, kds, rfl, _⟩ := h
    rfl
  obtain ⟨st, scr, ns, W, xk, kds, rfl, G, hxk, hk0, hk3, hkc, q⟩ := h
  refine ⟨_, (pss_cons (ps_set (i := 3) S.nd rfl (by first | exact .inl rfl | exact .inr rfl) (pe_lst pa_nilA))
    (pss_cons (ps_for PassesOwn.never rfl (pi_range1 (by rfl) Z.range (pa_cons (C8.pe_c c__law_take hr (by omega) rfl (pa_cons (pv 0) (pa_cons (pe_op (op_add) (pv 2) pe_intA) pa_nilA))) pa_nilA)) (pg_name (i := 4) S.nd rfl (by first | exact .inl rfl | exact .inr rfl))
      (pss_one (ps_expr (pe_bm PySem.F.plainAttrs_list PySem.F.slot_list_append PySem.F.type_list_append mt_append (pv 3) (pa_cons (pe_callTy (T := "tuple") (cr_tupOf (K := K)) (by rfl) Z.tuple (by decide +kernel) (pa_cons (pe_lc (own := [("_law_kind", 5)]) (g := gName 5) (by rfl) S.nd (pi_listK (K := K) (pv 1)) (blkOk_by (own := [("_law_kind", 5)]) (N := ["_law_state_here", "_law_kinds_here", "_law_most", "_law_rows_here", "_law_n", "_law_kind"]) (sc := C8.fnScope (top 39)) (by decide +kernel)) (fun _ _ _ _ _ => pg_name (i := 5) S.nd rfl (by first | exact .inl rfl | exact .inr rfl)) (fun _ _ _ _ _ => pts_nil) (fun _ _ _ _ _ => (C8.pe_c c__law_datum hr (by omega) rfl (pa_cons (pv 0) (pa_cons (pv 5) pa_nilA))))) pa_nilA)) pa_nilA)))))
    (pss_one (ps_ret (pe_callB (id := "sorted") (cr_sortS2 rfl (HU hr)) (by rfl) Z.sorted (by decide +kernel) (pa_cons (pe_callTy (T := "set") (cr_setR rfl (HU hr)) (by rfl) Z.set (by decide +kernel) (pa_cons (pv 3) pa_nilA)) pa_nilA)))))), ?_⟩
  refine ⟨by show 0 ≤ sizeLine; decide, fun p hp => ?_⟩
  have s1 := same_new hp (.lst [])
  have pst : p ≠ st := fun z => G.o.ne (by rw [← z]; exact hp)
  have G0 := G.up s1
  refine ⟨_, rfl, _, rfl, _, _, rfl, rfl, st, scr, ns, W, 3 + 1, rfl, by decide, by decide, G0, fun i H1 hi g1 o1 => ⟨_, rfl, by omega, by omega, ?_⟩⟩
  have h0 : ((i : Nat) : Int).toNat = i := Int.toNat_natCast i
  rw [h0]
  have G1 := G0.step g1 o1
  refine for_range (n := i) (fun j σ H' => ∃ a4 L zs U, σ = [some (.ref st), some xk, some (.int 3), some (.ref p), a4, none] ∧ Gs K st scr ns U H' ∧ Gw st W H U H' ∧ U p = none ∧ H' p = some (.lst zs) ∧ zs = (L.map fun q : Addr × Row => V.ref q.1) ∧ (∀ q ∈ L, SqT K U q.1 (q.2.map kV)) ∧ (∀ q ∈ L, RowK kds q.2) ∧ L.length ≤ j)
    ⟨none, [], [], W, rfl, G1, (gw_same G s1).trans g1, same_none G.s hp, g1.k _ _ upd_same pst, rfl, (fun q h => nomatch h), (fun q h => nomatch h), Nat.le_refl _⟩ (fun j σ H' hj ⟨a4, L, zs, U, e, G2, g2, hU, hzs, hz, hL, hR, hlen⟩ => ?_) fun σ H' ⟨a4, L, zs, U, e, G2, g2, hU, hzs, hz, hL, hR, hlen⟩ => ?_
  · subst e
    refine ⟨_, rfl, .inl ⟨rfl, _, SqL.of hzs⟩, ?_⟩
    obtain ⟨ka, kl, rfl, hka, hkl⟩ := dp_list (Dp.up g2.g hxk)
    have hkll : kl.length = kds.length := by rw [dpall_len hkl, List.length_map]
    refine ⟨_, rfl, ka, rfl, ⟨_, G2.s.seq hka⟩, fun D4 hD4 => ?_⟩
    refine lc_view (K := K) (E := fun b => b = st) (V0 := U) (H := H') (xs := kl) (as := kds) (Rel := fun k y => y = .str (kdNm k)) (J := fun H => StOk st scr ns H) (R := fun k d => ∃ key : Key, HasK k (kV key) ∧ d = keyD key) (N := fun _ => False)
      G2.s hka hkll (fun j c y e1 e2 => ?_) hD4 (fun z => G2.o.ne (by rw [← z]; exact hD4)) (fun H4 o hJ => stOk_upd hJ hD4 G2.o.ne) (G2.o.same (same_new hD4 _)) (by omega) (fun k y hk hy W9 H9 g9 hW9 hD9 o9 Kp Sk hK hS => ?_) fun H9 W9 us4 outs4 g9 o9 hD4' hW9 ho4 hus4 => ?_
    · obtain ⟨d', f1, f2⟩ := dpall_get2 hkl e2
      rw [List.getElem?_map, e1] at f1
      cases f1
      exact dp_str f2
    · subst hy
      have G9 := G2.step g9 o9
      refine ⟨rfl, _, rfl, _, rfl, st, scr, ns, W9, k, rfl, hkc k hk, G9, fun key H10 hkey g10 o10 => ?_⟩
      exact hK (keyD key) _ H10 W9 ⟨key, hkey, rfl⟩ g10 o10 (key_dp key)
    obtain ⟨r, rfl, hr⟩ := outs_row ho4 hkc
    have hys := dpall_keys hus4
    subst hys
    have G9 := G2.step g9 o9
    refine ⟨D4, _, rfl, .inl ⟨SqL.of hD4', fun l hl => ?_⟩⟩
    have hz9 := g9.k _ _ hzs pst
    have pl : p ≠ l := fun z => by
      rw [← z, hz9] at hl
      cases hl
    have g10 := (g2.trans g9).trans (Grow.new G9.s hl (.tup (r.map kV)))
    have G10 := G9.new hl (.tup (r.map kV))
    have hU9 : W9 p = none := g9.f p (by rw [hzs]; exact fun z => nomatch z) hU
    have hU10 : upd W9 l (.tup (r.map kV)) p = none := by
      rw [upd_ne pl]
      exact hU9
    have gm := Gw.mut g10 hp hU10 (.lst (zs ++ [.ref l]))
    refine ⟨p, zs, .ref l, rfl, rfl, by rw [upd_ne pl]; exact hz9, by rw [hz, List.length_map, sizeLine_eq]; omega, _, L ++ [(l, r)], _, _, rfl, ⟨gm.i, G10.n, G10.l, stOk_upd G10.o hp G.o.ne⟩, gm, hU10, upd_same, by rw [hz, List.map_append]; rfl, fun q hq => ?_, fun q hq => ?_, by rw [List.length_append, List.length_singleton]; omega⟩
    · rcases List.mem_append.mp hq with h | h
      · exact same_t (Same.trn g9.g (same_new (same_none G9.s hl) _)) (hL q h)
      · rw [List.mem_singleton.mp h]
        exact .inl (.inl upd_same)
    · rcases List.mem_append.mp hq with h | h
      · exact hR q h
      · rw [List.mem_singleton.mp h]
        exact hr
  · subst e
    have hL3 : L.length ≤ 3 := by omega
    refine ⟨_, rfl, p, L, rfl, ?_, fun q hq => same_t G2.s (hL q hq), by omega, fun a L2 ha h1 h2 hnd => ?_⟩
    · rw [← hz]
      exact SqL.of hzs
    · have s2 := same_new ha (SetHO P w a L2)
      refine ⟨a, L2, kds, fun b r => SqT K U b (r.map kV), rfl, upd_same, fun b r h => same_t (Same.trn G2.s s2) h, fun q hq => hL q (h1 q hq), fun q hq => hR q (h1 q hq), .inl hk0, fun L3 p3 h3 h4 hp3 => ?_⟩
      have G3 := G2.up s2
      refine q _ (L3.map (·.2)) _ _ (g2.trans ((gw_same G2 s2).trans (Grow.new G3.s hp3 _))) (G3.o.same (same_new hp3 _)) ?_ (fun r hr => ?_) ?_
      · refine .lst (SqL.of upd_same) (DpAll.up (same_new (same_none G3.s hp3) _) ?_)
        exact addr_rows fun q hq => h3 q hq
      · rw [h4, mem_sortR] at hr
        obtain ⟨y, hy, rfl⟩ := List.mem_map.mp hr
        exact hR y (h1 y hy)
      · rw [h4]
        refine Nat.le_trans (sortR_len _) ?_
        rw [List.length_map]
        have : (L2.map (·.2)).length ≤ (L.map (·.2)).length := nodup_le hnd fun r hr => by
          obtain ⟨y, hy, rfl⟩ := List.mem_map.mp hr
          exact List.mem_map.mpr ⟨y, h1 y hy, rfl⟩
        rw [List.length_map, List.length_map] at this
        omega
end
end K23

set_option Elab.async false
set_option linter.all false
set_option maxRecDepth 100000
set_option maxHeartbeats 4000000
/-! K23zi: the schema. -/
namespace K23
open PySem PySem.Spec PyProof.Rows L2

def NamesOk (a b c : Str) : Prop := a ≠ b ∧ a ≠ c ∧ b ≠ c ∧ (a.cps.size ≤ 5 ∧ b.cps.size ≤ 5 ∧ c.cps.size ≤ 5) ∧ TxOk a ∧ TxOk b ∧ TxOk c
def txB (s : Str) : Bool := decide (s.length ≤ 40) && s.cps.toList.all fun c => decide (c < 128)
theorem txB_ok {s : Str} (h : txB s = true) : TxOk s := by
  unfold txB at h
  rw [Bool.and_eq_true] at h
  exact ⟨of_decide_eq_true h.1, fun c hc => of_decide_eq_true (List.all_eq_true.mp h.2 c hc)⟩
def entsOf (a b c : Str) : Ents :=
  [((a, [.num, .num, .txt]), .list [.str "a", .str "b", .str "n"]), ((b, [.num, .num]), .list [.str "a", .str "c"]), ((c, [.txt, .num]), .list [.str "n", .str "b"])]
theorem entsOf_ok {a b c : Str} (h : NamesOk a b c) : EntsOk (entsOf a b c) := by
  refine ⟨rfl, fun e he => ?_⟩
  obtain ⟨_, _, _, ⟨h1, h2, h3⟩, _⟩ := h
  unfold entsOf at he
  rcases List.mem_cons.mp he with z | he
  · subst z
    exact ⟨h1, (show ([Kd.num, Kd.num, Kd.txt] : List Kd).length ≤ 3 by decide), (show ∀ k ∈ ([Kd.num, Kd.num, Kd.txt] : List Kd), k ≠ Kd.cond by decide)⟩
  · rcases List.mem_cons.mp he with z | he
    · subst z
      exact ⟨h2, (show ([Kd.num, Kd.num] : List Kd).length ≤ 3 by decide), (show ∀ k ∈ ([Kd.num, Kd.num] : List Kd), k ≠ Kd.cond by decide)⟩
    · rw [List.mem_singleton.mp he]
      exact ⟨h3, (show ([Kd.txt, Kd.num] : List Kd).length ≤ 3 by decide), (show ∀ k ∈ ([Kd.txt, Kd.num] : List Kd), k ≠ Kd.cond by decide)⟩
def spSchema (K : PySem.W.Frag) : Sp := fun vs H Q _ => ∃ (st scr : Addr) (ns : List Int) (W : Hp), vs = [.ref st] ∧ Gs K st scr ns W H ∧
  ∀ v a b c W' H', Gw st W H W' H' → StOk st scr ns H' → Dp K W' v (schD (entsOf a b c)) → NamesOk a b c → Q v H'
section
variable {P : Program} {w : World} {K : PySem.W.Frag} {mg : Str → Option Value} {base : Heap}
theorem ok_law_schema (Z : Glb mg) (D : DefN K mg "_law_schema" 19) (c__law_take : C8.Cal P w K mg base 1 "_law_take" (spTake K) []) : C8.Cal P w K mg base 2 "_law_schema" (spSchema K) [] := by
  have S : FnScope ["_law_state_here", "_law_names", "_law_row"] ["_law_state_here"] (C8.fnScope (top 19)) := C8.fnScope_by (by decide +kernel)
  refine cal_of D S (fun _ _ _ _ _ _ us hl => match us, hl with | [_], _ => rfl) (fun vs H Q E h => ?_) fun f cdv A outer s H vs Q E hr h => ?_
  · obtain ⟨st, scr, ns, W, rfl, _⟩ := h
    rfl
  obtain ⟨st, scr, ns, W, rfl, G, q⟩ := h
  refine ⟨_, (pss_cons (ps_set (i := 1) S.nd rfl (by first | exact .inl rfl | exact .inr rfl) (pe_ix (ix_listK (K := K)) (pe_lst (pa_cons (pe_lst (pa_cons pe_strA (pa_cons pe_strA (pa_cons pe_strA pa_nilA)))) (pa_cons (pe_lst (pa_cons pe_strA (pa_cons pe_strA (pa_cons pe_strA pa_nilA)))) (pa_cons (pe_lst (pa_cons pe_strA (pa_cons pe_strA (pa_cons pe_strA pa_nilA)))) pa_nilA)))) (C8.pe_c c__law_take hr (by omega) rfl (pa_cons (pv 0) (pa_cons pe_intA pa_nilA))) (fun _ _ => rfl)))
    (pss_cons (ps_set (i := 2) S.nd rfl (by first | exact .inl rfl | exact .inr rfl) (pe_lst (pa_cons (pe_tup (pa_cons (pe_ix (ix_listK (K := K)) (pv 1) pe_intA (fun _ _ => rfl)) (pa_cons (pe_lst (pa_cons pe_strA (pa_cons pe_strA (pa_cons pe_strA pa_nilA)))) (pa_cons (pe_lst (pa_cons pe_strA (pa_cons pe_strA (pa_cons pe_strA pa_nilA)))) pa_nilA)))) (pa_cons (pe_tup (pa_cons (pe_ix (ix_listK (K := K)) (pv 1) pe_intA (fun _ _ => rfl)) (pa_cons (pe_lst (pa_cons pe_strA (pa_cons pe_strA pa_nilA))) (pa_cons (pe_lst (pa_cons pe_strA (pa_cons pe_strA pa_nilA))) pa_nilA)))) pa_nilA))))
    (pss_one (ps_ret (pe_op (op_catK (K := K)) (pv 2) (pe_lst (pa_cons (pe_tup (pa_cons (pe_ix (ix_listK (K := K)) (pv 1) pe_intA (fun _ _ => rfl)) (pa_cons (pe_lst (pa_cons pe_strA (pa_cons pe_strA pa_nilA))) (pa_cons (pe_lst (pa_cons pe_strA (pa_cons pe_strA pa_nilA))) pa_nilA)))) pa_nilA))))))), ?_⟩
  refine ⟨by show 3 ≤ sizeLine; decide, fun p1 hp1 => ⟨by show 3 ≤ sizeLine; decide, fun p2 hp2 => ⟨by show 3 ≤ sizeLine; decide, fun p3 hp3 => ⟨by show 3 ≤ sizeLine; decide, fun p4 hp4 => ⟨_, rfl, ?_⟩⟩⟩⟩⟩
  have GA := G.new hp1 (.lst [.str "t", .str "u", .str "v"])
  have GB := GA.new hp2 (.lst [.str "staff", .str "town", .str "pay_2"])
  have GC := GB.new hp3 (.lst [.str "aa", .str "a", .str "aaa"])
  have gC : Gw st W H _ _ := (Grow.new G.s hp1 (.lst [.str "t", .str "u", .str "v"])).trans ((Grow.new GA.s hp2 (.lst [.str "staff", .str "town", .str "pay_2"])).trans (Grow.new GB.s hp3 (.lst [.str "aa", .str "a", .str "aaa"])))
  have i2 := same_new (same_none GB.s hp3) (.lst [.str "aa", .str "a", .str "aaa"])
  have i1 := Same.trn (same_new (same_none GA.s hp2) (.lst [.str "staff", .str "town", .str "pay_2"])) i2
  have w1 := i1 _ _ (upd_same (H := W) (a := p1) (o := .lst [.str "t", .str "u", .str "v"]))
  have w2 := i2 _ _ (upd_same (H := upd W p1 (.lst [.str "t", .str "u", .str "v"])) (a := p2) (o := .lst [.str "staff", .str "town", .str "pay_2"]))
  have w3 := upd_same (H := upd (upd W p1 (.lst [.str "t", .str "u", .str "v"])) p2 (.lst [.str "staff", .str "town", .str "pay_2"])) (a := p3) (o := .lst [.str "aa", .str "a", .str "aaa"])
  generalize upd (upd (upd W p1 (.lst [.str "t", .str "u", .str "v"])) p2 (.lst [.str "staff", .str "town", .str "pay_2"])) p3 (.lst [.str "aa", .str "a", .str "aaa"]) = U at GC gC w1 w2 w3
  refine pick_new (items := [.ref p1, .ref p2, .ref p3]) (h0 := by show 0 < 3; decide) (hl := by show 3 ≤ 1000; decide) GC hp4 fun i v H5 hi g5 o5 => ?_
  have G5 := GC.step g5 o5
  have g05 := gC.trans g5
  obtain ⟨pn, a, b, c, rfl, hpn, hok⟩ : ∃ pn a b c, v = .ref pn ∧ U pn = some (.lst [.str a, .str b, .str c]) ∧ NamesOk a b c := by
    match i, hi with
    | 0, hi => exact ⟨p1, _, _, _, (Option.some.inj hi).symm, w1, by decide, by decide, by decide, by decide, txB_ok (by decide), txB_ok (by decide), txB_ok (by decide)⟩
    | 1, hi => exact ⟨p2, _, _, _, (Option.some.inj hi).symm, w2, by decide, by decide, by decide, by decide, txB_ok (by decide), txB_ok (by decide), txB_ok (by decide)⟩
    | 2, hi => exact ⟨p3, _, _, _, (Option.some.inj hi).symm, w3, by decide, by decide, by decide, by decide, txB_ok (by decide), txB_ok (by decide), txB_ok (by decide)⟩
    | i + 3, hi => simp at hi
  clear w1 w2 w3 i1 i2 GA GB gC
  have hn : ∀ {H'}, Same U H' → SqL K H' pn [.str a, .str b, .str c] := fun s => SqL.of (s _ _ hpn)
  have str2 : ∀ {V : Hp} (x y : Str), DpAll K V [.str x, .str y] [.str x, .str y] := fun x y => .cons (.str _) (.cons (.str _) .nil)
  have str3 : ∀ {V : Hp} (x y z : Str), DpAll K V [.str x, .str y, .str z] [.str x, .str y, .str z] := fun x y z => .cons (.str _) (.cons (.str _) (.cons (.str _) .nil))
  -- the first entry
  refine ⟨_, rfl, pn, _, 0, _, rfl, rfl, hn G5.s, rfl, by show 3 ≤ sizeLine; decide, fun q1 hq1 => ⟨by show 3 ≤ sizeLine; decide, fun q2 hq2 => ⟨by show 3 ≤ sizeLine; decide, fun q3 hq3 => ?_⟩⟩⟩
  have A1 := G5.new hq1 (.lst [.str "number", .str "number", .str "text"])
  have d1 := (newL_of (same_none G5.s hq1) (str3 (V := U) "number" "number" "text")).dp
  have A2 := A1.new hq2 (.lst [.str "a", .str "b", .str "n"])
  have d2 := (newL_of (same_none A1.s hq2) (str3 (V := _) "a" "b" "n")).dp
  have d1' := Dp.up (same_new (same_none A1.s hq2) (.lst [.str "a", .str "b", .str "n"])) d1
  have A3 := A2.new hq3 (.tup [.str a, .ref q1, .ref q2])
  have e1 := newT_of (same_none A2.s hq3) (.cons (.str a) (.cons d1' (.cons d2 .nil)))
  have k1 : Gw st W H _ _ := g05.trans ((Grow.new G5.s hq1 _).trans ((Grow.new A1.s hq2 _).trans (Grow.new A2.s hq3 (.tup [.str a, .ref q1, .ref q2]))))
  have m1 : Same U _ := Same.trn (same_new (same_none G5.s hq1) _) (Same.trn (same_new (same_none A1.s hq2) _) (same_new (same_none A2.s hq3) (.tup [.str a, .ref q1, .ref q2])))
  generalize upd (upd (upd U q1 (.lst [.str "number", .str "number", .str "text"])) q2 (.lst [.str "a", .str "b", .str "n"])) q3 (.tup [.str a, .ref q1, .ref q2]) = U1 at A3 e1 k1 m1
  generalize upd (upd (upd H5 q1 (.lst [.str "number", .str "number", .str "text"])) q2 (.lst [.str "a", .str "b", .str "n"])) q3 (.tup [.str a, .ref q1, .ref q2]) = H6 at A3 k1 ⊢
  clear A1 A2 d1 d1' d2
  -- the second
  refine ⟨_, rfl, pn, _, 1, _, rfl, rfl, hn (Same.trn m1 A3.s), rfl, by show 2 ≤ sizeLine; decide, fun r1 hr1 => ⟨by show 2 ≤ sizeLine; decide, fun r2 hr2 => ⟨by show 3 ≤ sizeLine; decide, fun r3 hr3 => ⟨by show 2 ≤ sizeLine; decide, fun r4 hr4 => ?_⟩⟩⟩⟩
  have B1 := A3.new hr1 (.lst [.str "number", .str "number"])
  have d1 := (newL_of (same_none A3.s hr1) (str2 (V := U1) "number" "number")).dp
  have B2 := B1.new hr2 (.lst [.str "a", .str "c"])
  have d2 := (newL_of (same_none B1.s hr2) (str2 (V := _) "a" "c")).dp
  have d1' := Dp.up (same_new (same_none B1.s hr2) (.lst [.str "a", .str "c"])) d1
  have B3 := B2.new hr3 (.tup [.str b, .ref r1, .ref r2])
  have e2 := newT_of (same_none B2.s hr3) (.cons (.str b) (.cons d1' (.cons d2 .nil)))
  have m2 : Same U1 _ := Same.trn (same_new (same_none A3.s hr1) _) (Same.trn (same_new (same_none B1.s hr2) _) (same_new (same_none B2.s hr3) (.tup [.str b, .ref r1, .ref r2])))
  have k2 : Gw st W H _ _ := k1.trans ((Grow.new A3.s hr1 _).trans ((Grow.new B1.s hr2 _).trans (Grow.new B2.s hr3 (.tup [.str b, .ref r1, .ref r2]))))
  have e1' := Dp.up m2 e1
  generalize upd (upd (upd U1 r1 (.lst [.str "number", .str "number"])) r2 (.lst [.str "a", .str "c"])) r3 (.tup [.str b, .ref r1, .ref r2]) = U2 at B3 e2 m2 k2 e1'
  generalize upd (upd (upd H6 r1 (.lst [.str "number", .str "number"])) r2 (.lst [.str "a", .str "c"])) r3 (.tup [.str b, .ref r1, .ref r2]) = H7 at B3 k2 hr4 ⊢
  clear B1 B2 d1 d1' d2
  have B4 := B3.new hr4 (.lst [.ref q3, .ref r3])
  have l1 := newL_of (same_none B3.s hr4) (DpAll.cons e1' (DpAll.cons e2 .nil))
  have m3 := same_new (same_none B3.s hr4) (.lst [.ref q3, .ref r3])
  have k3 := k2.trans (Grow.new B3.s hr4 (.lst [.ref q3, .ref r3]))
  -- the third
  refine ⟨_, rfl, _, rfl, pn, _, 2, _, rfl, rfl, hn (Same.trn m1 (Same.trn m2 (Same.trn m3 B4.s))), rfl, by show 2 ≤ sizeLine; decide, fun t1 ht1 => ⟨by show 2 ≤ sizeLine; decide, fun t2 ht2 => ⟨by show 3 ≤ sizeLine; decide, fun t3 ht3 => ⟨by show 1 ≤ sizeLine; decide, fun t4 ht4 => ?_⟩⟩⟩⟩
  have C1 := B4.new ht1 (.lst [.str "text", .str "number"])
  have d1 := (newL_of (same_none B4.s ht1) (str2 (V := _) "text" "number")).dp
  have C2 := C1.new ht2 (.lst [.str "n", .str "b"])
  have d2 := (newL_of (same_none C1.s ht2) (str2 (V := _) "n" "b")).dp
  have d1' := Dp.up (same_new (same_none C1.s ht2) (.lst [.str "n", .str "b"])) d1
  have C3 := C2.new ht3 (.tup [.str c, .ref t1, .ref t2])
  have e3 := newT_of (same_none C2.s ht3) (.cons (.str c) (.cons d1' (.cons d2 .nil)))
  have C4 := C3.new ht4 (.lst [.ref t3])
  have l2 := newL_of (same_none C3.s ht4) (DpAll.cons e3 .nil)
  have m4 := Same.trn (same_new (same_none B4.s ht1) (.lst [.str "text", .str "number"])) (Same.trn (same_new (same_none C1.s ht2) (.lst [.str "n", .str "b"])) (Same.trn (same_new (same_none C2.s ht3) (.tup [.str c, .ref t1, .ref t2])) (same_new (same_none C3.s ht4) (.lst [.ref t3]))))
  have k4 := k3.trans ((Grow.new B4.s ht1 _).trans ((Grow.new C1.s ht2 _).trans ((Grow.new C2.s ht3 (.tup [.str c, .ref t1, .ref t2])).trans (Grow.new C3.s ht4 (.lst [.ref t3])))))
  have x1 := m4 _ _ (upd_same (H := U2) (a := r4) (o := .lst [.ref q3, .ref r3]))
  refine ⟨r4, t4, _, _, rfl, rfl, SqL.of (C4.s _ _ x1), SqL.of upd_same, by show 3 ≤ sizeLine; decide, fun t5 ht5 => ?_⟩
  have C5 := C4.new ht5 (.lst ([.ref q3, .ref r3] ++ [.ref t3]))
  obtain ⟨_, ys1, z1, y1⟩ := l1
  rw [upd_same] at z1
  cases z1
  obtain ⟨_, ys2, z2, y2⟩ := l2
  rw [upd_same] at z2
  cases z2
  refine q _ a b c _ _ (k4.trans (Grow.new C4.s ht5 _)) C5.o ?_ hok
  exact (newL_of (same_none C4.s ht5) (dpall_app (DpAll.up m4 y1) y2)).dp
end
end K23

set_option Elab.async false
set_option linter.all false
set_option maxRecDepth 100000
set_option maxHeartbeats 4000000
/-! K23zj: repr of data; calls of a family of promises. -/
namespace K23
open PySem PySem.Spec PyProof.Rows L2

/-! ### data that may be shown -/
structure Sh (d : PyData) (D : Nat) : Prop where
  s : d.showable = true
  n : d.hasDict = false
  l : d.leavesShort 25 = true
  d : d.depth ≤ D
structure ShA (ds : List PyData) (D : Nat) : Prop where
  s : PyData.showableAll ds = true
  n : PyData.hasDictAll ds = false
  l : PyData.leavesShortAll 25 ds = true
  d : PyData.depthAll ds ≤ D
theorem Sh.mono {d : PyData} {D D' : Nat} (h : Sh d D) (e : D ≤ D') : Sh d D' := ⟨h.s, h.n, h.l, Nat.le_trans h.d e⟩
theorem ShA.mono {d : List PyData} {D D' : Nat} (h : ShA d D) (e : D ≤ D') : ShA d D' := ⟨h.s, h.n, h.l, Nat.le_trans h.d e⟩
theorem sha_nil {D : Nat} : ShA [] D := ⟨by simp only [PyData.showableAll], by simp only [PyData.hasDictAll], by simp only [PyData.leavesShortAll], by simp only [PyData.depthAll]; omega⟩
theorem sha_cons {d : PyData} {ds : List PyData} {D : Nat} (h : Sh d D) (t : ShA ds D) : ShA (d :: ds) D :=
  ⟨by simp only [PyData.showableAll, h.s, t.s, Bool.and_self], by simp only [PyData.hasDictAll, h.n, t.n, Bool.or_self], by simp only [PyData.leavesShortAll, h.l, t.l, Bool.and_self],
    by simp only [PyData.depthAll]; exact Nat.max_le.mpr ⟨h.d, t.d⟩⟩
theorem sha_all {D : Nat} : ∀ {ds : List PyData}, (∀ d ∈ ds, Sh d D) → ShA ds D
  | [], _ => sha_nil
  | d :: ds, h => sha_cons (h d List.mem_cons_self) (sha_all fun x hx => h x (List.mem_cons_of_mem _ hx))
theorem sh_tup {ds : List PyData} {D : Nat} (h : ShA ds D) : Sh (.tuple ds) (D + 1) :=
  ⟨by simp only [PyData.showable, h.s], by simp only [PyData.hasDict, h.n], by simp only [PyData.leavesShort, h.l], by simp only [PyData.depth]; have := h.d; omega⟩
theorem sh_lst {ds : List PyData} {D : Nat} (h : ShA ds D) : Sh (.list ds) (D + 1) :=
  ⟨by simp only [PyData.showable, h.s], by simp only [PyData.hasDict, h.n], by simp only [PyData.leavesShort, h.l], by simp only [PyData.depth]; have := h.d; omega⟩
theorem sh_none {D : Nat} : Sh .none D := ⟨by simp only [PyData.showable], by simp only [PyData.hasDict], by simp only [PyData.leavesShort], by simp only [PyData.depth]; omega⟩
theorem sh_str {x : Str} {D : Nat} (h : ∀ c ∈ x.cps.toList, c < 128) : Sh (.str x) D :=
  ⟨by simp only [PyData.showable], by simp only [PyData.hasDict], by
    simp only [PyData.leavesShort, List.all_eq_true, decide_eq_true_eq]
    intro c hc
    have := h c hc
    have e : (128 : Nat) ≤ 16 ^ 8 := by decide
    omega, by simp only [PyData.depth]; omega⟩
theorem sh_strD {x : Str} {D : Nat} (h : (x.cps.toList.all fun c => decide (c < 128)) = true) : Sh (.str x) D := sh_str fun c hc => of_decide_eq_true (List.all_eq_true.mp h c hc)

theorem bigI_lt {i : Int} (h1 : -big ≤ i) (h2 : i ≤ big) : i.natAbs < 10 ^ 19 := by
  have e : big = 1000000000000000000 := rfl
  have e2 : (10 : Nat) ^ 19 = 10000000000000000000 := rfl
  omega
theorem small_lt {u : Nat} (h : u < 100) : ((u : Int)).natAbs < 10 ^ 19 := by
  have e2 : (10 : Nat) ^ 19 = 10000000000000000000 := rfl
  omega
theorem sh_int {i : Int} {D : Nat} (h : i.natAbs < 10 ^ 19) : Sh (.int i) D :=
  ⟨by
    simp only [PyData.showable, decide_eq_true_eq]
    rcases Nat.eq_zero_or_pos i.natAbs with z | z
    · rw [z]
      decide
    · have h2 : i.natAbs < 2 ^ 64 := Nat.lt_trans h (by decide)
      have := (Nat.log2_lt (Nat.pos_iff_ne_zero.mp z)).mpr h2
      omega,
    by simp only [PyData.hasDict], by
    simp only [PyData.leavesShort, decide_eq_true_eq]
    have h3 : (Str.ofString (toString i)).length ≤ 20 := by
      rw [PySem.ofString_length]
      exact int_text_length_le10 (k := 19) (by decide) h
    have h4 : (PyData.shown (.int i)).length ≤ 20 := h3
    omega, by simp only [PyData.depth]; omega⟩
theorem sh_key {k : Kd} {key : Key} {D : Nat} (h : HasK k (kV key)) : Sh (keyD key) D := by
  cases key with
  | inl i =>
    cases k with
    | num => exact sh_int (bigI_lt h.1 h.2)
    | txt => exact False.elim h
    | cond => exact False.elim h
  | inr x =>
    cases k with
    | num => exact False.elim h
    | txt => exact sh_str h.2
    | cond => exact False.elim h
theorem sh_keys {D : Nat} : ∀ {ks : List Kd} {r : Row}, RowK ks r → ShA (r.map keyD) D
  | _, _, .nil => sha_nil
  | _, _, .cons h t => sha_cons (sh_key h.2) (sh_keys t)
theorem sh_rows {ks : List Kd} {rs : List Row} (h : ∀ r ∈ rs, RowK ks r) : Sh (rowsD rs) 2 := by
  refine sh_lst (sha_all fun d hd => ?_)
  obtain ⟨r, hr, rfl⟩ := List.mem_map.mp hd
  exact sh_tup (sh_keys (h r hr))
theorem bulk_key {k : Kd} {key : Key} (h : HasK k (kV key)) : (keyD key).bulk ≤ 40 := by
  cases key with
  | inl i => exact Nat.zero_le _
  | inr x =>
    cases k with
    | num => exact False.elim h
    | txt => exact h.1
    | cond => exact False.elim h
theorem bulk_keys : ∀ {ks : List Kd} {r : Row}, RowK ks r → PyData.bulkAll (r.map keyD) ≤ 41 * ks.length
  | _, _, .nil => Nat.zero_le _
  | _, _, .cons (a := k) (b := key) (l₁ := ks) (l₂ := r) h t => by
    have h1 := bulk_key h.2
    have h2 := bulk_keys t
    show (keyD key).bulk + 1 + PyData.bulkAll (r.map keyD) ≤ 41 * (ks.length + 1)
    omega
theorem bulk_rows : ∀ {ks : List Kd} {rs : List Row}, (∀ r ∈ rs, RowK ks r) → (rowsD rs).bulk ≤ (41 * ks.length + 1) * rs.length
  | _, [], _ => Nat.zero_le _
  | ks, r :: rs, h => by
    have h1 := bulk_keys (h r List.mem_cons_self)
    have h2 := bulk_rows (ks := ks) (rs := rs) fun x hx => h x (List.mem_cons_of_mem _ hx)
    have h3 : (rowsD rs).bulk = PyData.bulkAll (rs.map rowD) := rfl
    show PyData.bulkAll (r.map keyD) + 1 + PyData.bulkAll (rs.map rowD) ≤ (41 * ks.length + 1) * (rs.length + 1)
    rw [Nat.mul_add, Nat.mul_one]
    omega

/-! ### drawn questions may be shown -/
section
variable {tb : Str → List Row} {sch : List (Str × List Kd)}
theorem sh_cell {u s c D : Nat} (h : u < 100 ∧ s < 100 ∧ c < 100) : Sh (cellD u s c) (D + 1) :=
  sh_tup (sha_cons (sh_strD (by decide +kernel)) (sha_cons (sh_int (small_lt h.1)) (sha_cons (sh_int (small_lt h.2.1)) (sha_cons (sh_int (small_lt h.2.2)) sha_nil))))
theorem shown_all (hs : ∀ s ∈ sch, (∀ c ∈ s.1.cps.toList, c < 128) ∧ s.2.length ≤ 3) : ∀ n : Nat, (∀ {g : Bool} {sc : Sc} {d : PyData} {k : Kd} {f : Sem}, RepE tb sch n g sc d k f → Sh d (3 * n + 5)) ∧
    (∀ {m : Nat} {sc : Sc} {d : PyData} {ks : List Kd} {q : Lv → List Row}, RepQ tb sch n m sc d ks q → Sh d (3 * n + 5)) := by
  intro n
  induction n using Nat.strongRecOn with
  | _ n ih =>
    have ie : ∀ {n' : Nat} {g : Bool} {sc : Sc} {d : PyData} {k : Kd} {f : Sem}, n' < n → RepE tb sch n' g sc d k f → Sh d (3 * n + 2) := fun h e => ((ih _ h).1 e).mono (by omega)
    have iq : ∀ {n' m : Nat} {sc : Sc} {d : PyData} {ks : List Kd} {q : Lv → List Row}, n' < n → RepQ tb sch n' m sc d ks q → Sh d (3 * n + 2) := fun h e => ((ih _ h).2 e).mono (by omega)
    refine ⟨fun {g sc d k f} h => ?_, fun {m sc d ks q} h => ?_⟩
    · cases h with
      | num i h1 h2 => exact (sh_tup (D := 0) (sha_cons (sh_strD (by decide +kernel)) (sha_cons (sh_int (bigI_lt h1 h2)) sha_nil))).mono (by omega)
      | txt x h => exact (sh_tup (D := 0) (sha_cons (sh_strD (by decide +kernel)) (sha_cons (sh_str h.2) sha_nil))).mono (by omega)
      | cell u s c h1 h2 h3 hb => exact (sh_cell (D := 0) hb).mono (by omega)
      | neg h e => exact (sh_tup (sha_cons (sh_strD (by decide +kernel)) (sha_cons (ie h e) sha_nil))).mono (by omega)
      | nt h e => exact (sh_tup (sha_cons (sh_strD (by decide +kernel)) (sha_cons (ie h e) sha_nil))).mono (by omega)
      | ex h e => exact (sh_tup (sha_cons (sh_strD (by decide +kernel)) (sha_cons (iq h e) sha_nil))).mono (by omega)
      | cnt => exact (sh_tup (D := 0) (sha_cons (sh_strD (by decide +kernel)) sha_nil)).mono (by omega)
      | ag o h e hk ho => exact (sh_tup (sha_cons (sh_strD (by cases o <;> decide +kernel)) (sha_cons (ie h e) sha_nil))).mono (by omega)
      | ar o h e1 e2 => exact (sh_tup (sha_cons (sh_strD (by cases o <;> decide +kernel)) (sha_cons (ie h e1) (sha_cons (ie h e2) sha_nil)))).mono (by omega)
      | cm o h hk e1 e2 => exact (sh_tup (sha_cons (sh_strD (by cases o <;> decide +kernel)) (sha_cons (ie h e1) (sha_cons (ie h e2) sha_nil)))).mono (by omega)
      | lo o h e1 e2 => exact (sh_tup (sha_cons (sh_strD (by cases o <;> decide +kernel)) (sha_cons (ie h e1) (sha_cons (ie h e2) sha_nil)))).mono (by omega)
    · cases h with
      | uni h hm h11 e1 e2 => exact (sh_tup (sha_cons (sh_strD (by decide +kernel)) (sha_cons (iq h e1) (sha_cons (iq h e2) sha_nil)))).mono (by omega)
      | exc h hm h11 e1 e2 => exact (sh_tup (sha_cons (sh_strD (by decide +kernel)) (sha_cons (iq h e1) (sha_cons (iq h e2) sha_nil)))).mono (by omega)
      | int h hm h11 e1 e2 => exact (sh_tup (sha_cons (sh_strD (by decide +kernel)) (sha_cons (iq h e1) (sha_cons (iq h e2) sha_nil)))).mono (by omega)
      | sel items srcs wh grp hav h hm hsrc hl hne hil hik hi hw hg hh =>
        refine (sh_tup (D := 3 * n + 3) (sha_cons (sh_strD (by decide +kernel)) (sha_cons (sh_lst (D := 3 * n + 2) (sha_all fun d hd => ?_)) (sha_cons ((sh_lst (D := 0) (sha_all fun d hd => ?_)).mono (by omega)) (sha_cons ?_ (sha_cons ?_ (sha_cons ?_ sha_nil))))))).mono (by omega)
        · obtain ⟨x, hx, rfl⟩ := List.mem_map.mp hd
          exact ie h (hi x hx)
        · obtain ⟨x, hx, rfl⟩ := List.mem_map.mp hd
          exact sh_str (hs x (hsrc x hx)).1
        · cases wh with
          | none => exact sh_none
          | some x => exact (ie h (hw x rfl)).mono (by omega)
        · cases grp with
          | none => exact sh_none
          | some cs =>
            refine (sh_lst (D := 1) (sha_all fun d hd => ?_)).mono (by omega)
            obtain ⟨p, hp, rfl⟩ := List.mem_map.mp hd
            obtain ⟨ks, k, h1, h2⟩ := (hg cs rfl).2 p hp
            have l1 := (List.getElem?_eq_some_iff.mp h1).1
            have l2 := (List.getElem?_eq_some_iff.mp h2).1
            rw [List.length_map] at l1
            have l3 : ks.length ≤ 3 := by
              obtain ⟨s, hs', rfl⟩ := List.mem_map.mp (List.mem_of_getElem? h1)
              exact (hs s (hsrc s hs')).2
            exact sh_cell (D := 0) ⟨by omega, by omega, by omega⟩
        · cases hav with
          | none => exact sh_none
          | some x => exact (ie h (hh x rfl)).mono (by omega)
theorem repQ_m {n m : Nat} {sc : Sc} {d : PyData} {ks : List Kd} {q : Lv → List Row} (h : RepQ tb sch n m sc d ks q) : True := trivial
end

/-! ### the rules of repr -/
theorem sh_fits {d : PyData} {D : Nat} (h : Sh d D) (hb : d.bulk ≤ 600000) : d.shown.length ≤ sizeLine := by
  have h1 := PyData.shown_le_bulk 25 (by decide) d h.l
  have h2 : sizeLine = 16777216 := sizeLine_eq
  omega
section
variable {X : Cx}
/-- what a heap that only grows keeps -/
def reprR (K : PySem.W.Frag) : List V → Hp → VK → Prop := fun xs H Q => ∃ a d D, xs = [.ref a] ∧ Dp K H (.ref a) d ∧ Sh d D ∧ D ≤ 100 ∧ d.bulk ≤ 600000 ∧ Q (.str d.shown) H
theorem cr_reprD (hg : X.A.guards = some []) (hu : X.A.units + 200 < cLine) : CallR X (.builtin "repr") (reprR X.K) := by
  intro pins s σ H xs us Q I r h
  obtain ⟨a, d, D, rfl, hd, sh, hD, hb, q⟩ := h
  obtain ⟨u, rfl, rx⟩ := vals1 r
  cases rx
  obtain ⟨as, hr⟩ := Dp.reads I d _ _ hd rfl
  have := sh.d
  refine repr_of_reads' hr sh.s (PyData.noDict_hsm sh.n) hg (by omega) (fun _ _ e => e) (fun h' u tk hk => ?_) (sh_fits sh hb)
  exact ⟨.str d.shown, H, I.kept hk, ⟨_, rfl⟩, q⟩

/-- entries of a tracked dict, read as data -/
theorem ents_read {pins : List (Addr × Obj)} {σ : L2.St} {H : Hp} {s : Shared} (I : Inv X pins σ H s) : ∀ {es : List DictEntry} {vs : List (Key × Value)} {kvs : List (Key × V)} {ds : List PyData},
    PySem.Pairs (mixKind X.prog X.w) es vs → KV kvs vs → DpAll X.K H (kvs.map (·.2)) ds → ∃ bs, ReadsAll s.heap (es.map (·.key)) (kvs.map fun p => keyD p.1) [] ∧ ReadsAll s.heap (es.map (·.val)) ds bs
  | _, _, _, _, .nil, .nil, .nil => ⟨[], .nil, .nil⟩
  | _, _, _, _, .cons hk hv t, .cons r rt, .cons d dt => by
    obtain ⟨bs, h1, h2⟩ := ents_read I t rt dt
    obtain ⟨as, h3⟩ := Dp.reads I _ _ _ d r.2
    refine ⟨as ++ bs, ?_, ?_⟩
    · refine ReadsAll.cons (as := []) ?_ h1
      obtain ⟨r1, _⟩ := r
      dsimp only
      rw [r1]
      rcases keyIs_shape hk with ⟨i, t, e1, e2⟩ | ⟨x, t, e1, e2⟩
      · rw [e1, e2]
        exact Reads.int i t
      · rw [e1, e2]
        exact Reads.str x t
    · refine ReadsAll.cons ?_ h2
      dsimp only
      rw [hv]
      exact h3

/-- the text of [a, {..}] -/
def pairT (q : Str) (ks : List Key) (ds : List PyData) : Str := listText [q, dictText (List.zipWith (fun k v : Str => k ++ ": " ++ v) (PyData.shownAll (ks.map keyD)) (PyData.shownAll ds))]
theorem dictT_eq : ∀ (ks : List Key) (ds : List PyData), ks.length = ds.length → ∃ kvs : List (PyData × PyData), kvs.map (·.1) = ks.map keyD ∧ kvs.map (·.2) = ds
  | [], [], _ => ⟨[], rfl, rfl⟩
  | k :: ks, d :: ds, h => by
    obtain ⟨kvs, h1, h2⟩ := dictT_eq ks ds (Nat.succ.inj h)
    exact ⟨(keyD k, d) :: kvs, by rw [List.map_cons, h1]; rfl, by rw [List.map_cons, h2]⟩
theorem bulk_kv : ∀ (kvs : List (PyData × PyData)), PyData.bulkKv kvs = PyData.bulkAll (kvs.map (·.1)) + PyData.bulkAll (kvs.map (·.2))
  | [] => rfl
  | (a, b) :: r => by
    have := bulk_kv r
    show a.bulk + b.bulk + 2 + PyData.bulkKv r = a.bulk + 1 + PyData.bulkAll (r.map (·.1)) + (b.bulk + 1 + PyData.bulkAll (r.map (·.2)))
    omega
theorem short_kv {B : Nat} : ∀ {kvs : List (PyData × PyData)}, PyData.leavesShortAll B (kvs.map (·.1)) = true → PyData.leavesShortAll B (kvs.map (·.2)) = true → PyData.leavesShortKv B kvs = true
  | [], _, _ => by simp only [PyData.leavesShortKv]
  | (a, b) :: r, h1, h2 => by
    have g1 : a.leavesShort B = true ∧ PyData.leavesShortAll B (r.map (·.1)) = true := by simpa [PyData.leavesShortAll] using h1
    have g2 : b.leavesShort B = true ∧ PyData.leavesShortAll B (r.map (·.2)) = true := by simpa [PyData.leavesShortAll] using h2
    simp only [PyData.leavesShortKv, g1.1, g2.1, short_kv g1.2 g2.2, Bool.and_self]
def reprQ (K : PySem.W.Frag) : List V → Hp → VK → Prop := fun xs H Q => ∃ (a t : Addr) (v : V) (d : PyData) (kvs : List (Key × V)) (ds : List PyData) (D : Nat), xs = [.ref a] ∧ SqL K H a [v, .ref t] ∧ Dp K H v d ∧ H t = some (.dK kvs) ∧ DpAll K H (kvs.map (·.2)) ds ∧
  Sh d D ∧ ShA (kvs.map fun p => keyD p.1) D ∧ ShA ds D ∧ D ≤ 100 ∧ d.bulk ≤ 200000 ∧ PyData.bulkAll (kvs.map fun p => keyD p.1) ≤ 10000 ∧ PyData.bulkAll ds ≤ 100000 ∧ Q (.str (pairT d.shown (kvs.map (·.1)) ds)) H
theorem cr_reprP (hg : X.A.guards = some []) (hu : X.A.units + 200 < cLine) : CallR X (.builtin "repr") (reprQ X.K) := by
  intro pins s σ H xs us Q I r h
  obtain ⟨a, t, v, d, kvs, ds, D, rfl, hl, hd, ht, hds, sh, shk, shd, hD, hb, hbk, hbd, q⟩ := h
  obtain ⟨u, rfl, rx⟩ := vals1 r
  cases rx
  obtain ⟨its, rv, ⟨o, n, ho, hc, hdi, hdt⟩, _⟩ := I.list hl
  obtain ⟨_, hsys, vs, rel, o2, es, ep, ho2, hx2, hd2, _, pr, _⟩ := dk_of I.hok ht
  obtain ⟨bs, rk, rw_⟩ := ents_read I pr rel hds
  have hlen : kvs.length = ds.length := by
    have : (kvs.map (·.2)).length = ds.length := dpall_len hds
    rwa [List.length_map] at this
  obtain ⟨kd, hk1, hk2⟩ := dictT_eq (kvs.map (·.1)) ds (by rw [List.length_map]; exact hlen)
  rw [List.map_map] at hk1
  have hk1' : kd.map (·.1) = kvs.map fun p => keyD p.1 := hk1
  -- the two items
  match its, rv with
  | [u1, u2], .cons r1 (.cons r2 .nil) =>
    cases r2
    obtain ⟨as1, rd1⟩ := Dp.reads I d _ _ hd r1
    have rt : Reads s.heap (.ref t) (.dict kd) (t :: [] ++ bs) := .dict ho2 hx2.1 hd2 (by rw [hk1']; exact rk) (by rw [hk2]; exact rw_)
    have rl : Reads s.heap (.ref a) (.list [d, .dict kd]) (a :: (as1 ++ ((t :: [] ++ bs) ++ []))) := .list ho hc hdt (.cons rd1 (.cons rt .nil))
    -- sizes
    have hq1 : d.shown.length ≤ 5400025 := by
      have := PyData.shown_le_bulk 25 (by decide) d sh.l
      omega
    have hq2 : (PyData.shown (.dict kd)).length ≤ 2970025 := by
      have h1 := PyData.shown_le_bulk 25 (by decide) (.dict kd) (by
        simp only [PyData.leavesShort]
        exact short_kv (by rw [hk1']; exact shk.l) (by rw [hk2]; exact shd.l))
      have h2 : (PyData.dict kd).bulk = PyData.bulkKv kd := by simp only [PyData.bulk]
      rw [h2, bulk_kv, hk1', hk2] at h1
      omega
    have hsl : sizeLine = 16777216 := sizeLine_eq
    have hz2 : (dictText (PyData.shownKv kd)).length ≤ sizeLine := by
      have e : PyData.shown (.dict kd) = dictText (PyData.shownKv kd) := by simp only [PyData.shown]
      rw [← e]
      omega
    -- the readings of the parts
    obtain ⟨b0, hb0, k0⟩ := ReprK.of_reads (prog := X.prog) (w := X.w) rd1 sh.s (PyData.noDict_hsm sh.n) (by omega)
    obtain ⟨b1, hb1, k1⟩ := ReprAllK.of_readsAll (prog := X.prog) (w := X.w) rk shk.s (fun z => by rw [shk.n] at z; cases z) (fun x hx => by
      obtain ⟨p, hp, hl⟩ := PyData.shownKv_key_le kd x (by rw [hk1']; exact hx)
      exact Nat.le_trans hl (Nat.le_trans (dictText_mem_le hp) hz2))
    obtain ⟨b2, hb2, k2⟩ := ReprAllK.of_readsAll (prog := X.prog) (w := X.w) rw_ shd.s (fun z => by rw [shd.n] at z; cases z) (fun x hx => by
      obtain ⟨p, hp, hl⟩ := PyData.shownKv_val_le kd x (by rw [hk2]; exact hx)
      exact Nat.le_trans hl (Nat.le_trans (dictText_mem_le hp) hz2))
    have dk1 : PyData.depthAll (kvs.map fun p => keyD p.1) ≤ PyData.depthKv kd := by rw [← hk1']; exact PyData.depthAll_keys_le kd
    have dk2 : PyData.depthAll ds ≤ PyData.depthKv kd := by rw [← hk2]; exact PyData.depthAll_vals_le kd
    have hb12 : ReadAtMost s.heap (PyData.depthKv kd) (b1 ++ b2) := (hb1.mono dk1).append (hb2.mono dk2)
    have nt : t ∉ b1 ++ b2 := not_mem_of_deeper rt (by simp only [PyData.depth]; omega) hb12
    have K2 := ReprK.dict (prog := X.prog) (w := X.w) ho2 hx2.1 hd2 hsys nt (ReprEntriesK.of_two es.toList _ _
      (k1.more_le (as' := b1 ++ b2) (fun b m => List.mem_append_left _ m) dk1) (k2.more_le (as' := b1 ++ b2) (fun b m => List.mem_append_right _ m) dk2))
    have hbT : ReadAtMost s.heap (PyData.depthKv kd + 1) (t :: (b1 ++ b2)) := by
      have := ReadAtMost.cons rt (n := PyData.depthKv kd) (by simp only [PyData.depth]; omega) hb12
      simpa only [PyData.depth] using this
    have dkv : PyData.depthKv kd ≤ D := by
      have : ∀ kd : List (PyData × PyData), PyData.depthAll (kd.map (·.1)) ≤ D → PyData.depthAll (kd.map (·.2)) ≤ D → PyData.depthKv kd ≤ D := by
        intro kd
        induction kd with
        | nil => exact fun _ _ => by simp only [PyData.depthKv]; omega
        | cons p l ih =>
          obtain ⟨x, y⟩ := p
          intro g1 g2
          simp only [List.map_cons, PyData.depthAll] at g1 g2
          have := ih (by omega) (by omega)
          simp only [PyData.depthKv]
          omega
      exact this kd (by rw [hk1']; exact shk.d) (by rw [hk2]; exact shd.d)
    have hM : ReadAtMost s.heap (max d.depth (PyData.depthKv kd + 1)) (b0 ++ t :: (b1 ++ b2)) := (hb0.mono (Nat.le_max_left _ _)).append (hbT.mono (Nat.le_max_right _ _))
    have na : a ∉ b0 ++ t :: (b1 ++ b2) := not_mem_of_deeper rl (by simp only [PyData.depth, PyData.depthAll]; omega) hM
    have kA : ReprK X.prog X.w (b0 ++ t :: (b1 ++ b2)) s.heap (max d.depth (PyData.depthKv kd + 1)) u1 d.shown := (k0.more fun b m => List.mem_append_left _ m).level_le (Nat.le_max_left _ _)
    have kB := (K2.more (as' := b0 ++ t :: (b1 ++ b2)) fun b m => List.mem_append_right _ m).level_le (d' := max d.depth (PyData.depthKv kd + 1)) (Nat.le_max_right _ _)
    have hdd := sh.d
    have hfin : (pairT d.shown (kvs.map (·.1)) ds).length ≤ sizeLine := by
      have e : PyData.shown (.dict kd) = dictText (List.zipWith (fun k v : Str => k ++ ": " ++ v) (PyData.shownAll ((kvs.map (·.1)).map keyD)) (PyData.shownAll ds)) := by
        simp only [PyData.shown, PyData.shownKv_eq]
        rw [hk1', hk2, List.map_map]
        rfl
      unfold pairT
      rw [← e]
      have := listText_len_le [d.shown, PyData.shown (.dict kd)]
      simp only [List.map_cons, List.map_nil, List.sum_cons, List.sum_nil, List.length_cons, List.length_nil] at this
      omega
    have eT : pairT d.shown (kvs.map (·.1)) ds = listText [d.shown, dictText (List.zipWith (fun k v : Str => k ++ ": " ++ v) (PyData.shownAll ((kvs.map (·.1)).map keyD)) (PyData.shownAll ds))] := rfl
    have eK : (kvs.map (·.1)).map keyD = kvs.map fun p => keyD p.1 := by rw [List.map_map]; rfl
    rw [← eK] at kB
    generalize dictText (List.zipWith (fun k v : Str => k ++ ": " ++ v) (PyData.shownAll ((kvs.map (·.1)).map keyD)) (PyData.shownAll ds)) = T2 at eT kB
    rw [eT] at hfin q
    have kAll : ∀ (i : Nat) (y : Value), [u1, Value.ref t].toArray[i]? = some y → ∃ x, [d.shown, T2][i]? = some x ∧ ReprK X.prog X.w (b0 ++ t :: (b1 ++ b2)) s.heap (max d.depth (PyData.depthKv kd + 1)) y x := by
      intro i y e
      rw [List.getElem?_toArray] at e
      match i, e with
      | 0, e =>
        have e' : some u1 = some y := e
        cases e'
        exact ⟨_, rfl, kA⟩
      | 1, e =>
        have e' : some (Value.ref t) = some y := e
        cases e'
        exact ⟨_, rfl, kB⟩
      | i + 2, e =>
        have e' : (none : Option Value) = some y := e
        cases e'
    have hu2 : X.A.in1.units + (max d.depth (PyData.depthKv kd + 1) + 1) < cLine := by
      show X.A.units + 1 + (max d.depth (PyData.depthKv kd + 1) + 1) < cLine
      omega
    have hl2 : ([d.shown, T2] : List Str).length = [u1, Value.ref t].toArray.size := by simp
    exact call_repr_slot (by omega) ⟨o, ho, hc⟩ F.slot_list_repr.toG (call_list_reprK (x := u1) (l := [Value.ref t]) (g := []) (d := max d.depth (PyData.depthKv kd + 1)) (ts := [d.shown, T2]) (A := X.A.in1) ho hc hdt na hl2 kAll hg (fun b _ => Clear.nil b) hu2 (fun _ _ e => e) (fun h' u tk hk => ⟨_, _, rfl, .str (listText [d.shown, T2]), H, I.kept hk, ⟨_, rfl⟩, q⟩) hfin)
end
end K23

set_option Elab.async false
set_option linter.all false
set_option maxRecDepth 100000
set_option maxHeartbeats 4000000
/-! K23zk: the law's own def. -/
namespace K23
open PySem PySem.Spec PyProof.Rows L2

/-! ### a call of a family of promises, the one chosen at the call -/
section
variable {ι : Type} {X : Cx} {k j : Nat} {x : Str} {sp : ι → Sp} {dvs : List V} {p pos : Pos} {e : Expr} {es : List Expr} {t : TA}
theorem pe_cI (c : ∀ i, C8.Cal X.prog X.w X.K X.mg X.base k x (sp i) dvs) (i0 : ι) (hr : Room j X.A) (hk : k ≤ j) (hg : Gl X x) (ha : PA X (e :: es) t)
    (hdb : (x == ("__debug__" : Str)) = false := by decide) (hst : starEach (e :: es) X.env = (false, eval e X.env) :: starEach es X.env := by rfl) (hpl : (backTo pos (starEach es X.env)).any (·.1) = false := by rfl) :
    PE X (.Call (.Name x p) (e :: es) [] pos) (tCall (fun vs H Q E => ∃ i, sp i vs H Q E) dvs C8.E0 t) := by
  obtain ⟨f, fd, ps, ds, F0, hm0, kp0, b0, d0⟩ := (c i0).ex
  refine ⟨fun pn s0 σ H Q I0 h0 => wpAny_Call_Name_kw (ld_glob I0 hg hm0 ?_ hdb)⟩
  refine PySem.W.callWith_K (h₀ := X.base) I0.ok.mod.kin kp0 (thn (ha.run pos pn s0 σ H _ I0 h0) fun us s1 z => ?_) hst hpl
  obtain ⟨vs, H1, I1, r1, i, q1⟩ := z
  obtain ⟨g, gd, ps1, ds1, F1, hm1, kp1, b1, d1⟩ := (c i).ex
  have e1 : g = f := by
    have e2 := hm1.symm.trans hm0
    injection e2 with e2
    injection e2 with e2
  subst e1
  exact ⟨I1.kIn, run_fn F1 (hr.mono hk) b1 d1 C8.pass0 I1 r1 q1⟩
end
abbrev QIx := {p : (Str → List Row) × Ents // EntsOk p.2}
abbrev TIx := {p : (Str → List Row) × List (Str × List Kd) // TbOk p.1 p.2}
def q0 : QIx := ⟨(fun _ => [], List.replicate 3 ((("" : Str), ([] : List Kd)), PyData.none)), rfl, fun e he => by
  rw [List.eq_of_mem_replicate he]
  exact ⟨by decide, by decide, fun k hk => nomatch hk⟩⟩
def t0 : TIx := ⟨(fun _ => [], []), fun s hs => nomatch hs⟩

/-! ### the tables -/
abbrev TEnt := Str × List Kd × V × List Row
def tkv (L : List TEnt) : List (Key × V) := L.map fun q => (Sum.inr q.1, q.2.2.1)
def TOk (K : PySem.W.Frag) (U : Hp) (L : List TEnt) : Prop := ∀ q ∈ L, Dp K U q.2.2.1 (rowsD q.2.2.2) ∧ (∀ r ∈ q.2.2.2, RowK q.2.1 r) ∧ q.2.2.2.length ≤ 3
def tbOf (L : List TEnt) (x : Str) : List Row := ((L.find? fun q => decide (q.1 = x)).map (·.2.2.2)).getD []
theorem find_of {L : List TEnt} (hn : (L.map (·.1)).Nodup) {q : TEnt} (h : q ∈ L) : (L.find? fun x => decide (x.1 = q.1)) = some q := by
  induction L with
  | nil => exact nomatch h
  | cons a l ih =>
    rw [List.map_cons, List.nodup_cons] at hn
    by_cases c : a.1 = q.1
    · rw [List.find?_cons_of_pos (by simp [c])]
      rcases List.mem_cons.mp h with z | z
      · rw [z]
      · have z2 : q.1 ∈ l.map (·.1) := List.mem_map.mpr ⟨q, z, rfl⟩
        exact absurd z2 (by rw [← c]; exact hn.1)
    · rw [List.find?_cons_of_neg (by simp [c])]
      rcases List.mem_cons.mp h with z | z
      · exact absurd (by rw [z]) c
      · exact ih hn.2 z
theorem tkv_val {L : List TEnt} (hn : (L.map (·.1)).Nodup) {q : TEnt} (h : q ∈ L) : valV (tkv L) (Sum.inr q.1) = some q.2.2.1 := by
  unfold valV tkv
  rw [List.find?_map]
  have e : (L.find? ((fun kv : Key × V => decide (kv.1 = Sum.inr q.1)) ∘ fun x : TEnt => (Sum.inr x.1, x.2.2.1))) = L.find? fun x => decide (x.1 = q.1) := by
    congr 1
    funext x
    simp
  rw [e, find_of hn h]
  rfl
theorem tkv_put {L : List TEnt} {x : Str} {v : V} (ks : List Kd) (rs : List Row) (h : x ∉ L.map (·.1)) : putK (tkv L) (Sum.inr x) v = tkv (L ++ [(x, ks, v, rs)]) := by
  unfold putK
  rw [if_neg]
  · unfold tkv
    rw [List.map_append]
    rfl
  · intro z
    obtain ⟨y, hy, e⟩ := List.any_eq_true.mp z
    obtain ⟨q, hq, rfl⟩ := List.mem_map.mp hy
    have e1 : (Sum.inr q.1 : Key) = Sum.inr x := of_decide_eq_true e
    injection e1 with e1
    exact h (List.mem_map.mpr ⟨q, hq, e1⟩)
theorem tok_tb {K : PySem.W.Frag} {U : Hp} {L : List TEnt} {es : List (Str × List Kd)} (h : TOk K U L) (hn : (L.map (·.1)).Nodup) (he : L.map (fun q => (q.1, q.2.1)) = es) : TbOk (tbOf L) es := by
  subst he
  intro s hs
  obtain ⟨q, hq, rfl⟩ := List.mem_map.mp hs
  have e : tbOf L q.1 = q.2.2.2 := by
    unfold tbOf
    rw [find_of hn hq]
    rfl
  rw [e]
  exact ⟨(h q hq).2.2, (h q hq).2.1⟩
theorem tok_at {K : PySem.W.Frag} {U H : Hp} {L : List TEnt} {es : List (Str × List Kd)} {t : Addr} (h : TOk K U L) (hn : (L.map (·.1)).Nodup) (he : L.map (fun q => (q.1, q.2.1)) = es) (s : Same U H) (ht : H t = some (.dK (tkv L))) : TabAt (tbOf L) es K H t := by
  subst he
  refine ⟨_, ht, fun x hx => ?_⟩
  obtain ⟨q, hq, rfl⟩ := List.mem_map.mp hx
  have e : tbOf L q.1 = q.2.2.2 := by
    unfold tbOf
    rw [find_of hn hq]
    rfl
  rw [e]
  exact ⟨_, tkv_val hn hq, Dp.up s (h q hq).1⟩
theorem tok_all {K : PySem.W.Frag} {U : Hp} : ∀ {L : List TEnt}, TOk K U L → DpAll K U ((tkv L).map (·.2)) (L.map fun q => rowsD q.2.2.2)
  | [], _ => .nil
  | q :: l, h => .cons (h q List.mem_cons_self).1 (tok_all fun x hx => h x (List.mem_cons_of_mem _ hx))

theorem same_l {K : PySem.W.Frag} {H H' : Hp} (e : Same H H') {a : Addr} {xs : List V} (h : SqL K H a xs) : SqL K H' a xs := e.seq h
theorem nodup_take {α : Type} : ∀ {l : List α} {i : Nat} {x : α}, l.Nodup → l[i]? = some x → x ∉ l.take i
  | [], _, _, _, e => by simp at e
  | y :: l, 0, x, h, e => by simp
  | y :: l, i + 1, x, h, e => by
    rw [List.getElem?_cons_succ] at e
    rw [List.nodup_cons] at h
    rw [List.take_succ_cons]
    intro z
    rcases List.mem_cons.mp z with z | z
    · exact h.1 (by rw [← z]; exact List.mem_of_getElem? e)
    · exact nodup_take h.2 e z
theorem names_nodup {a b c : Str} (h : NamesOk a b c) : ((entsOf a b c).map (·.1.1)).Nodup := by
  show [a, b, c].Nodup
  obtain ⟨h1, h2, h3, _⟩ := h
  simp [h1, h2, h3]
theorem entsOf_ne {a b c : Str} {e : (Str × List Kd) × PyData} (h : e ∈ entsOf a b c) : e.1.2 ≠ [] := by
  unfold entsOf at h
  rcases List.mem_cons.mp h with z | h
  · subst z
    exact fun z => nomatch z
  · rcases List.mem_cons.mp h with z | h
    · subst z
      exact fun z => nomatch z
    · rw [List.mem_singleton.mp h]
      exact fun z => nomatch z
theorem sch_ok {a b c : Str} (h : NamesOk a b c) : ∀ s ∈ (entsOf a b c).map (·.1), (∀ y ∈ s.1.cps.toList, y < 128) ∧ s.2.length ≤ 3 := by
  obtain ⟨_, _, _, _, h1, h2, h3⟩ := h
  intro s hs
  have hs' : s ∈ [(a, [Kd.num, Kd.num, Kd.txt]), (b, [Kd.num, Kd.num]), (c, [Kd.txt, Kd.num])] := hs
  rcases List.mem_cons.mp hs' with z | hs'
  · subst z
    exact ⟨h1.2, Nat.le_refl 3⟩
  · rcases List.mem_cons.mp hs' with z | hs'
    · subst z
      exact ⟨h2.2, show 2 ≤ 3 by decide⟩
    · rw [List.mem_singleton.mp hs']
      exact ⟨h3.2, show 2 ≤ 3 by decide⟩
theorem tkv_keys {L : List TEnt} {a b c : Str} (hm : L.map (fun q => (q.1, q.2.1)) = (entsOf a b c).map (·.1)) (h : NamesOk a b c) : ShA ((tkv L).map fun p => keyD p.1) 83 ∧ PyData.bulkAll ((tkv L).map fun p => keyD p.1) ≤ 10000 := by
  have e : ((tkv L).map fun p => keyD p.1) = [PyData.str a, .str b, .str c] := by
    have h1 := congrArg (List.map fun q : Str × List Kd => PyData.str q.1) hm
    rw [List.map_map] at h1
    unfold tkv
    rw [List.map_map]
    exact h1
  rw [e]
  obtain ⟨_, _, _, ⟨b1, b2, b3⟩, h1, h2, h3⟩ := h
  refine ⟨sha_cons (sh_str h1.2) (sha_cons (sh_str h2.2) (sha_cons (sh_str h3.2) sha_nil)), ?_⟩
  show a.cps.size + 1 + (b.cps.size + 1 + (c.cps.size + 1 + 0)) ≤ 10000
  omega
theorem rows_297 {tb : Str → List Row} {sch : List (Str × List Kd)} (T : TbOk tb sch) {n m : Nat} {sc : Sc} {d : PyData} {ks : List Kd} {q : Lv → List Row} (h : RepQ tb sch n m sc d ks q) (lv : Lv) (hc : Conf sc lv) : (q lv).length ≤ 297 := by
  have key : ∀ {m : Nat}, RepQ tb sch n m sc d ks q → m ≤ 11 → (q lv).length ≤ 297 := fun h hm => by
    have := ((sound T n).2 h lv hc).2
    omega
  cases h with
  | sel items srcs wh grp hav h hm hsrc hl hne hil hik hi hw hg hh => exact key (RepQ.sel (m := 1) items srcs wh grp hav h (by decide) hsrc hl hne hil hik hi hw hg hh) (by decide)
  | uni h hm h11 e1 e2 => exact key (.uni h hm h11 e1 e2) h11
  | exc h hm h11 e1 e2 => exact key (.exc h hm h11 e1 e2) h11
  | int h hm h11 e1 e2 => exact key (.int h hm h11 e1 e2) h11
def spLaw (K : PySem.W.Frag) : Sp := fun vs H Q _ => ∃ (scr : Addr) (ns : List Int), vs = [.ref scr] ∧ SqL K H scr (ns.map V.int) ∧ ∀ H', Q (.bl true) H'
section
variable {P : Program} {w : World} {K : PySem.W.Frag} {mg : Str → Option Value} {base : Heap} {T0 : Addr}
theorem law_body (Z : Glb mg) (c__law_state : C8.Cal P w K mg base 1 "_law_state" (spState K) []) (c__law_schema : C8.Cal P w K mg base 2 "_law_schema" (spSchema K) []) (c__law_drawn_rows : C8.Cal P w K mg base 3 "_law_drawn_rows" (spDrawn K) []) (c__law_kinds : C8.Cal P w K mg base 2 "_law_kinds" (spKinds K) [])
    (c__law_question : ∀ i : QIx, C8.Cal P w K mg base 24 "_law_question" (spQst i.1.1 i.1.2 K 3) []) (c_plain_answer : ∀ i : TIx, C8.Cal P w K mg base 220 "plain_answer" (spAns i.1.1 i.1.2 K 27) [.ref T0]) (c__law_rows : ∀ i : TIx, C8.Cal P w K mg base 220 "_law_rows" (spLR i.1.1 i.1.2 K 27) [])
    (hT0 : ∃ (o : Obj) (its : Array Value) (n : Nat), K.lookup T0 = some o ∧ o.cls = .type "tuple" ∧ o.data = .seq its n ∧ its.size ≤ sizeLine ∧ Vals [] its.toList)
    {f : Addr} {cdv : Value} {A : Around} {outer : List Env} {s : Shared} {H : Hp} {vs : List V} {Q : VK} {E : XK} (hr : Room 230 (A.deeper (envOfC "law" (C8.fnScope (top 40)) s.heap.objs.size f cdv)))
    (hgd : (A.deeper (envOfC "law" (C8.fnScope (top 40)) s.heap.objs.size f cdv)).guards = some []) (h : spLaw K vs H Q E) :
    ∃ t, PSs (cxOf C8.CX0 P w K mg base ["_law_script", "_law_state_here", "_law_schema_here", "_law_tables", "_law_entry", "_law_question_here", "_law_before", "_law_actual"] "law" (C8.fnScope (top 40)) f cdv A outer s H E).nox (C8.fnBody (top 40)) t ∧ t { nx := fun _ H' => Q .non H', rt := Q } (start ["_law_script", "_law_state_here", "_law_schema_here", "_law_tables", "_law_entry", "_law_question_here", "_law_before", "_law_actual"] vs) H := by
  have S : FnScope ["_law_script", "_law_state_here", "_law_schema_here", "_law_tables", "_law_entry", "_law_question_here", "_law_before", "_law_actual"] ["_law_script"] (C8.fnScope (top 40)) := C8.fnScope_by (by decide +kernel)
  have hun : (A.deeper (envOfC "law" (C8.fnScope (top 40)) s.heap.objs.size f cdv)).units + 200 < cLine := by have := hr.un; omega
  obtain ⟨scr, ns, rfl, hs, q⟩ := h
  refine ⟨_, (pss_cons (ps_set (i := 1) S.nd rfl (by first | exact .inl rfl | exact .inr rfl) (C8.pe_c c__law_state hr (by omega) rfl (pa_cons (pv 0) pa_nilA)))
    (pss_cons (ps_set (i := 2) S.nd rfl (by first | exact .inl rfl | exact .inr rfl) (C8.pe_c c__law_schema hr (by omega) rfl (pa_cons (pv 1) pa_nilA)))
    (pss_cons (ps_set (i := 3) S.nd rfl (by first | exact .inl rfl | exact .inr rfl) pe_dnewK)
    (pss_cons (ps_for PassesOwn.never rfl (pi_listK (K := K) (pv 2)) (pg_name (i := 4) S.nd rfl (by first | exact .inl rfl | exact .inr rfl))
      (pss_one (ps_dput (HU hr) (pv 3) (pe_ix (ix_tupK (K := K)) (pv 4) pe_intA (fun _ _ => rfl)) (C8.pe_c c__law_drawn_rows hr (by omega) rfl (pa_cons (pv 1) (pa_cons (pe_ix (ix_tupK (K := K)) (pv 4) pe_intA (fun _ _ => rfl)) (pa_cons pe_intA pa_nilA)))) rfl)))
    (pss_cons (ps_set (i := 5) S.nd rfl (by first | exact .inl rfl | exact .inr rfl) (pe_cI c__law_question q0 hr (by omega) rfl (pa_cons (pv 1) (pa_cons (pv 2) (pa_cons (pe_lst pa_nilA) (pa_cons pe_intA (pa_cons (C8.pe_c c__law_kinds hr (by omega) rfl (pa_cons (pv 1) pa_nilA)) pa_nilA)))))))
    (pss_cons (ps_set (i := 6) S.nd rfl (by first | exact .inl rfl | exact .inr rfl) (pe_callB (id := "repr") (cr_reprP hgd hun) (by rfl) Z.repr (by decide +kernel) (pa_cons (pe_lst (pa_cons (pv 5) (pa_cons (pv 3) pa_nilA))) pa_nilA)))
    (pss_cons (ps_set (i := 7) S.nd rfl (by first | exact .inl rfl | exact .inr rfl) (pe_cI c_plain_answer t0 hr (by omega) rfl (pa_cons (pv 5) (pa_cons (pv 3) pa_nilA))))
    (pss_one (ps_ret (pe_and (pe_cmpR (op_eq) (pe_callB (id := "repr") (cr_reprD hgd hun) (by rfl) Z.repr (by decide +kernel) (pa_cons (pv 7) pa_nilA)) (pe_callB (id := "repr") (cr_reprD hgd hun) (by rfl) Z.repr (by decide +kernel) (pa_cons (pe_cI c__law_rows t0 hr (by omega) rfl (pa_cons (pv 5) (pa_cons (pv 3) (pa_cons (pe_lst pa_nilA) pa_nilA)))) pa_nilA)) (nomark _)) (pe_one (pe_cmpR (op_eq) (pe_callB (id := "repr") (cr_reprP hgd hun) (by rfl) Z.repr (by decide +kernel) (pa_cons (pe_lst (pa_cons (pv 5) (pa_cons (pv 3) pa_nilA))) pa_nilA)) (pv 6) (nomark _))))))))))))), ?_⟩
  -- the state, the schema
  refine ⟨_, rfl, scr, ns, rfl, hs, fun st H1 G1 s1 => ?_⟩
  refine ⟨_, rfl, st, scr, ns, H, rfl, G1, fun v a b c W2 H2 g2 o2 hv hnm => ?_⟩
  have G2 := G1.step g2 o2
  have hes := entsOf_ok hnm
  -- the tables
  refine fun p hp => ?_
  have pst : p ≠ st := fun z => G2.o.ne (by rw [← z]; exact hp)
  obtain ⟨la, xl, rfl, hla, hxl⟩ := dp_list hv
  have hxl3 : xl.length = (entsOf a b c).length := by rw [dpall_len hxl, List.length_map]
  have s3 := same_new hp (.dK [])
  refine ⟨_, rfl, la, rfl, ⟨xl, same_l s3 (same_l G2.s hla)⟩, ?_⟩
  refine for_list (xs := xl) (fun i σ H' => ∃ a4 U L, σ = [some (.ref scr), some (.ref st), some (.ref la), some (.ref p), a4, none, none, none] ∧ Gs K st scr ns U H' ∧ Gw st W2 H2 U H' ∧ U p = none ∧ H' p = some (.dK (tkv L)) ∧ TOk K U L ∧ L.map (fun q => (q.1, q.2.1)) = ((entsOf a b c).take i).map (·.1))
    ⟨none, W2, [], rfl, G2.up s3, gw_same G2 s3, same_none G2.s hp, upd_same, (fun q h => nomatch h), rfl⟩ (fun i σ H' hi ⟨a4, U, L, e, G3, g3, hU, hL, hT, hm⟩ => ?_) (fun i x σ H' hi ⟨a4, U, L, e, G3, g3, hU, hL, hT, hm⟩ => ?_) fun σ H' ⟨a4, U, L, e, G3, g3, hU, hL, hT, hm⟩ => ?_
  · exact same_l G3.s (g3.g.seq hla)
  · subst e
    obtain ⟨d0, f1, f2⟩ := dpall_get2 hxl hi
    rw [List.getElem?_map] at f1
    cases hent : (entsOf a b c)[i]? with
    | none => rw [hent] at f1; cases f1
    | some en =>
      rw [hent] at f1
      cases f1
      have hmem := List.mem_of_getElem? hent
      obtain ⟨z1, z2, z3⟩ := hes.2 en hmem
      have hfr : en.1.1 ∉ L.map (·.1) := by
        have e1 : L.map (·.1) = ((entsOf a b c).map (·.1.1)).take i := by
          have := congrArg (List.map Prod.fst) hm
          rw [List.map_map, List.map_map] at this
          rw [← List.map_take]
          exact this
        rw [e1]
        exact nodup_take (names_nodup hnm) (by rw [List.getElem?_map, hent]; rfl)
      have hLl : L.length = i := by
        have e1 := congrArg List.length hm
        rw [List.length_map, List.length_map, List.length_take] at e1
        have := (List.getElem?_eq_some_iff.mp hent).1
        omega
      have hi3 : i < 3 := (List.getElem?_eq_some_iff.mp hent).1
      refine ⟨_, rfl, _, rfl, ixT_w 1 G3.s (Dp.up g3.g f2) rfl fun v1 h1 => ?_⟩
      refine ⟨st, scr, ns, U, v1, en.1.2, rfl, G3, h1, entsOf_ne hmem, z2, z3, fun v2 rs W4 H4 g4 o4 hv2 hR hrs => ?_⟩
      have G4 := G3.step g4 o4
      refine ⟨_, rfl, _, rfl, ixT_w 0 G4.s (Dp.up (Same.trn g3.g g4.g) f2) rfl fun v3 h3 => ?_⟩
      have e3 := dp_str h3
      subst e3
      have hL4 : H4 p = some (.dK (tkv L)) := g4.k _ _ hL pst
      have hU4 : W4 p = none := g4.f p (by rw [hL]; exact fun z => nomatch z) hU
      refine ⟨p, _, rfl, DPut.k (k := Sum.inr en.1.1) hL4 (by rw [sizeLine_eq]; unfold tkv; rw [List.length_map]; omega), ?_⟩
      rw [tkv_put en.1.2 rs hfr]
      have gm := Gw.mut (g3.trans g4) hp hU4 (.dK (tkv (L ++ [(en.1.1, en.1.2, v2, rs)])))
      refine ⟨_, W4, L ++ [(en.1.1, en.1.2, v2, rs)], rfl, ⟨gm.i, G4.n, G4.l, stOk_upd G4.o hp G2.o.ne⟩, gm, hU4, upd_same, fun q hq => ?_, ?_⟩
      · rcases List.mem_append.mp hq with h | h
        · exact ⟨Dp.up g4.g (hT q h).1, (hT q h).2⟩
        · rw [List.mem_singleton.mp h]
          exact ⟨hv2, hR, hrs⟩
      · rw [List.map_append, hm, List.take_succ, hent, List.map_append]
        rfl
  · subst e
    rw [hxl3, List.take_length] at hm
    have hnd : (L.map (·.1)).Nodup := by
      have := congrArg (List.map Prod.fst) hm
      rw [List.map_map, List.map_map] at this
      have e1 : L.map (·.1) = (entsOf a b c).map (·.1.1) := this
      rw [e1]
      exact names_nodup hnm
    have hL3 : L.length = 3 := by
      have e1 := congrArg List.length hm
      rw [List.length_map, List.length_map] at e1
      exact e1
    have g5 := Gw.add g3 hL hp hU
    have G5 := G2.step g5 G3.o
    have T5 : TOk K (upd U p (.dK (tkv L))) L := fun q hq => ⟨Dp.up (same_new hU _) (hT q hq).1, (hT q hq).2⟩
    have hT5 : (upd U p (.dK (tkv L))) p = some (.dK (tkv L)) := upd_same
    generalize upd U p (.dK (tkv L)) = U5 at g5 G5 T5 hT5
    have T := tok_tb T5 hnd hm
    have hsch := sch_ok hnm
    -- the question
    refine ⟨_, rfl, _, rfl, by show 0 ≤ sizeLine; decide, fun p2 hp2 => ⟨_, rfl, ?_⟩⟩
    have G6 := G5.new hp2 (.lst [])
    have s6 := same_new (same_none G5.s hp2) (.lst [])
    refine ⟨st, scr, ns, _, rfl, G6, fun vk kds W7 H7 g7 o7 hvk hk0 hk3 hkc => ?_⟩
    have G7 := G6.step g7 o7
    have s7 := Same.trn s6 g7.g
    have hxo : Dp K W7 (.ref p2) (scD []) := .lst (g7.g.seq (SqL.of upd_same)) .nil
    refine ⟨⟨(tbOf L, entsOf a b c), hes⟩, st, scr, ns, W7, .ref la, .ref p2, vk, [], kds, 2, rfl, by decide, G7, Dp.up (Same.trn g5.g s7) hv, hxo, ⟨by decide, fun _ h => nomatch h⟩, by decide, hvk, hk0, hk3, hkc, fun vq dd W8 H8 g8 o8 hq hrep hbk => ?_⟩
    obtain ⟨m, qf, hrep⟩ := hrep
    have G8 := G7.step g8 o8
    have s8 := Same.trn s7 g8.g
    have hbk' : dd.bulk ≤ 44840 := hbk
    have hsd : Sh dd 83 := (shown_all hsch _).2 hrep
    have hrow := (sound T _).2 hrep [] .nil
    have hr297 := rows_297 T hrep [] .nil
    have hsr := sh_rows hrow.1
    have hbr : (rowsD (qf [])).bulk ≤ 600000 := by
      have h1 := bulk_rows hrow.1
      have h2 : (41 * kds.length + 1) * (qf []).length ≤ (41 * 3 + 1) * 297 := Nat.mul_le_mul (by omega) hr297
      omega
    have hkeys := tkv_keys hm hnm
    have hrowsD : ShA (L.map fun q => rowsD q.2.2.2) 83 ∧ PyData.bulkAll (L.map fun q => rowsD q.2.2.2) ≤ 100000 := by
      refine ⟨sha_all fun d hd => ?_, ?_⟩
      · obtain ⟨q, hq, rfl⟩ := List.mem_map.mp hd
        exact (sh_rows (hT q hq).2.1).mono (by decide)
      · have h1 := bulkAll_le (B := 372) (ds := L.map fun q => rowsD q.2.2.2) fun d hd => by
          obtain ⟨q, hq, rfl⟩ := List.mem_map.mp hd
          have h1 := bulk_rows (hT q hq).2.1
          have h2 : q.2.1.length ≤ 3 := by
            have : (q.1, q.2.1) ∈ (entsOf a b c).map (·.1) := by rw [← hm]; exact List.mem_map.mpr ⟨q, hq, rfl⟩
            exact (hsch _ this).2
          have h3 : (41 * q.2.1.length + 1) * q.2.2.2.length ≤ (41 * 3 + 1) * 3 := Nat.mul_le_mul (by omega) (hT q hq).2.2
          omega
        rw [List.length_map, hL3] at h1
        omega
    -- the text before
    refine ⟨_, rfl, _, rfl, by show 2 ≤ sizeLine; decide, fun p3 hp3 => ?_⟩
    have s9 := same_new hp3 (.lst [vq, .ref p])
    have u9 := Same.trn G8.s s9
    refine ⟨p3, p, vq, dd, tkv L, _, 83, rfl, SqL.of upd_same, Dp.up u9 hq, u9 _ _ (s8 _ _ hT5), tok_all fun q hq => ⟨Dp.up (Same.trn s8 u9) (T5 q hq).1, (T5 q hq).2⟩, hsd, hkeys.1, hrowsD.1, by decide, by omega, hkeys.2, hrowsD.2, ?_⟩
    -- the program's answer
    have hTup : ∀ H : Hp, Dp K H (.ref T0) (.tuple []) := fun H => by
      obtain ⟨o, its, n, k1, k2, k3, k4, k5⟩ := hT0
      exact .tup (.inr ⟨o, its, n, k1, k2, k3, k4, k5⟩) .nil
    refine ⟨_, rfl, _, rfl, ⟨(tbOf L, (entsOf a b c).map (·.1)), T⟩, vq, .ref T0, p, dd, _, m, [], kds, qf, [], rfl, by decide, hrep, Dp.up u9 hq, .inr (hTup _), tok_at T5 hnd hm (Same.trn s8 u9) (u9 _ _ (s8 _ _ hT5)), .nil, by decide, fun a1 Ha N1 => ?_⟩
    refine ⟨_, rfl, a1, rowsD (qf []), 2, rfl, N1.dp, hsr, by decide, hbr, ?_⟩
    have uA := Same.trn u9 N1.1
    -- the law's rows
    refine ⟨_, rfl, _, rfl, by show 0 ≤ sizeLine; decide, fun p4 hp4 => ?_⟩
    have uB := Same.trn uA (same_new hp4 (.lst []))
    refine ⟨⟨(tbOf L, (entsOf a b c).map (·.1)), T⟩, vq, .ref p4, p, dd, _, m, [], kds, qf, [], rfl, by decide, hrep, Dp.up uB hq, .lst (SqL.of upd_same) .nil, tok_at T5 hnd hm (Same.trn s8 uB) (uB _ _ (s8 _ _ hT5)), .nil, by decide, fun a2 Hc N2 => ?_⟩
    refine ⟨a2, rowsD (qf []), 2, rfl, N2.dp, hsr, by decide, hbr, ?_⟩
    refine ⟨rfl, _, rfl, iteTd (decide_eq_true rfl) ?_⟩
    have uC := Same.trn uB N2.1
    -- the text behind
    refine ⟨_, rfl, _, rfl, by show 2 ≤ sizeLine; decide, fun p5 hp5 => ?_⟩
    have uD := Same.trn uC (same_new hp5 (.lst [vq, .ref p]))
    refine ⟨p5, p, vq, dd, tkv L, _, 83, rfl, SqL.of upd_same, Dp.up uD hq, uD _ _ (s8 _ _ hT5), tok_all fun q hq => ⟨Dp.up (Same.trn s8 uD) (T5 q hq).1, (T5 q hq).2⟩, hsd, hkeys.1, hrowsD.1, by decide, by omega, hkeys.2, hrowsD.2, ?_⟩
    refine ⟨_, rfl, rfl, ?_⟩
    rw [decide_eq_true rfl]
    exact q _
end
end K23

set_option Elab.async false
set_option linter.all false
set_option maxRecDepth 100000
set_option maxHeartbeats 4000000
/-! K23zl: the law's def, run where no guard stands. -/
namespace K23
open PySem PySem.Spec PyProof.Rows L2

/-- a def's promise, where the caller stands under no guard -/
def RunG (P : Program) (w : World) (K : PySem.W.Frag) (mg : Str → Option Value) (base : Heap) (k : Nat) (f : Addr) (fd : FuncData) (ps : List Str) (sp : Sp) : Prop :=
  ∀ (A : Around) (outer : List Env) (s : Shared) (H : Hp) (args : Args) (us : List Value) (vs : List V) (Q : VK) (E : XK), A.guards = some [] → Room k A → Env0 P w K mg base A outer s H → BindsTo s fd args (ps.zip us) → Vals vs us → sp vs H Q E →
    codeAny (model P w) A (.call (.ref f) args) (CR C8.CX0 outer P w H s Q E) s
section
variable {P : Program} {w : World} {K : PySem.W.Frag} {mg : Str → Option Value} {base : Heap}
theorem run_of {x : Str} {st : Stmt} {f : Addr} {fd : FuncData} {N ps : List Str} {k : Nat} {sp : Sp} (F0 : C8.Fun K x x st f fd) (S : FnScope N ps (C8.fnScope st)) (len : ∀ vs H Q E, sp vs H Q E → vs.length = ps.length)
    (hbd : ∀ (cdv : Value) (A : Around) (outer : List Env) (s : Shared) (H : Hp) (vs : List V) (Q : VK) (E : XK), (A.deeper (envOfC x (C8.fnScope st) s.heap.objs.size f cdv)).guards = some [] → Room k (A.deeper (envOfC x (C8.fnScope st) s.heap.objs.size f cdv)) → sp vs H Q E →
      ∃ t, PSs (cxOf C8.CX0 P w K mg base N x (C8.fnScope st) f cdv A outer s H E).nox (C8.fnBody st) t ∧ t { nx := fun _ H' => Q .non H', rt := Q } (start N vs) H) : RunG P w K mg base (k + 1) f fd ps sp := by
  obtain ⟨oc, od, dV, kV, doc, pm, an, cdv, ct, osl, rfl, look, code⟩ := F0.ex
  intro A outer s H args us vs Q E gA room env bind rel prom
  have size := len _ _ _ _ prom
  have KIn : K.In s.heap := env.mod.kin.keeps fun c u z => (env.bs c u z).1
  have noL : s.heap.NoLimit := env.mod.nolimit.keeps fun c u z => (env.bs c u z).1
  have kinds : ∀ y ∈ ps.zip us, (C8.fnScope st).names.lookup y.1 = some .local ∨ ((C8.fnScope st).names.lookup y.1 = some .cell ∧ ((cellsFrom (s.heap.objs.size + 1) (C8.fnScope st).names []).lookup y.1).isSome = true) := by
    rintro ⟨n, u⟩ hy
    rcases S.par n (List.of_mem_zip hy).1 with z | z
    · exact .inl z
    · exact .inr ⟨z, PySem.W.cellsFrom_some _ _ _ (.inl z)⟩
  refine codeAny_call_function room.depth (KIn _ _ look) rfl S.co S.gen rfl (PySem.W.codeRec_of KIn code) (bind _ _ _ _ ?_)
  refine wpAny_newFunctionEnv_cells S.kind kinds fun en2 he s2 inn => ?_
  subst he
  refine ⟨noL.keeps inn.toInCall.keep, codeAny_func ?_⟩
  obtain ⟨t, hPS, hq⟩ := hbd cdv A outer s H vs Q E gA (room.deeper _) prom
  have J0 := inv_start (CX := C8.CX0) (E := E) S room.hd env size rel inn
  refine wpAny_mono (hPS.nox.run [] s2 (start N vs) H _ J0 hq) (fun fl s3 hs => ?_) fun _ _ hs => hs
  cases fl with
  | next =>
    obtain ⟨σ1, H1, J, z⟩ := hs
    exact ⟨.non, H1, J.os, J.bare, J.base, J.hok, rfl, z⟩
  | ret u =>
    obtain ⟨v, σ1, H1, J, rv, z⟩ := hs
    exact ⟨v, H1, J.os, J.bare, J.base, J.hok, rv, z⟩
  | brk =>
    obtain ⟨_, _, _, z⟩ := hs
    exact z.elim
  | cont =>
    obtain ⟨_, _, _, z⟩ := hs
    exact z.elim

/-- the law's call by the claim's caller: its promise holds at the heap behind the top, the script apart -/
theorem end_call {mb : Str → Option Value} {k : Nat} {fa a : Addr} {fd : FuncData} {x : Str} {sp : Sp} {s1 : Shared} {us : List Value} {ns : List Int} (kin : K.In s1.heap) (glob : s1.heap.Ns mainGlobals mg) (blt : s1.heap.Ns builtinsNs mb)
    (boot : ∀ y : Str, y ≠ "__name__" → mb y = bootBuiltins y) (noL : s1.heap.NoLimit) (gens : s1.gens = #[]) (scr : s1.heap.get? a = some { cls := .type "list", data := .seq us.toArray }) (intsV : IntsAre us ns) (small : ns.length ≤ sizeLine) (room : Room k callerA)
    (run : ∀ B : Heap, K.In B → B.Ns mainGlobals mg → RunG P w K mg B k fa fd [x] sp) (bind : ∀ (s : Shared) (u : Value), BindsTo s fd ⟨[u], []⟩ [(x, u)])
    (prom : ∀ H : Hp, SqL K H a (ns.map V.int) → sp [.ref a] H (fun v _ => v = .bl true) fun _ _ _ => False) :
    codeAny (model P w) callerA (.call (.ref fa) ⟨[.ref a], []⟩) (fun r s2 => r = .ok (.ret (.bool true)) ∧ OldK s1.heap s2.heap ∧ s2.os = s1.os ∧ AllBare s2.gens) s1 := by
  have vals := vals_ints intsV
  have same := intsV.length
  -- what is tracked: at the most the script
  have main : ∀ H : Hp, (∀ c, H c = none ∨ ∃ o ys, H c = some (.frz o (.lst ys))) → SqL K H a (ns.map V.int) → HOk P w H s1.heap → (∀ c, H c ≠ none → c = a ∧ K.lookup a = none) →
      codeAny (model P w) callerA (.call (.ref fa) ⟨[.ref a], []⟩) (fun r s2 => r = .ok (.ret (.bool true)) ∧ OldK s1.heap s2.heap ∧ s2.os = s1.os ∧ AllBare s2.gens) s1 := by
    intro H only seq ok one
    have free : ∀ {c : Addr} {o : Obj}, s1.heap.get? c = some o → (∀ vs n, o.data ≠ .seq vs n) → H c = none := by
      intro c o e d
      rcases only c with z | ⟨ob, ys, z⟩
      · exact z
      · have e1 := (one c (by rw [z]; exact fun y => nomatch y)).1
        subst e1
        rw [scr] at e
        cases e
        exact absurd rfl (d _ _)
    have dict : ∀ {c : Addr} {m : Str → Option Value}, s1.heap.Ns c m → (hidT s1.heap H).Ns c m := by
      rintro c m ⟨o, es, ep, e, d, rest⟩
      exact ⟨o, es, ep, hidT_get e (free e fun vs n z => by rw [d] at z; cases z), d, rest⟩
    have kinB : K.In (hidT s1.heap H) := by
      intro c o e
      refine hidT_get (kin c o e) ?_
      rcases only c with z | ⟨ob, ys, z⟩
      · exact z
      · obtain ⟨e1, e2⟩ := one c (by rw [z]; exact fun y => nomatch y)
        subst e1
        rw [e2] at e
        cases e
    obtain ⟨mc, lim1, lim2⟩ := noL
    have mod : Mod K mg (hidT s1.heap H) := ⟨kinB, dict glob, ⟨mb, dict blt, boot⟩, mc, dict lim1, lim2⟩
    have env : Env0 P w K mg (hidT s1.heap H) callerA [] s1 H := ⟨rfl, mod, fun c o e => of_hidT e, Nat.le_of_eq (hidT_size _ _), trivial, (fun c hc => nomatch (show c ∈ ([] : List Addr) from hc)), ok, .of_eq gens⟩
    refine codeAny_mono (run _ kinB (dict glob) callerA [] s1 H ⟨[.ref a], []⟩ [.ref a] [.ref a] _ _ rfl room env (bind s1 (.ref a)) (.cons rfl .nil) (prom H seq)) fun r s2 h => ?_
    match r, h with
    | .error e, h => exact h.elim
    | .ok .next, h => exact False.elim h
    | .ok .brk, h => exact False.elim h
    | .ok .cont, h => exact False.elim h
    | .ok (.ret u), h =>
      obtain ⟨v, H2, os, bare, un, ok2, rel, z⟩ := h
      obtain rfl : v = V.bl true := z
      have eu : u = Value.bool true := rel
      subst eu
      refine ⟨rfl, OldK.of_keep fun c o e => ?_, os, bare⟩
      rcases only c with z | ⟨ob, ys, z⟩
      · exact un.keep c o e z (fun y => nomatch (show c ∈ ([] : List Addr) from y)) (by simp)
      · have here := (ok c _ z).1
        have there := (ok2 c _ (un.frzs c ob _ z)).1
        rw [e] at here
        cases here
        exact there
  cases look : K.lookup a with
  | some o =>
    have e := kin a o look
    rw [scr] at e
    cases e
    exact main (fun _ => none) (fun _ => .inl rfl) (.inr ⟨_, us.toArray, _, look, rfl, rfl, rfl, by rw [List.size_toArray, same]; exact small, by simpa using vals⟩) (fun c u z => nomatch (show (none : Option HO) = some u from z)) fun c z => absurd rfl z
  | none =>
    let o1 : Obj := { cls := .type "list", data := .seq us.toArray }
    have at1 : ∀ c, c = a → (fun c => if c = a then some (HO.frz o1 (.lst (ns.map V.int))) else none) c = some (HO.frz o1 (.lst (ns.map V.int))) := fun c e => if_pos e
    have off1 : ∀ c, c ≠ a → (fun c => if c = a then some (HO.frz o1 (.lst (ns.map V.int))) else none) c = none := fun c e => if_neg e
    generalize (fun c => if c = a then some (HO.frz o1 (.lst (ns.map V.int))) else none : Hp) = H at at1 off1
    refine main H (fun c => ?_) (.inl (.inr ⟨o1, at1 a rfl⟩)) (fun c u z => ?_) fun c z => ?_
    · by_cases e : c = a
      · exact .inr ⟨_, _, at1 c e⟩
      · exact .inl (off1 c e)
    · by_cases e : c = a
      · rw [at1 c e] at z
        cases z
        subst e
        exact ⟨scr, by rw [List.length_map]; exact small, us, _, vals, scr⟩
      · rw [off1 c e] at z
        cases z
    · by_cases e : c = a
      · exact ⟨e, look⟩
      · exact absurd (off1 c e) z
end
end K23

set_option Elab.async false
set_option linter.all false
set_option maxRecDepth 100000
set_option maxHeartbeats 4000000
/-! K23zm: all together. -/
namespace K23
open PySem PySem.Spec PyProof.Rows L2

section
variable {K : PySem.W.Frag} {h : Heap} {mg : Str → Option Value}
theorem mk_def {x : Str} {i : Nat} {f : Addr} {oc kV doc pm cdv ct : Value} {od an : Option Addr} {sl : Array (Option Value)} (X : K.In h) (G : h.Ns mainGlobals mg) (a : PySem.W.nsIn K mainGlobals x = some (some (.ref f)))
    (l : K.lookup f = some ⟨oc, od, .func (PySem.W.fnOf x x (C8.fnArgs (top i)) (C8.fnBody (top i)) (C8.fnScope (top i)) .none kV doc pm an cdv ct), sl⟩) (c : PySem.W.codeIn K cdv x = true) (k : PySem.W.keepIn K (.ref f) = true) : DefN K mg x i :=
  ⟨f, _, ⟨⟨oc, od, .none, kV, doc, pm, an, cdv, ct, sl, rfl, l, c⟩, PySem.W.mg_of X G a, k⟩, rfl⟩
theorem mk_ans {f T T0 : Addr} {oc kV doc pm cdv ct oT : Value} {od an odT od0 : Option Addr} {sl slT sl0 : Array (Option Value)} {nT n0 : Nat} (X : K.In h) (G : h.Ns mainGlobals mg) (a : PySem.W.nsIn K mainGlobals "plain_answer" = some (some (.ref f)))
    (l : K.lookup f = some ⟨oc, od, .func (PySem.W.fnOf "plain_answer" "plain_answer" (C8.fnArgs (top 15)) (C8.fnBody (top 15)) (C8.fnScope (top 15)) (.ref T) kV doc pm an cdv ct), sl⟩) (c : PySem.W.codeIn K cdv "plain_answer" = true) (k : PySem.W.keepIn K (.ref f) = true)
    (lT : K.lookup T = some ⟨oT, odT, .seq #[.ref T0] nT, slT⟩) (l0 : K.lookup T0 = some ⟨.type "tuple", od0, .seq #[] n0, sl0⟩) : AnsN K mg 15 T0 :=
  ⟨⟨f, _, ⟨⟨oc, od, .ref T, kV, doc, pm, an, cdv, ct, sl, rfl, l, c⟩, PySem.W.mg_of X G a, k⟩,
    ⟨⟨oc, od, .ref T, kV, doc, pm, an, cdv, ct, sl, rfl, l, c, .inr ⟨(fun z => nomatch z), T, _, [.ref T0], nT, rfl, lT, rfl, .cons rfl .nil⟩, .inl rfl⟩, k⟩⟩,
    ⟨_, #[], n0, l0, rfl, rfl, by decide, .nil⟩⟩
theorem mk_most {t : Tok} (X : K.In h) (G : h.Ns mainGlobals mg) (a : PySem.W.nsIn K mainGlobals "MOST" = some (some (.int 1000000000000000000 t))) : ∃ u, mg "MOST" = some u ∧ RelV (.int big) u :=
  ⟨_, PySem.W.mg_of X G a, t, rfl⟩
end

section
variable {P : Program} {w : World} {K : PySem.W.Frag} {mg : Str → Option Value}
structure ODefs (K : PySem.W.Frag) (mg : Str → Option Value) : Prop where
  state : DefN K mg "_law_state" 17
  schema : DefN K mg "_law_schema" 19
  drawn : DefN K mg "_law_drawn_rows" 39
  law : DefN K mg "law" 40
theorem all_here {fa T0 : Addr} (YP : PDefs K mg T0) (YL : LDefs K mg) (YG : GDefs K mg) (YO : ODefs K mg) (hmg : mg "law" = some (.ref fa)) :
    ∃ fd : FuncData, (∀ (s : Shared) (u : Value), BindsTo s fd ⟨[u], []⟩ [("_law_script", u)]) ∧ ∀ base : Heap, K.In base → base.Ns mainGlobals mg → RunG P w K mg base 231 fa fd ["_law_script"] (spLaw K) := by
  obtain ⟨f, fd, F0, df⟩ := YO.law.ex
  have e1 : f = fa := by
    have e2 := F0.mgf.symm.trans hmg
    injection e2 with e2
    injection e2 with e2
  subst e1
  refine ⟨fd, ?_, fun base _ _ => ?_⟩
  · obtain ⟨oc, od, dV, kV, doc, pm, an, cdv, ct, sl, rfl, _, _⟩ := F0.fn.ex
    have e3 : dV = .none := df
    subst e3
    exact fun s u => .of_eq rfl
  · refine run_of F0.fn (N := ["_law_script", "_law_state_here", "_law_schema_here", "_law_tables", "_law_entry", "_law_question_here", "_law_before", "_law_actual"]) (ps := ["_law_script"]) (C8.fnScope_by (by decide +kernel)) (fun vs H Q E hq => ?_) fun cdv A outer s H vs Q E gA room prom => ?_
    · obtain ⟨scr, ns, rfl, _⟩ := hq
      rfl
    · have t1 := ok_law_take (P := P) (w := w) (base := base) YG.Z YG.take
      have d2 := ok_law_datum YG.Z YG.datum t1
      exact law_body YG.Z (ok_law_state YG.Z YO.state) (ok_law_schema YG.Z YO.schema t1) (ok_law_drawn_rows YG.Z YO.drawn t1 d2) (ok_law_kinds YG.Z YG.kinds t1)
        (fun i => (gen_all i.2 YG 3).2) (fun i => (prog_all i.2 YP 27).2.2) (fun i => (law_all i.2 YL 27).2) YP.plain_answer.tup room gA prom
end

/-- the goal that the head leaves -/
theorem walk_law {l : PySem.W.OpenLaw} {n : Nat} {q : Program} {loose : List Str} {XP : (Str → Option Value) → Heap → Prop} {YP : World → Heap → Prop} {d : DefRec} {K : Params → PySem.W.Frag} (hn : l.most = some n) (hn2 : n ≤ sizeLine) (hdf : d.params.defaults = [])
    (hY : ∀ (w : World) (h : Heap), YP w h → (K w.params).In h)
    (F : ∀ (w : World) (mg : Str → Option Value) (fa : Addr) (h : Heap), (K w.params).In h → h.Ns mainGlobals mg → mg d.name = some (.ref fa) →
      ∃ T0, PDefs (K w.params) mg T0 ∧ LDefs (K w.params) mg ∧ GDefs (K w.params) mg ∧ ODefs (K w.params) mg ∧ mg "law" = some (.ref fa)) :
    PySem.W.WalkO q loose XP YP l.row.toRowW d [] (fun f vs => PySem.call f vs) := by
  refine Att.attach_call hn hdf fun w s0 s1 mg mb fa o pm cd doc a us ns G Y _ _ _ hmg scr intsV small gens => ?_
  have X := hY w _ Y
  obtain ⟨T0, YP1, YL, YG, YO, e⟩ := F w mg fa _ X G.T.g hmg
  obtain ⟨fd, bind, run⟩ := all_here (P := l.prog) (w := w) YP1 YL YG YO e
  exact end_call X G.T.g G.T.b G.T.builtins G.T.nolimit gens scr intsV (Nat.le_trans small hn2) ⟨rfl, by decide, by decide⟩ run bind fun H seq => ⟨a, ns, rfl, seq, fun _ => rfl⟩
end K23

set_option Elab.async false
set_option linter.all false
set_option maxRecDepth 100000
set_option maxHeartbeats 4000000
/-! K23zn: the head. -/
namespace K23
open PySem PySem.Spec PyProof.Rows L2
theorem mk_glb {K : PySem.W.Frag} {h : Heap} {mg : Str → Option Value} {t : Tok} (X : K.In h) (G : h.Ns mainGlobals mg) (m : PySem.W.nsIn K mainGlobals "MOST" = some (some (.int 1000000000000000000 t)))
    (z0 : PySem.W.nsIn K mainGlobals "len" = some none) (z1 : PySem.W.nsIn K mainGlobals "list" = some none) (z2 : PySem.W.nsIn K mainGlobals "min" = some none) (z3 : PySem.W.nsIn K mainGlobals "max" = some none) (z4 : PySem.W.nsIn K mainGlobals "sum" = some none) (z5 : PySem.W.nsIn K mainGlobals "sorted" = some none) (z6 : PySem.W.nsIn K mainGlobals "set" = some none) (z7 : PySem.W.nsIn K mainGlobals "tuple" = some none) (z8 : PySem.W.nsIn K mainGlobals "int" = some none) (z9 : PySem.W.nsIn K mainGlobals "abs" = some none) (z10 : PySem.W.nsIn K mainGlobals "range" = some none) (z11 : PySem.W.nsIn K mainGlobals "repr" = some none) : Glb mg :=
  ⟨PySem.W.mg_none_of X G z0, PySem.W.mg_none_of X G z1, PySem.W.mg_none_of X G z2, PySem.W.mg_none_of X G z3, PySem.W.mg_none_of X G z4, PySem.W.mg_none_of X G z5, PySem.W.mg_none_of X G z6, PySem.W.mg_none_of X G z7, PySem.W.mg_none_of X G z8, PySem.W.mg_none_of X G z9, PySem.W.mg_none_of X G z10, PySem.W.mg_none_of X G z11, mk_most X G m⟩
theorem assemble {K : PySem.W.Frag} {h : Heap} {mg : Str → Option Value} {fa : Addr} (_ : K.In h) (e : mg "law" = some (.ref fa)) (Z : Glb mg) (A : ∃ T0, AnsN K mg 15 T0)
    (d2 : DefN K mg "wrap" 2) (d3 : DefN K mg "quotient" 3) (d4 : DefN K mg "remainder" 4) (d6 : DefN K mg "arithmetic" 6) (d7 : DefN K mg "compared" 7) (d8 : DefN K mg "operator_value" 8) (d9 : DefN K mg "gathered" 9) (d10 : DefN K mg "group_value" 10) (d11 : DefN K mg "value_of" 11) (d12 : DefN K mg "plain_choices" 12) (d13 : DefN K mg "plain_groups" 13) (d14 : DefN K mg "plain_select" 14) (d32 : DefN K mg "_law_wrap" 32) (d33 : DefN K mg "_law_divided" 33) (d34 : DefN K mg "_law_pair" 34) (d35 : DefN K mg "_law_eval" 35) (d36 : DefN K mg "_law_choices" 36) (d37 : DefN K mg "_law_grouped" 37) (d38 : DefN K mg "_law_rows" 38) (d18 : DefN K mg "_law_take" 18) (d20 : DefN K mg "_law_datum" 20) (d21 : DefN K mg "_law_constant" 21) (d22 : DefN K mg "_law_cells" 22) (d23 : DefN K mg "_law_value" 23) (d24 : DefN K mg "_law_comparison" 24) (d25 : DefN K mg "_law_condition" 25) (d26 : DefN K mg "_law_kinds" 26) (d27 : DefN K mg "_law_group_value" 27) (d28 : DefN K mg "_law_having" 28) (d29 : DefN K mg "_law_group" 29) (d30 : DefN K mg "_law_select" 30) (d31 : DefN K mg "_law_question" 31) (d17 : DefN K mg "_law_state" 17) (d19 : DefN K mg "_law_schema" 19) (d39 : DefN K mg "_law_drawn_rows" 39) (d40 : DefN K mg "law" 40) :
    ∃ T0, PDefs K mg T0 ∧ LDefs K mg ∧ GDefs K mg ∧ ODefs K mg ∧ mg "law" = some (.ref fa) := by
  obtain ⟨T0, A⟩ := A
  exact ⟨T0, ⟨Z, d2, d3, d4, d6, d7, d8, d9, d10, d11, d12, d13, d14, A⟩, ⟨Z, d32, d33, d34, d35, d36, d37, d38⟩, ⟨Z, d18, d20, d21, d22, d23, d24, d25, d26, d27, d28, d29, d30, d31⟩, ⟨d17, d19, d39, d40⟩, e⟩
end K23
open PySem PySem.W PyProof.Rows L2
set_option maxHeartbeats 0 in
theorem PySem.Challenge.cw_pastamended_k23_whole_plain_answers_holds : PySem.Challenge.rw_pastamended_k23_whole_plain_answers.Holds := by
  w_on; o_law; k_head; (case hw => w_witness2)
  k_fill
  refine K23.walk_law (l := PySem.Challenge.rw_pastamended_k23_whole_plain_answers) rfl (by decide) rfl (fun w h Y => PySem.W.kIn_of Y) ?F
  case F =>
    intro w mg fa h KX GX hmg
    refine' K23.assemble KX hmg ?Z ?A ?d2 ?d3 ?d4 ?d6 ?d7 ?d8 ?d9 ?d10 ?d11 ?d12 ?d13 ?d14 ?d32 ?d33 ?d34 ?d35 ?d36 ?d37 ?d38 ?d18 ?d20 ?d21 ?d22 ?d23 ?d24 ?d25 ?d26 ?d27 ?d28 ?d29 ?d30 ?d31 ?d17 ?d19 ?d39 ?d40
    case Z =>
      refine' K23.mk_glb KX GX ?m ?z0 ?z1 ?z2 ?z3 ?z4 ?z5 ?z6 ?z7 ?z8 ?z9 ?z10 ?z11
      (case m => k_is); (case z0 => k_is); (case z1 => k_is); (case z2 => k_is); (case z3 => k_is); (case z4 => k_is); (case z5 => k_is); (case z6 => k_is); (case z7 => k_is); (case z8 => k_is); (case z9 => k_is); (case z10 => k_is); (case z11 => k_is)
    case A =>
      refine' Exists.intro _ (K23.mk_ans KX GX ?a ?l ?c ?k ?t ?u)
      (case a => k_is); (case l => k_is); (case c => k_is); (case k => k_is); (case t => k_is); (case u => k_is)
    case d2 => (refine' K23.mk_def KX GX ?a ?l ?c ?k); (case a => k_is); (case l => k_is); (case c => k_is); (case k => k_is)
    case d3 => (refine' K23.mk_def KX GX ?a ?l ?c ?k); (case a => k_is); (case l => k_is); (case c => k_is); (case k => k_is)
    case d4 => (refine' K23.mk_def KX GX ?a ?l ?c ?k); (case a => k_is); (case l => k_is); (case c => k_is); (case k => k_is)
    case d6 => (refine' K23.mk_def KX GX ?a ?l ?c ?k); (case a => k_is); (case l => k_is); (case c => k_is); (case k => k_is)
    case d7 => (refine' K23.mk_def KX GX ?a ?l ?c ?k); (case a => k_is); (case l => k_is); (case c => k_is); (case k => k_is)
    case d8 => (refine' K23.mk_def KX GX ?a ?l ?c ?k); (case a => k_is); (case l => k_is); (case c => k_is); (case k => k_is)
    case d9 => (refine' K23.mk_def KX GX ?a ?l ?c ?k); (case a => k_is); (case l => k_is); (case c => k_is); (case k => k_is)
    case d10 => (refine' K23.mk_def KX GX ?a ?l ?c ?k); (case a => k_is); (case l => k_is); (case c => k_is); (case k => k_is)
    case d11 => (refine' K23.mk_def KX GX ?a ?l ?c ?k); (case a => k_is); (case l => k_is); (case c => k_is); (case k => k_is)
    case d12 => (refine' K23.mk_def KX GX ?a ?l ?c ?k); (case a => k_is); (case l => k_is); (case c => k_is); (case k => k_is)
    case d13 => (refine' K23.mk_def KX GX ?a ?l ?c ?k); (case a => k_is); (case l => k_is); (case c => k_is); (case k => k_is)
    case d14 => (refine' K23.mk_def KX GX ?a ?l ?c ?k); (case a => k_is); (case l => k_is); (case c => k_is); (case k => k_is)
    case d32 => (refine' K23.mk_def KX GX ?a ?l ?c ?k); (case a => k_is); (case l => k_is); (case c => k_is); (case k => k_is)
    case d33 => (refine' K23.mk_def KX GX ?a ?l ?c ?k); (case a => k_is); (case l => k_is); (case c => k_is); (case k => k_is)
    case d34 => (refine' K23.mk_def KX GX ?a ?l ?c ?k); (case a => k_is); (case l => k_is); (case c => k_is); (case k => k_is)
    case d35 => (refine' K23.mk_def KX GX ?a ?l ?c ?k); (case a => k_is); (case l => k_is); (case c => k_is); (case k => k_is)
    case d36 => (refine' K23.mk_def KX GX ?a ?l ?c ?k); (case a => k_is); (case l => k_is); (case c => k_is); (case k => k_is)
    case d37 => (refine' K23.mk_def KX GX ?a ?l ?c ?k); (case a => k_is); (case l => k_is); (case c => k_is); (case k => k_is)
    case d38 => (refine' K23.mk_def KX GX ?a ?l ?c ?k); (case a => k_is); (case l => k_is); (case c => k_is); (case k => k_is)
    case d18 => (refine' K23.mk_def KX GX ?a ?l ?c ?k); (case a => k_is); (case l => k_is); (case c => k_is); (case k => k_is)
    case d20 => (refine' K23.mk_def KX GX ?a ?l ?c ?k); (case a => k_is); (case l => k_is); (case c => k_is); (case k => k_is)
    case d21 => (refine' K23.mk_def KX GX ?a ?l ?c ?k); (case a => k_is); (case l => k_is); (case c => k_is); (case k => k_is)
    case d22 => (refine' K23.mk_def KX GX ?a ?l ?c ?k); (case a => k_is); (case l => k_is); (case c => k_is); (case k => k_is)
    case d23 => (refine' K23.mk_def KX GX ?a ?l ?c ?k); (case a => k_is); (case l => k_is); (case c => k_is); (case k => k_is)
    case d24 => (refine' K23.mk_def KX GX ?a ?l ?c ?k); (case a => k_is); (case l => k_is); (case c => k_is); (case k => k_is)
    case d25 => (refine' K23.mk_def KX GX ?a ?l ?c ?k); (case a => k_is); (case l => k_is); (case c => k_is); (case k => k_is)
    case d26 => (refine' K23.mk_def KX GX ?a ?l ?c ?k); (case a => k_is); (case l => k_is); (case c => k_is); (case k => k_is)
    case d27 => (refine' K23.mk_def KX GX ?a ?l ?c ?k); (case a => k_is); (case l => k_is); (case c => k_is); (case k => k_is)
    case d28 => (refine' K23.mk_def KX GX ?a ?l ?c ?k); (case a => k_is); (case l => k_is); (case c => k_is); (case k => k_is)
    case d29 => (refine' K23.mk_def KX GX ?a ?l ?c ?k); (case a => k_is); (case l => k_is); (case c => k_is); (case k => k_is)
    case d30 => (refine' K23.mk_def KX GX ?a ?l ?c ?k); (case a => k_is); (case l => k_is); (case c => k_is); (case k => k_is)
    case d31 => (refine' K23.mk_def KX GX ?a ?l ?c ?k); (case a => k_is); (case l => k_is); (case c => k_is); (case k => k_is)
    case d17 => (refine' K23.mk_def KX GX ?a ?l ?c ?k); (case a => k_is); (case l => k_is); (case c => k_is); (case k => k_is)
    case d19 => (refine' K23.mk_def KX GX ?a ?l ?c ?k); (case a => k_is); (case l => k_is); (case c => k_is); (case k => k_is)
    case d39 => (refine' K23.mk_def KX GX ?a ?l ?c ?k); (case a => k_is); (case l => k_is); (case c => k_is); (case k => k_is)
    case d40 => (refine' K23.mk_def KX GX ?a ?l ?c ?k); (case a => k_is); (case l => k_is); (case c => k_is); (case k => k_is)

