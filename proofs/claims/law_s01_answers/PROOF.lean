import PyProof.Rows.All
import Wide.All
import OpenK.AllK
import Wide.FinOn
import PyProof.EqAt
import PyProof.EqKinds
import PyProof.TupleCall
import PyProof.TupleOps
import KE.BitLaws
import Open.SpecLaws
import KE.OsGo
import HandS.ForSpec
import HandS.Comp
import HandS.Iter
import HandS.Conv
import HandS.NoneIn
import HandS.Evl
import HandS.Walk
import PySem.Challenge.RW_scrapcrates_s01_answers
set_option Elab.async false
set_option maxRecDepth 100000
set_option maxHeartbeats 2000000
/-! # The plain law: no program in sight -/
namespace Sc
open Sj14 (Yard Wanted Crate)

/-! ### the best of a list, by a strict weak order: the fold of the specification -/
section Fold
variable (lt : Nat → Nat → Bool)
def fstep (r : Option (Nat × Nat)) (s : Nat) : Option (Nat × Nat) := match r with
  | none => some (s, 1)
  | some (t, n) => if lt s t = true then some (s, 1) else if lt t s = false then some (t, n + 1) else some (t, n)
variable {lt} in
theorem fstep_1 {s t n : Nat} (h : lt s t = true) : fstep lt (some (t, n)) s = some (s, 1) := if_pos h
variable {lt} in
theorem fstep_2 {s t n : Nat} (h : lt s t = false) (h2 : lt t s = false) : fstep lt (some (t, n)) s = some (t, n + 1) := by
  show (if lt s t = true then _ else if lt t s = false then _ else _) = _
  rw [if_neg (by rw [h]; decide), if_pos h2]
variable {lt} in
theorem fstep_3 {s t n : Nat} (h : lt s t = false) (h2 : lt t s = true) : fstep lt (some (t, n)) s = some (t, n) := by
  show (if lt s t = true then _ else if lt t s = false then _ else _) = _
  rw [if_neg (by rw [h]; decide), if_neg (by rw [h2]; decide)]
structure Top (l : List Nat) (t n : Nat) : Prop where
  mem : t ∈ l
  top : ∀ s ∈ l, lt s t = false
  eq : ∃ r, l.filter (fun s => !lt t s) = t :: r ∧ n = r.length + 1
variable {lt}
theorem fold_top {Pp : Nat → Prop} (as : ∀ a b, lt a b = true → lt b a = false) (nt : ∀ a b c, Pp a → Pp b → Pp c → lt a b = false → lt b c = false → lt a c = false) :
    ∀ (r pre : List Nat) (t n : Nat), (∀ s ∈ pre, Pp s) → (∀ s ∈ r, Pp s) → Top lt pre t n → ∃ t' n', r.foldl (fstep lt) (some (t, n)) = some (t', n') ∧ Top lt (pre ++ r) t' n'
  | [], pre, t, n, _, _, h => ⟨t, n, rfl, by rw [List.append_nil]; exact h⟩
  | s :: r, pre, t, n, hp, hr, h => by
    have irr : ∀ a, lt a a = false := fun a => by
      cases e : lt a a with
      | false => rfl
      | true => exact (as a a e).symm.trans e |>.symm
    have hs : Pp s := hr s List.mem_cons_self
    have ht : Pp t := hp t h.mem
    have hp' : ∀ x ∈ pre ++ [s], Pp x := fun x hx => by
      rcases List.mem_append.mp hx with hx | hx
      · exact hp x hx
      · rw [List.mem_singleton] at hx
        rw [hx]
        exact hs
    have go : ∀ t' n', Top lt (pre ++ [s]) t' n' → fstep lt (some (t, n)) s = some (t', n') → ∃ t'' n'', (s :: r).foldl (fstep lt) (some (t, n)) = some (t'', n'') ∧ Top lt (pre ++ s :: r) t'' n'' := fun t' n' h' e => by
      obtain ⟨t2, n2, h1, h2⟩ := fold_top as nt r (pre ++ [s]) t' n' hp' (fun x hx => hr x (List.mem_cons_of_mem _ hx)) h'
      refine ⟨t2, n2, ?_, by simpa using h2⟩
      rw [List.foldl_cons, e]
      exact h1
    cases e1 : lt s t with
    | true =>
      refine go s 1 ⟨by simp, fun x hx => ?_, [], ?_, rfl⟩ (by show (if lt s t = true then _ else _) = _; rw [if_pos e1])
      · rcases List.mem_append.mp hx with hx | hx
        · cases e2 : lt x s with
          | false => rfl
          | true =>
            have := nt s x t hs (hp x hx) ht (as x s e2) (h.top x hx)
            rw [e1] at this
            cases this
        · rw [List.mem_singleton] at hx
          rw [hx]
          exact irr s
      · rw [List.filter_append]
        have e3 : pre.filter (fun x => !lt s x) = [] := by
          rw [List.filter_eq_nil_iff]
          intro x hx
          cases e4 : lt s x with
          | true => simp
          | false =>
            have := nt s x t hs (hp x hx) ht e4 (h.top x hx)
            rw [e1] at this
            cases this
        rw [e3]
        simp [irr s]
    | false =>
      obtain ⟨q, h1, h2⟩ := h.eq
      cases e2 : lt t s with
      | false =>
        refine go t (n + 1) ⟨List.mem_append_left _ h.mem, fun x hx => ?_, q ++ [s], ?_, by simp [h2]⟩ (by show (if lt s t = true then _ else _) = _; rw [if_neg (by rw [e1]; decide), if_pos e2])
        · rcases List.mem_append.mp hx with hx | hx
          · exact h.top x hx
          · rw [List.mem_singleton] at hx
            rw [hx]
            exact e1
        · rw [List.filter_append, h1]
          simp [e2]
      | true =>
        refine go t n ⟨List.mem_append_left _ h.mem, fun x hx => ?_, q, ?_, h2⟩ (by show (if lt s t = true then _ else _) = _; rw [if_neg (by rw [e1]; decide), if_neg (by rw [e2]; decide)])
        · rcases List.mem_append.mp hx with hx | hx
          · exact h.top x hx
          · rw [List.mem_singleton] at hx
            rw [hx]
            exact e1
        · rw [List.filter_append, h1]
          simp [e2]
theorem fold_all {Pp : Nat → Prop} (as : ∀ a b, lt a b = true → lt b a = false) (nt : ∀ a b c, Pp a → Pp b → Pp c → lt a b = false → lt b c = false → lt a c = false) :
    ∀ (l : List Nat), (∀ s ∈ l, Pp s) → l ≠ [] → ∃ t n, l.foldl (fstep lt) none = some (t, n) ∧ Top lt l t n
  | [], _, h => absurd rfl h
  | s :: r, hp, _ => by
    have irr : lt s s = false := by
      cases e : lt s s with
      | false => rfl
      | true => exact (as s s e).symm.trans e |>.symm
    obtain ⟨t, n, h1, h2⟩ := fold_top as nt r [s] s 1 (fun x hx => hp x (by rw [List.mem_singleton] at hx; rw [hx]; exact List.mem_cons_self)) (fun x hx => hp x (List.mem_cons_of_mem _ hx))
      ⟨by simp, fun x hx => by rw [List.mem_singleton] at hx; rw [hx]; exact irr, [], by simp [irr], rfl⟩
    exact ⟨t, n, h1, h2⟩
/-- what the specification folds is this fold, seen through `view` -/
theorem fold_view {R : Type} (view : Nat × Nat → R) (g : Option R → Nat → Option R) : ∀ (l : List Nat) (r : Option (Nat × Nat)), (∀ r s, g (r.map view) s = (fstep lt r s).map view) → l.foldl g (r.map view) = (l.foldl (fstep lt) r).map view
  | [], _, _ => rfl
  | s :: l, r, h => by
    rw [List.foldl_cons, List.foldl_cons, h]
    exact fold_view view g l _ h
end Fold

/-! ### melts as records -/
structure ML where
  number : Nat
  many : Nat
  heavy : Nat
  copper : Nat
  zinc : Nat
  cost : Nat
/-- of a number and a list of crates -/
def ofCrates (n : Nat) (cs : List Crate) : ML := ⟨n, cs.length, (cs.map fun c => c.heavy).sum, (cs.map fun c => c.heavy * c.copper).sum, (cs.map fun c => c.heavy * c.zinc).sum, (cs.map fun c => c.price).sum⟩
def mk (y : Yard) (s : Nat) : ML := ⟨s, y.size s, y.heavy s, y.copper s, y.zinc s, y.price s⟩
theorem ofCrates_mk (y : Yard) (s : Nat) : ofCrates s ((y.members s).map y.crate) = mk y s := by
  unfold ofCrates mk Sj14.Yard.size Sj14.Yard.heavy Sj14.Yard.copper Sj14.Yard.zinc Sj14.Yard.price
  simp only [List.map_map, List.length_map]
  rfl
def wrongOf (w : Wanted) (m : ML) : Nat :=
  if ¬ (w.light ≤ m.heavy ∧ m.heavy ≤ w.heavy) then 1 else if ¬ (w.copperLow * m.heavy ≤ m.copper ∧ m.copper ≤ w.copperHigh * m.heavy) then 2 else
    if ¬ (w.zincLow * m.heavy ≤ m.zinc ∧ m.zinc ≤ w.zincHigh * m.heavy) then 3 else 0
theorem wrongOf_mk (y : Yard) (s : Nat) (h : 1 ≤ y.wanted.light) : wrongOf y.wanted (mk y s) = y.wrong s := by
  unfold wrongOf Sj14.Yard.wrong mk
  dsimp only
  have e1 : (¬ (y.wanted.light ≤ y.heavy s ∧ y.heavy s ≤ y.wanted.heavy)) ↔ (y.heavy s < y.wanted.light ∨ y.wanted.heavy < y.heavy s ∨ y.heavy s = 0) := by omega
  have e2 : (¬ (y.wanted.copperLow * y.heavy s ≤ y.copper s ∧ y.copper s ≤ y.wanted.copperHigh * y.heavy s)) ↔ (y.copper s < y.wanted.copperLow * y.heavy s ∨ y.wanted.copperHigh * y.heavy s < y.copper s) := by omega
  have e3 : (¬ (y.wanted.zincLow * y.heavy s ≤ y.zinc s ∧ y.zinc s ≤ y.wanted.zincHigh * y.heavy s)) ↔ (y.zinc s < y.wanted.zincLow * y.heavy s ∨ y.wanted.zincHigh * y.heavy s < y.zinc s) := by omega
  simp only [e1, e2, e3]

/-! ### a yard that the calls can make -/
structure Ok (y : Yard) : Prop where
  light : 1 ≤ y.wanted.light
  heavy : y.wanted.light ≤ y.wanted.heavy ∧ y.wanted.heavy ≤ 1000
  copper : y.wanted.copperLow ≤ y.wanted.copperHigh ∧ y.wanted.copperHigh ≤ 1000
  zinc : y.wanted.zincLow ≤ y.wanted.zincHigh ∧ y.wanted.zincHigh ≤ 1000
  few : y.crates.length ≤ 8
  each : ∀ c ∈ y.crates, 1 ≤ c.heavy ∧ c.heavy ≤ 200 ∧ c.copper + c.zinc ≤ 1000 ∧ c.price ≤ 1000
theorem ok_init : Ok Sj14.init := ⟨by decide, by decide, by decide, by decide, by decide, fun c h => by cases h⟩
theorem sum_le {α : Type} {f : α → Nat} {B : Nat} : ∀ (l : List α), (∀ x ∈ l, f x ≤ B) → (l.map f).sum ≤ l.length * B
  | [], _ => by simp
  | x :: l, h => by
    have h1 := h x List.mem_cons_self
    have h2 := sum_le l fun z hz => h z (List.mem_cons_of_mem _ hz)
    rw [List.map_cons, List.sum_cons, List.length_cons, Nat.add_mul]
    omega
theorem members_lt {y : Yard} {s i : Nat} (h : i ∈ y.members s) : i < y.crates.length := by
  unfold Sj14.Yard.members at h
  exact List.mem_range.mp (List.mem_filter.mp h).1
theorem members_len (y : Yard) (s : Nat) : (y.members s).length ≤ y.crates.length := by
  unfold Sj14.Yard.members
  refine Nat.le_trans (List.length_filter_le _ _) ?_
  rw [List.length_range]
  exact Nat.le_refl _
theorem crate_in {y : Yard} {i : Nat} (h : i < y.crates.length) : y.crate i ∈ y.crates := by
  unfold Sj14.Yard.crate
  rw [List.getD_eq_getElem?_getD, List.getElem?_eq_getElem h]
  exact List.getElem_mem h
theorem Ok.le {y : Yard} (k : Ok y) {f : Crate → Nat} {B : Nat} (h : ∀ c ∈ y.crates, f c ≤ B) (s : Nat) : ((y.members s).map fun i => f (y.crate i)).sum ≤ 8 * B := by
  refine Nat.le_trans (sum_le (B := B) _ fun i hi => h _ (crate_in (members_lt hi))) ?_
  exact Nat.mul_le_mul_right _ (Nat.le_trans (members_len y s) k.few)
theorem Ok.heavy_le {y : Yard} (k : Ok y) (s : Nat) : y.heavy s ≤ 1600 := k.le (f := fun c => c.heavy) (B := 200) (fun c hc => (k.each c hc).2.1) s
theorem Ok.copper_le {y : Yard} (k : Ok y) (s : Nat) : y.copper s ≤ 1600000 := k.le (f := fun c => c.heavy * c.copper) (B := 200000) (fun c hc => by
  obtain ⟨h1, h2, h3, _⟩ := k.each c hc
  exact Nat.le_trans (Nat.mul_le_mul h2 (show c.copper ≤ 1000 by omega)) (by decide)) s
theorem Ok.zinc_le {y : Yard} (k : Ok y) (s : Nat) : y.zinc s ≤ 1600000 := k.le (f := fun c => c.heavy * c.zinc) (B := 200000) (fun c hc => by
  obtain ⟨h1, h2, h3, _⟩ := k.each c hc
  exact Nat.le_trans (Nat.mul_le_mul h2 (show c.zinc ≤ 1000 by omega)) (by decide)) s
theorem Ok.price_le {y : Yard} (k : Ok y) (s : Nat) : y.price s ≤ 8000 := k.le (f := fun c => c.price) (B := 1000) (fun c hc => (k.each c hc).2.2.2) s
theorem sum_pos {α : Type} {f : α → Nat} : ∀ {l : List α}, (∀ x ∈ l, 1 ≤ f x) → l ≠ [] → 1 ≤ (l.map f).sum
  | [], _, h => absurd rfl h
  | x :: l, h, _ => by
    have h1 := h x List.mem_cons_self
    rw [List.map_cons, List.sum_cons]
    omega
theorem Ok.heavy_pos {y : Yard} (k : Ok y) {s : Nat} (h0 : s ≠ 0) (h : s < 2 ^ y.crates.length) : 1 ≤ y.heavy s := by
  refine sum_pos (f := fun i => (y.crate i).heavy) (fun i hi => (k.each _ (crate_in (members_lt hi))).1) ?_
  obtain ⟨i, hi⟩ := Nat.exists_testBit_of_ne_zero h0
  intro e
  have lt : i < y.crates.length := by
    by_cases c : i < y.crates.length
    · exact c
    · have := Nat.testBit_lt_two_pow (Nat.lt_of_lt_of_le h (Nat.pow_le_pow_right (by decide) (Nat.le_of_not_lt c)))
      rw [hi] at this
      cases this
  have m : i ∈ y.members s := by
    unfold Sj14.Yard.members
    exact List.mem_filter.mpr ⟨List.mem_range.mpr lt, hi⟩
  rw [e] at m
  cases m
theorem right_heavy {y : Yard} {s : Nat} (h : y.right s = true) : 1 ≤ y.heavy s := by
  unfold Sj14.Yard.right at h
  rw [Bool.and_eq_true] at h
  have e : y.wrong s = 0 := by simpa using h.2
  by_cases c : y.heavy s = 0
  · unfold Sj14.Yard.wrong at e
    dsimp only at e
    rw [if_pos (by omega)] at e
    cases e
  · omega
theorem melts_heavy {y : Yard} {s : Nat} (h : s ∈ y.melts) : 1 ≤ y.heavy s := right_heavy (List.mem_filter.mp h).2
/-- all melts that are as wanted, as the program finds them -/
def wanted (y : Yard) : List ML := y.melts.map (mk y)
theorem zero_wrong (y : Yard) : y.right 0 = false := by
  have e : y.heavy 0 = 0 := by
    have e0 : y.members 0 = [] := by
      unfold Sj14.Yard.members
      rw [List.filter_eq_nil_iff]
      intro i _
      rw [Nat.zero_testBit]
      decide
    unfold Sj14.Yard.heavy
    rw [e0]
    rfl
  unfold Sj14.Yard.right Sj14.Yard.wrong
  dsimp only
  rw [if_pos (by omega)]
  simp
theorem melts_eq (y : Yard) (h : 1 ≤ y.wanted.light) : y.melts = ((List.range (2 ^ y.crates.length - 1)).map (· + 1)).filter fun s => wrongOf y.wanted (mk y s) == 0 := by
  unfold Sj14.Yard.melts
  obtain ⟨n, hn⟩ : ∃ n, 2 ^ y.crates.length = n + 1 := ⟨2 ^ y.crates.length - 1, by have := Nat.two_pow_pos y.crates.length; omega⟩
  have hn' : 2 ^ y.count = n + 1 := hn
  rw [hn, hn', List.range_succ_eq_map, List.filter_cons, if_neg (by rw [zero_wrong]; decide)]
  show List.filter y.right (List.map Nat.succ (List.range n)) = List.filter _ (List.map (· + 1) (List.range (n + 1 - 1)))
  refine List.filter_congr fun s hs => ?_
  rw [wrongOf_mk y s h]
  unfold Sj14.Yard.right
  have lt : s < 2 ^ y.count := by
    obtain ⟨i, hi, rfl⟩ := List.mem_map.mp hs
    have := List.mem_range.mp hi
    rw [hn']
    omega
  rw [decide_eq_true lt, Bool.true_and]

/-! ### the cheapest -/
def cheapLt (y : Yard) (s t : Nat) : Bool := decide (y.price s < y.price t ∨ (y.price s = y.price t ∧ y.heavy t < y.heavy s))
theorem cheap_fold (y : Yard) : y.cheap = (y.melts.foldl (fstep (cheapLt y)) none).map fun p => (⟨y.price p.1, y.heavy p.1, p.2, p.1⟩ : Sj14.Best) := by
  unfold Sj14.Yard.cheap
  refine fold_view (lt := cheapLt y) (fun p => (⟨y.price p.1, y.heavy p.1, p.2, p.1⟩ : Sj14.Best)) _ y.melts none ?_
  rintro (_ | ⟨t, n⟩) s
  · rfl
  · show (if y.price s < y.price t ∨ (y.price s = y.price t ∧ y.heavy t < y.heavy s) then _ else if y.price s = y.price t ∧ y.heavy s = y.heavy t then _ else _) = Option.map _ (fstep (cheapLt y) (some (t, n)) s)
    by_cases c1 : y.price s < y.price t ∨ (y.price s = y.price t ∧ y.heavy t < y.heavy s)
    · rw [if_pos c1, fstep_1 (decide_eq_true c1)]
      rfl
    · by_cases c2 : y.price s = y.price t ∧ y.heavy s = y.heavy t
      · rw [if_neg c1, if_pos c2, fstep_2 (decide_eq_false c1) (decide_eq_false (by omega))]
        rfl
      · rw [if_neg c1, if_neg c2, fstep_3 (decide_eq_false c1) (decide_eq_true (by omega))]
        rfl
structure IsCheapest (ms best : List ML) (least most : Nat) : Prop where
  l1 : ∃ m ∈ ms, m.cost = least
  l2 : ∀ m ∈ ms, least ≤ m.cost
  m1 : ∃ m ∈ ms, m.cost = least ∧ m.heavy = most
  m2 : ∀ m ∈ ms, m.cost = least → m.heavy ≤ most
  eq : best = (ms.filter fun m => m.cost == least).filter fun m => m.heavy == most
theorem ne_of_mem {α β : Type} {l : List α} {f : α → β} {m : β} (h : m ∈ l.map f) : l ≠ [] := fun e => by
  rw [e] at h
  cases h
theorem cheapest_is {y : Yard} {best : List ML} {least most : Nat} (h : IsCheapest (wanted y) best least most) : ∃ b r, best = b :: r ∧ y.cheap = some ⟨b.cost, b.heavy, best.length, b.number⟩ := by
  obtain ⟨⟨m0, hm0, e0⟩, l2, ⟨m1, hm1, e1, e1'⟩, m2, eq⟩ := h
  obtain ⟨t, n, hf, T⟩ := fold_all (lt := cheapLt y) (Pp := fun _ => True) (fun a b hab => by
      unfold cheapLt at hab ⊢
      have := of_decide_eq_true hab
      exact decide_eq_false (by omega)) (fun a b c _ _ _ hab hbc => by
      unfold cheapLt at hab hbc ⊢
      have h1 := of_decide_eq_false hab
      have h2 := of_decide_eq_false hbc
      exact decide_eq_false (by omega)) y.melts (fun _ _ => trivial) (ne_of_mem hm0)
  have top : ∀ s ∈ y.melts, ¬ (y.price s < y.price t ∨ (y.price s = y.price t ∧ y.heavy t < y.heavy s)) := fun s hs => of_decide_eq_false (T.top s hs)
  obtain ⟨s0, hs0, rfl⟩ := List.mem_map.mp hm0
  obtain ⟨s1, hs1, rfl⟩ := List.mem_map.mp hm1
  have p0 : y.price s0 = least := e0
  have p1 : y.price s1 = least := e1
  have q1 : y.heavy s1 = most := e1'
  have lt : least ≤ y.price t := l2 (mk y t) (List.mem_map_of_mem T.mem)
  have g0 := top s0 hs0
  have g1 := top s1 hs1
  have pt : y.price t = least := by omega
  have mt : y.heavy t ≤ most := m2 (mk y t) (List.mem_map_of_mem T.mem) pt
  have qt : y.heavy t = most := by omega
  obtain ⟨r, hr, hn⟩ := T.eq
  have eb : best = (t :: r).map (mk y) := by
    rw [eq, ← hr]
    unfold wanted
    rw [List.filter_filter, List.filter_map]
    refine congrArg (List.map (mk y)) (List.filter_congr fun s hs => ?_)
    have g := top s hs
    have g' : least ≤ y.price s := l2 (mk y s) (List.mem_map_of_mem hs)
    show (y.heavy s == most && y.price s == least) = !decide (y.price t < y.price s ∨ (y.price t = y.price s ∧ y.heavy s < y.heavy t))
    by_cases c : y.price t < y.price s ∨ (y.price t = y.price s ∧ y.heavy s < y.heavy t)
    · rw [decide_eq_true c]
      show _ = false
      rw [Bool.and_eq_false_iff, beq_eq_false_iff_ne, beq_eq_false_iff_ne]
      omega
    · rw [decide_eq_false c]
      show _ = true
      rw [Bool.and_eq_true, beq_iff_eq, beq_iff_eq]
      omega
  refine ⟨mk y t, r.map (mk y), eb, ?_⟩
  rw [cheap_fold, hf, eb, List.length_map, List.length_cons, ← hn]
  rfl

/-! ### the one with the most -/
def fullLt (y : Yard) (s t : Nat) : Bool := decide (y.size t < y.size s)
theorem most_fold (y : Yard) : y.most = (y.melts.foldl (fstep (fullLt y)) none).map fun p => (y.size p.1, p.1) := by
  unfold Sj14.Yard.most
  refine fold_view (lt := fullLt y) (fun p => (y.size p.1, p.1)) _ y.melts none ?_
  rintro (_ | ⟨t, n⟩) s
  · rfl
  · show (if y.size t < y.size s then _ else _) = Option.map _ (fstep (fullLt y) (some (t, n)) s)
    by_cases c1 : y.size t < y.size s
    · rw [if_pos c1, fstep_1 (decide_eq_true c1)]
      rfl
    · by_cases c2 : y.size s < y.size t
      · rw [if_neg c1, fstep_3 (decide_eq_false c1) (decide_eq_true c2)]
        rfl
      · rw [if_neg c1, fstep_2 (decide_eq_false c1) (decide_eq_false c2)]
        rfl
structure IsFullest (ms best : List ML) (most : Nat) : Prop where
  m1 : ∃ m ∈ ms, m.many = most
  m2 : ∀ m ∈ ms, m.many ≤ most
  eq : best = ms.filter fun m => m.many == most
theorem fullest_is {y : Yard} {best : List ML} {most : Nat} (h : IsFullest (wanted y) best most) : ∃ b r, best = b :: r ∧ y.most = some (b.many, b.number) := by
  obtain ⟨⟨m0, hm0, e0⟩, m2, eq⟩ := h
  obtain ⟨t, n, hf, T⟩ := fold_all (lt := fullLt y) (Pp := fun _ => True) (fun a b hab => by
      unfold fullLt at hab ⊢
      have := of_decide_eq_true hab
      exact decide_eq_false (by omega)) (fun a b c _ _ _ hab hbc => by
      unfold fullLt at hab hbc ⊢
      have h1 := of_decide_eq_false hab
      have h2 := of_decide_eq_false hbc
      exact decide_eq_false (by omega)) y.melts (fun _ _ => trivial) (ne_of_mem hm0)
  have top : ∀ s ∈ y.melts, ¬ (y.size t < y.size s) := fun s hs => of_decide_eq_false (T.top s hs)
  obtain ⟨s0, hs0, rfl⟩ := List.mem_map.mp hm0
  have p0 : y.size s0 = most := e0
  have lt : y.size t ≤ most := m2 (mk y t) (List.mem_map_of_mem T.mem)
  have g0 := top s0 hs0
  obtain ⟨r, hr, hn⟩ := T.eq
  have eb : best = (t :: r).map (mk y) := by
    rw [eq, ← hr]
    unfold wanted
    rw [List.filter_map]
    refine congrArg (List.map (mk y)) (List.filter_congr fun s hs => ?_)
    have g := top s hs
    show (y.size s == most) = !decide (y.size s < y.size t)
    by_cases c : y.size s < y.size t
    · rw [decide_eq_true c]
      show _ = false
      rw [beq_eq_false_iff_ne]
      omega
    · rw [decide_eq_false c]
      show _ = true
      rw [beq_iff_eq]
      omega
  refine ⟨mk y t, r.map (mk y), eb, ?_⟩
  rw [most_fold, hf]
  rfl

/-! ### the nearest -/
theorem cross {a1 h1 a2 h2 a3 h3 : Nat} (p : 0 < h2) (x : a1 * h2 ≤ a2 * h1) (z : a2 * h3 ≤ a3 * h2) : a1 * h3 ≤ a3 * h1 := by
  have k1 : a1 * h2 * h3 ≤ a2 * h1 * h3 := Nat.mul_le_mul_right h3 x
  have k2 : a2 * h3 * h1 ≤ a3 * h2 * h1 := Nat.mul_le_mul_right h1 z
  refine Nat.le_of_mul_le_mul_left (a := a1 * h3) (b := a3 * h1) (c := h2) ?_ p
  have i1 : h2 * (a1 * h3) = a1 * h2 * h3 := by rw [Nat.mul_left_comm, ← Nat.mul_assoc]
  have i2 : h2 * (a3 * h1) = a3 * h2 * h1 := by rw [Nat.mul_left_comm, ← Nat.mul_assoc]
  have i3 : a2 * h1 * h3 = a2 * h3 * h1 := Nat.mul_right_comm _ _ _
  rw [i1, i2]
  omega
/-- a fraction's parts -/
def low (a h : Nat) : Nat × Nat := (a / Nat.gcd a h, h / Nat.gcd a h)
def fless (p q : Nat × Nat) : Bool := decide (p.1 * q.2 < q.1 * p.2)
theorem low_parts {a h : Nat} (p : 0 < h) : ∃ g, 0 < g ∧ a = (low a h).1 * g ∧ h = (low a h).2 * g ∧ Nat.Coprime (low a h).1 (low a h).2 ∧ 0 < (low a h).2 := by
  have g0 : 0 < Nat.gcd a h := Nat.gcd_pos_of_pos_right a p
  refine ⟨Nat.gcd a h, g0, (Nat.div_mul_cancel (Nat.gcd_dvd_left a h)).symm, (Nat.div_mul_cancel (Nat.gcd_dvd_right a h)).symm, Nat.coprime_div_gcd_div_gcd g0, Nat.div_pos (Nat.le_of_dvd p (Nat.gcd_dvd_right a h)) g0⟩
theorem low_less {a h b k : Nat} (p : 0 < h) (q : 0 < k) : fless (low a h) (low b k) = decide (a * k < b * h) := by
  obtain ⟨g, g0, e1, e2, _, _⟩ := low_parts (a := a) p
  obtain ⟨g', g0', e1', e2', _, _⟩ := low_parts (a := b) q
  unfold fless
  have gg : 0 < g * g' := Nat.mul_pos g0 g0'
  have i1 : a * k = (low a h).1 * (low b k).2 * (g * g') := by
    conv => lhs; rw [e1, e2']
    rw [Nat.mul_mul_mul_comm]
  have i2 : b * h = (low b k).1 * (low a h).2 * (g * g') := by
    conv => lhs; rw [e1', e2]
    rw [Nat.mul_mul_mul_comm, Nat.mul_comm g' g]
  rw [i1, i2]
  by_cases c : (low a h).1 * (low b k).2 < (low b k).1 * (low a h).2
  · rw [decide_eq_true c, decide_eq_true (Nat.mul_lt_mul_of_pos_right c gg)]
  · rw [decide_eq_false c, decide_eq_false (Nat.not_lt_of_le (Nat.mul_le_mul_right _ (Nat.le_of_not_lt c)))]
theorem low_eq {a h b k : Nat} (p : 0 < h) (q : 0 < k) : low a h = low b k ↔ a * k = b * h := by
  obtain ⟨g, g0, e1, e2, c1, z1⟩ := low_parts (a := a) p
  obtain ⟨g', g0', e1', e2', c2, z2⟩ := low_parts (a := b) q
  have gg : 0 < g * g' := Nat.mul_pos g0 g0'
  have i1 : a * k = (low a h).1 * (low b k).2 * (g * g') := by
    conv => lhs; rw [e1, e2']
    rw [Nat.mul_mul_mul_comm]
  have i2 : b * h = (low b k).1 * (low a h).2 * (g * g') := by
    conv => lhs; rw [e1', e2]
    rw [Nat.mul_mul_mul_comm, Nat.mul_comm g' g]
  constructor
  · intro e
    rw [i1, i2, e]
  · intro e
    rw [i1, i2] at e
    have e' : (low a h).1 * (low b k).2 = (low b k).1 * (low a h).2 := Nat.eq_of_mul_eq_mul_right gg e
    have d1 : (low a h).1 ∣ (low b k).1 := c1.dvd_of_dvd_mul_right (e' ▸ Nat.dvd_mul_right _ _)
    have d2 : (low b k).1 ∣ (low a h).1 := c2.dvd_of_dvd_mul_right (e'.symm ▸ Nat.dvd_mul_right _ _)
    have f1 : (low a h).2 ∣ (low b k).2 := c1.symm.dvd_of_dvd_mul_left (e'.symm ▸ Nat.dvd_mul_left _ _)
    have f2 : (low b k).2 ∣ (low a h).2 := c2.symm.dvd_of_dvd_mul_left (e' ▸ Nat.dvd_mul_left _ _)
    exact Prod.ext (Nat.dvd_antisymm d1 d2) (Nat.dvd_antisymm f1 f2)
def away (k : Nat) (m : ML) : Nat := Sj14.apart m.copper (k * m.heavy)
def frac (k : Nat) (m : ML) : Nat × Nat := low (away k m) m.heavy
theorem frac_pos {k : Nat} {m : ML} (h : 1 ≤ m.heavy) : 0 < (frac k m).2 := by
  obtain ⟨_, _, _, _, _, z⟩ := low_parts (a := away k m) h
  exact z
/-- the loop's best grows by one melt -/
theorem near_more {k : Nat} {ms : List ML} {fr : Nat × Nat} {m : ML} (h0 : 0 < fr.2) (h : ∀ x ∈ ms, fless (frac k x) fr = false) (c : fless (frac k m) fr = true) :
    ∀ x ∈ ms ++ [m], fless (frac k x) (frac k m) = false := fun x hx => by
  rcases List.mem_append.mp hx with hx | hx
  · have a := h x hx
    unfold fless at a c ⊢
    have a := of_decide_eq_false a
    have c := of_decide_eq_true c
    refine decide_eq_false (Nat.not_lt_of_le ?_)
    exact cross h0 (Nat.le_of_lt c) (Nat.le_of_not_lt a)
  · rw [List.mem_singleton] at hx
    rw [hx]
    exact decide_eq_false (Nat.lt_irrefl _)
def nearLt (y : Yard) (k s t : Nat) : Bool := decide (y.off k s * y.heavy t < y.off k t * y.heavy s ∨ (¬ y.off k t * y.heavy s < y.off k s * y.heavy t ∧ y.price s < y.price t))
theorem near_fold (y : Yard) (k : Nat) : y.near k = (y.melts.foldl (fstep (nearLt y k)) none).map fun p => (⟨y.off k p.1, y.heavy p.1, y.price p.1, p.2, p.1⟩ : Sj14.Near) := by
  unfold Sj14.Yard.near
  refine fold_view (lt := nearLt y k) (fun p => (⟨y.off k p.1, y.heavy p.1, y.price p.1, p.2, p.1⟩ : Sj14.Near)) _ y.melts none ?_
  rintro (_ | ⟨t, n⟩) s
  · rfl
  · show (if decide (y.off k s * y.heavy t < y.off k t * y.heavy s) = true ∨ (decide (y.off k t * y.heavy s < y.off k s * y.heavy t) = false ∧ y.price s < y.price t) then _ else
        if decide (y.off k t * y.heavy s < y.off k s * y.heavy t) = false ∧ y.price s = y.price t then _ else _) = Option.map _ (fstep (nearLt y k) (some (t, n)) s)
    have i1 : (decide (y.off k s * y.heavy t < y.off k t * y.heavy s) = true ∨ (decide (y.off k t * y.heavy s < y.off k s * y.heavy t) = false ∧ y.price s < y.price t)) ↔
        (y.off k s * y.heavy t < y.off k t * y.heavy s ∨ (¬ y.off k t * y.heavy s < y.off k s * y.heavy t ∧ y.price s < y.price t)) := by rw [decide_eq_true_eq, decide_eq_false_iff_not]
    have i2 : (decide (y.off k t * y.heavy s < y.off k s * y.heavy t) = false ∧ y.price s = y.price t) ↔ (¬ y.off k t * y.heavy s < y.off k s * y.heavy t ∧ y.price s = y.price t) := by rw [decide_eq_false_iff_not]
    by_cases c1 : y.off k s * y.heavy t < y.off k t * y.heavy s ∨ (¬ y.off k t * y.heavy s < y.off k s * y.heavy t ∧ y.price s < y.price t)
    · rw [if_pos (i1.mpr c1), fstep_1 (decide_eq_true c1)]
      rfl
    · by_cases c2 : ¬ y.off k t * y.heavy s < y.off k s * y.heavy t ∧ y.price s = y.price t
      · rw [if_neg (fun z => c1 (i1.mp z)), if_pos (i2.mpr c2), fstep_2 (decide_eq_false c1) (decide_eq_false (by omega))]
        rfl
      · rw [if_neg (fun z => c1 (i1.mp z)), if_neg (fun z => c2 (i2.mp z)), fstep_3 (decide_eq_false c1) (decide_eq_true (by omega))]
        rfl
structure IsNearest (k : Nat) (ms best : List ML) (fr : Nat × Nat) (least : Nat) : Prop where
  f2 : ∀ m ∈ ms, fless (frac k m) fr = false
  l1 : ∃ m ∈ ms, frac k m = fr ∧ m.cost = least
  l2 : ∀ m ∈ ms, frac k m = fr → least ≤ m.cost
  eq : best = (ms.filter fun m => decide (frac k m = fr)).filter fun m => m.cost == least
theorem nearest_is {y : Yard} {k : Nat} {best : List ML} {fr : Nat × Nat} {least : Nat} (h : IsNearest k (wanted y) best fr least) :
    ∃ b r, best = b :: r ∧ y.near k = some ⟨away k b, b.heavy, b.cost, best.length, b.number⟩ := by
  obtain ⟨f2, ⟨m1, hm1, e1, e1'⟩, l2, eq⟩ := h
  have hp : ∀ s ∈ y.melts, 1 ≤ y.heavy s := fun s hs => melts_heavy hs
  obtain ⟨t, n, hf, T⟩ := fold_all (lt := nearLt y k) (Pp := fun s => 1 ≤ y.heavy s) (fun a b hab => by
      unfold nearLt at hab ⊢
      have := of_decide_eq_true hab
      exact decide_eq_false (by omega)) (fun a b c pa pb pc hab hbc => by
      unfold nearLt at hab hbc ⊢
      have h1 := of_decide_eq_false hab
      have h2 := of_decide_eq_false hbc
      have x1 : y.off k b * y.heavy a ≤ y.off k a * y.heavy b := by omega
      have x2 : y.off k c * y.heavy b ≤ y.off k b * y.heavy c := by omega
      have x3 := cross pb x2 x1
      refine decide_eq_false ?_
      intro z
      by_cases c1 : y.off k a * y.heavy c ≤ y.off k c * y.heavy a
      · have y1 := cross pc c1 x2
        have y2 := cross pa x1 c1
        omega
      · omega) y.melts hp (ne_of_mem hm1)
  have top : ∀ s ∈ y.melts, ¬ (y.off k s * y.heavy t < y.off k t * y.heavy s ∨ (¬ y.off k t * y.heavy s < y.off k s * y.heavy t ∧ y.price s < y.price t)) := fun s hs => of_decide_eq_false (T.top s hs)
  obtain ⟨s1, hs1, rfl⟩ := List.mem_map.mp hm1
  have ht := hp t T.mem
  have h1 := hp s1 hs1
  have fe : ∀ s ∈ y.melts, (frac k (mk y s) = fr ↔ y.off k s * y.heavy s1 = y.off k s1 * y.heavy s) := fun s hs => by
    rw [← e1]
    exact low_eq (hp s hs) h1
  have fl : ∀ s ∈ y.melts, ¬ (y.off k s * y.heavy s1 < y.off k s1 * y.heavy s) := fun s hs => by
    have := f2 (mk y s) (List.mem_map_of_mem hs)
    rw [← e1] at this
    have e : fless (frac k (mk y s)) (frac k (mk y s1)) = decide (y.off k s * y.heavy s1 < y.off k s1 * y.heavy s) := low_less (hp s hs) h1
    rw [e] at this
    exact of_decide_eq_false this
  have p1 : y.price s1 = least := e1'
  have g1 := top s1 hs1
  have gt := fl t T.mem
  have et : frac k (mk y t) = fr := (fe t T.mem).mpr (by omega)
  have ct := (fe t T.mem).mp et
  have lt : least ≤ y.price t := l2 (mk y t) (List.mem_map_of_mem T.mem) et
  have pt : y.price t = least := by omega
  obtain ⟨r, hr, hn⟩ := T.eq
  have eb : best = (t :: r).map (mk y) := by
    rw [eq, ← hr]
    unfold wanted
    rw [List.filter_filter, List.filter_map]
    refine congrArg (List.map (mk y)) (List.filter_congr fun s hs => ?_)
    have g := top s hs
    have hs0 := hp s hs
    have fet : frac k (mk y s) = fr ↔ y.off k s * y.heavy t = y.off k t * y.heavy s := by
      rw [← et]
      exact low_eq hs0 ht
    have g' : frac k (mk y s) = fr → least ≤ y.price s := l2 (mk y s) (List.mem_map_of_mem hs)
    show (y.price s == least && decide (frac k (mk y s) = fr)) = !decide (y.off k t * y.heavy s < y.off k s * y.heavy t ∨ (¬ y.off k s * y.heavy t < y.off k t * y.heavy s ∧ y.price t < y.price s))
    by_cases c : y.off k t * y.heavy s < y.off k s * y.heavy t ∨ (¬ y.off k s * y.heavy t < y.off k t * y.heavy s ∧ y.price t < y.price s)
    · rw [decide_eq_true c]
      show _ = false
      rw [Bool.and_eq_false_iff, beq_eq_false_iff_ne, decide_eq_false_iff_not, fet]
      omega
    · rw [decide_eq_false c]
      show _ = true
      rw [Bool.and_eq_true, beq_iff_eq, decide_eq_true_eq, fet]
      have e : y.off k s * y.heavy t = y.off k t * y.heavy s := by omega
      have := g' (fet.mpr e)
      omega
  refine ⟨mk y t, r.map (mk y), eb, ?_⟩
  rw [near_fold, hf, eb, List.length_map, List.length_cons, ← hn]
  rfl
end Sc
/-! # The plain law: calls from numbers, told one by one -/
namespace Sc
open Sj14 (Yard Wanted Crate)
/-- a call by its numbers -/
inductive CallIs : Int → List Int → Sj14.Call → Prop
  | begins (q : Wanted) : CallIs 0 [(q.light : Int), (q.heavy : Int), (q.copperLow : Int), (q.copperHigh : Int), (q.zincLow : Int), (q.zincHigh : Int)] (.begins q)
  | crate (c : Crate) : CallIs 1 [(c.heavy : Int), (c.copper : Int), (c.zinc : Int), (c.price : Int)] (.crate c)
  | check (n : Nat) : CallIs 2 [(n : Int)] (.check n)
  | cheap : CallIs 3 [] .cheap
  | near (n : Nat) : CallIs 4 [(n : Int)] (.near n)
  | most : CallIs 5 [] .most
def width : Sj14.Call → Nat
  | .begins _ => 6
  | .crate _ => 4
  | .check _ => 1
  | .cheap => 0
  | .near _ => 1
  | .most => 0
theorem CallIs.len {p : Int} {as : List Int} {q : Sj14.Call} (h : CallIs p as q) : as.length = width q := by cases h <;> rfl
theorem CallIs.of {p : Int} {as : List Int} {q : Sj14.Call} (h : CallIs p as q) : Sj14Neutral.callOf (p :: as) = some q := by
  cases h <;> simp [Sj14Neutral.callOf]
theorem call_is {p : Int} {as : List Int} (h : Sj14Neutral.asked1 [p :: as] = true) : ∃ q, CallIs p as q := by
  unfold Sj14Neutral.asked1 at h
  simp only [Bool.and_eq_true] at h
  obtain ⟨_, h2, h3⟩ := h
  have nn : ∀ z ∈ p :: as, ((z.toNat : Nat) : Int) = z := fun z hz => by
    have := List.all_eq_true.mp h2 z hz
    unfold Sj14Neutral.natural at this
    rw [Bool.and_eq_true, decide_eq_true_eq] at this
    omega
  have back : (p :: as) = ((p :: as).map Int.toNat).map fun (n : Nat) => (n : Int) := by
    rw [List.map_map]
    exact ((List.map_congr_left nn).trans (List.map_id _)).symm
  have h3 : (Sj14Neutral.callOf (p :: as)).isSome = true := h3
  unfold Sj14Neutral.callOf at h3
  generalize hm : (p :: as).map Int.toNat = ms at h3 back
  split at h3
  · obtain ⟨rfl, rfl⟩ := List.cons.inj back
    exact ⟨_, .begins ⟨_, _, _, _, _, _⟩⟩
  · obtain ⟨rfl, rfl⟩ := List.cons.inj back
    exact ⟨_, .crate ⟨_, _, _, _⟩⟩
  · obtain ⟨rfl, rfl⟩ := List.cons.inj back
    exact ⟨_, .check _⟩
  · obtain ⟨rfl, rfl⟩ := List.cons.inj back
    exact ⟨_, .cheap⟩
  · obtain ⟨rfl, rfl⟩ := List.cons.inj back
    exact ⟨_, .near _⟩
  · obtain ⟨rfl, rfl⟩ := List.cons.inj back
    exact ⟨_, .most⟩
  · cases h3
abbrev ansI (a : Sj14.Ans) : List Int := a.v :: a.l
/-- what is due for the rest of the numbers, from a yard on -/
structure Due (y : Yard) (rest fin : List Int) : Prop where
  ex : ∃ f cs, PyFlat.calls PySj14.shape f rest = some cs ∧ (∀ c ∈ cs, Sj14Neutral.asked1 c = true) ∧ fin = PyFlat.told (PyFlat.played Sj14Neutral.step y cs)
theorem due_nil {y : Yard} {fin : List Int} (h : Due y [] fin) : fin = [] := by
  obtain ⟨f, cs, hc, _, rfl⟩ := h.ex
  have e : cs = [] := by
    cases f <;> exact (Option.some.inj hc).symm
  rw [e]
  rfl
theorem shape_rows {p : Int} {n k : Nat} (h : PySj14.shape p = some (n, k)) : k = 0 := by
  unfold PySj14.shape at h
  repeat' split at h
  all_goals first
    | (cases h; rfl)
    | cases h
theorem call_parts {p : Int} {r : List Int} {c : List (List Int)} {t : List Int} (h : PyFlat.call PySj14.shape (p :: r) = some (c, t)) : ∃ n, n ≤ r.length ∧ c = [p :: r.take n] ∧ t = r.drop n := by
  unfold PyFlat.call at h
  dsimp only at h
  cases hs : PySj14.shape p with
  | none =>
    rw [hs] at h
    cases h
  | some nk =>
    obtain ⟨n, k⟩ := nk
    have k0 := shape_rows hs
    subst k0
    rw [hs] at h
    dsimp only at h
    by_cases c1 : r.length < n
    · rw [if_pos c1] at h
      cases h
    · rw [if_neg c1] at h
      have e : some ((p :: r.take n) :: [], r.drop n) = some (c, t) := h
      cases e
      exact ⟨n, Nat.le_of_not_lt c1, rfl, rfl⟩
theorem step_is {y : Yard} {p : Int} {as : List Int} {q : Sj14.Call} (h : CallIs p as q) : Sj14Neutral.step y [p :: as] = ((Sj14.step y q).1, ansI (Sj14.step y q).2) := by
  unfold Sj14Neutral.step
  have e : Sj14Neutral.callOf (([p :: as] : List (List Int)).headD []) = some q := h.of
  rw [e]
theorem due_step {y : Yard} {rest fin : List Int} (h : Due y rest fin) (ne : rest ≠ []) : ∃ p as rest' q fin', rest = p :: (as ++ rest') ∧ CallIs p as q ∧ fin = ((((ansI (Sj14.step y q).2).length : Nat) : Int) :: ansI (Sj14.step y q).2) ++ fin' ∧ Due (Sj14.step y q).1 rest' fin' := by
  obtain ⟨f, cs, hc, hg, hf⟩ := h.ex
  cases rest with
  | nil => exact absurd rfl ne
  | cons p r =>
    cases f with
    | zero => cases hc
    | succ f =>
      have hc : (match PyFlat.call PySj14.shape (p :: r) with | none => none | some (c, t) => match PyFlat.calls PySj14.shape f t with | none => none | some cs => some (c :: cs)) = some cs := hc
      cases e1 : PyFlat.call PySj14.shape (p :: r) with
      | none =>
        rw [e1] at hc
        cases hc
      | some ct =>
        obtain ⟨c, t⟩ := ct
        rw [e1] at hc
        dsimp only at hc
        cases e2 : PyFlat.calls PySj14.shape f t with
        | none =>
          rw [e2] at hc
          cases hc
        | some cs' =>
          rw [e2] at hc
          have e3 : c :: cs' = cs := Option.some.inj hc
          subst e3
          obtain ⟨n, hn, rfl, rfl⟩ := call_parts e1
          obtain ⟨q, hq⟩ := call_is (hg _ List.mem_cons_self)
          refine ⟨p, r.take n, r.drop n, q, PyFlat.told (PyFlat.played Sj14Neutral.step (Sj14.step y q).1 cs'), by rw [List.take_append_drop], hq, ?_, ⟨f, cs', e2, fun c hc => hg c (List.mem_cons_of_mem _ hc), rfl⟩⟩
          have e4 : PyFlat.played Sj14Neutral.step y ([p :: r.take n] :: cs') = (Sj14Neutral.step y [p :: r.take n]).2 :: PyFlat.played Sj14Neutral.step (Sj14Neutral.step y [p :: r.take n]).1 cs' := rfl
          rw [hf, e4, step_is hq]
          unfold PyFlat.told
          rw [List.flatMap_cons]
theorem whole_id (c : List (List Int)) : PySj14.whole c = c := by
  unfold PySj14.whole
  split <;> rfl
theorem due_all {l : List Int} (h : PySj14.answers_asked l = true) : Due Sj14.init l (PySj14.answers l) ∧ (PySj14.answers l).length ≤ 10000000 := by
  unfold PySj14.answers_asked at h
  cases e : PyFlat.calls PySj14.shape l.length l with
  | none =>
    rw [e] at h
    cases h
  | some raw =>
    rw [e] at h
    have h : (!raw.isEmpty && PyFlat.atMost 60 raw && PyInside.calls PySj14.bound raw && Sj14Neutral.asked (raw.map PySj14.whole) && PyFlat.short 10000000 (PySj14.answers l)) = true := h
    simp only [Bool.and_eq_true] at h
    obtain ⟨⟨⟨_, _⟩, h2⟩, h3⟩ := h
    have ew : raw.map PySj14.whole = raw := (List.map_congr_left fun c _ => whole_id c).trans (List.map_id _)
    rw [ew] at h2
    unfold Sj14Neutral.asked at h2
    rw [Bool.and_eq_true] at h2
    refine ⟨⟨l.length, raw, e, fun c hc => List.all_eq_true.mp h2.1 c hc, ?_⟩, of_decide_eq_true h3⟩
    unfold PySj14.answers PySj14.calls
    rw [e]
    show PyFlat.told (PyFlat.played Sj14Neutral.step Sj14Neutral.start (raw.map PySj14.whole)) = _
    rw [ew]
    rfl
/-- the yard stays one that the calls can make -/
theorem step_ok {y : Yard} (h : Ok y) (q : Sj14.Call) : Ok (Sj14.step y q).1 := by
  cases q with
  | begins w =>
    by_cases c : w.light < 1 ∨ w.heavy < w.light ∨ 1000 < w.heavy ∨ w.copperHigh < w.copperLow ∨ 1000 < w.copperHigh ∨ w.zincHigh < w.zincLow ∨ 1000 < w.zincHigh
    · have e : Sj14.step y (.begins w) = (y, Sj14.ok (-1)) := if_pos c
      rw [e]
      exact h
    · have e : Sj14.step y (.begins w) = (⟨w, []⟩, Sj14.ok 0) := if_neg c
      rw [e]
      refine ⟨?_, ?_, ?_, ?_, by show 0 ≤ 8; decide, fun c hc => by cases hc⟩
      · show 1 ≤ w.light
        omega
      · show w.light ≤ w.heavy ∧ w.heavy ≤ 1000
        omega
      · show w.copperLow ≤ w.copperHigh ∧ w.copperHigh ≤ 1000
        omega
      · show w.zincLow ≤ w.zincHigh ∧ w.zincHigh ≤ 1000
        omega
  | crate c =>
    by_cases c1 : c.heavy < 1 ∨ 200 < c.heavy ∨ 1000 < c.copper + c.zinc ∨ 1000 < c.price
    · have e : Sj14.step y (.crate c) = (y, Sj14.ok (-1)) := if_pos c1
      rw [e]
      exact h
    · by_cases c2 : 8 ≤ y.crates.length
      · have e : Sj14.step y (.crate c) = (y, Sj14.ok (-5)) := (if_neg c1).trans (if_pos c2)
        rw [e]
        exact h
      · have e : Sj14.step y (.crate c) = ({ y with crates := y.crates ++ [c] }, Sj14.ok ((y.count : Nat) : Int)) := (if_neg c1).trans (if_neg c2)
        rw [e]
        refine ⟨h.light, h.heavy, h.copper, h.zinc, ?_, fun d hd => ?_⟩
        · show (y.crates ++ [c]).length ≤ 8
          rw [List.length_append]
          show y.crates.length + 1 ≤ 8
          omega
        · rcases List.mem_append.mp hd with hd | hd
          · exact h.each d hd
          · rw [List.mem_singleton] at hd
            rw [hd]
            omega
  | check s =>
    have e : (Sj14.step y (.check s)).1 = y := by
      show (if s < 1 ∨ 2 ^ y.count ≤ s then (y, Sj14.ok (-1)) else (y, _)).1 = y
      split <;> rfl
    rw [e]
    exact h
  | cheap => exact h
  | near k =>
    have e : (Sj14.step y (.near k)).1 = y := by
      show (if 1000 < k then (y, Sj14.ok (-1)) else (y, _)).1 = y
      split <;> rfl
    rw [e]
    exact h
  | most => exact h
end Sc
/-! # Words that the layer lacks -/
namespace Scw
open PySem PySem.Spec PyProof.Rows L2 Evl

/-! ### a chain of three comparisons; a list of anything against [] -/
section
variable {X : Cx} {a b c d : Expr} {ta tb tc td : TE} {pos : Pos}
def tChain3 (r r1 r2 : R2) (ta tb tc td : TE) : TE := fun σ H Q => ta σ H fun x H1 => tb σ H1 fun y H2 => r x y H2 fun z H3 => ∃ k, z = .bl k ∧
  (if k = true then tc σ H3 fun u H4 => r1 y u H4 fun z1 H5 => ∃ k1, z1 = .bl k1 ∧ (if k1 = true then td σ H5 fun v H6 => r2 u v H6 Q else Q (.bl false) H5) else Q (.bl false) H3)
theorem pe_chain3 {o o1 o2 : CmpOp} {r r1 r2 : R2} (ho : OpR X (compareOp o) r) (ho1 : OpR X (compareOp o1) r1) (ho2 : OpR X (compareOp o2) r2) (ha : PE X a ta) (hb : PE X b tb) (hc : PE X c tc) (hd : PE X d td)
    (hm : lastMarks [o, o1, o2] [b, c, d] = false := by with_unfolding_all rfl) : PE X (.Compare a [o, o1, o2] [b, c, d] pos) (tChain3 r r1 r2 ta tb tc td) := by
  constructor
  intro pins s σ H Q I h
  apply Compare_chain _ hm
  apply thn (ha.run pins s σ H _ I h)
  rintro va sa ⟨x, Ha, Ia, ra, ka⟩
  apply chain_link
  apply thn (hb.run pins sa σ Ha _ Ia ka)
  rintro vb sb ⟨y, Hb, Ib, rb, kb⟩
  apply thn (ho pins sb σ Hb x y va vb _ Ib ra rb kb)
  rintro w1 s1 ⟨z, H1, I1, rz, k, rfl, q1⟩
  obtain rfl : w1 = Value.bool k := rz
  apply wpAny_truthy_bool
  cases k
  · exact ⟨.bl false, H1, I1, rfl, q1⟩
  apply chain_link
  apply thn (hc.run pins s1 σ H1 _ I1 q1)
  rintro vc sc ⟨u, Hc, Ic, rc, kc⟩
  apply thn (ho1 pins sc σ Hc y u vb vc _ Ic rb rc kc)
  rintro w2 s2 ⟨z2, H2, I2, rz2, k2, rfl, q2⟩
  obtain rfl : w2 = Value.bool k2 := rz2
  apply wpAny_truthy_bool
  cases k2
  · exact ⟨.bl false, H2, I2, rfl, q2⟩
  apply chain_last
  apply thn (hd.run pins s2 σ H2 _ I2 q2)
  rintro vd sd ⟨v, Hd, Id, rd, kd⟩
  exact ho2 pins sd σ Hd u v vc vd Q Id rc rd kd
/-- == of two lists of other lengths, whatever they hold; or of two empty ones -/
def rEqE : R2 := fun x y H Q => ∃ l m xs, x = .ref l ∧ y = .ref m ∧ H l = some (.lst xs) ∧ H m = some (.lst []) ∧ Q (.bl xs.isEmpty) H
theorem op_eqE (hu : X.A.units < cLine) : OpR X (compareOp .Eq) rEqE := by
  intro pins s σ H x y v u Q I rx ry h
  obtain ⟨l, m, xs, rfl, rfl, hl, hm, q⟩ := h
  obtain rfl : v = Value.ref l := rx
  obtain rfl : u = Value.ref m := ry
  obtain ⟨_, its, n, r1, _, e1⟩ := I.lstM hl
  obtain ⟨_, its2, n2, r2, _, e2⟩ := I.lstM hm
  cases r2
  cases r1 with
  | nil =>
    exact PySem.P.eq_list (e := fun _ => true) e1 e2 rfl (fun j h1 _ => absurd h1 (Nat.not_lt_zero j)) hu ⟨.bl true, H, I, rfl, q⟩
  | cons p t => exact PySem.P.eq_list_lengths e1 e2 (by simp) hu ⟨.bl false, H, I, rfl, q⟩
end

/-! ### an expression and what is known of its value; fresh: what is new is new to the heap it starts from -/
def EvP (te : TE) (σ : L2.St) (H : Hp) (P : Hp → V → Hp → Prop) : Prop := ∀ H1, Ex H H1 → ∀ Q : VK, (∀ v H2, Ex H1 H2 → P H1 v H2 → Q v H2) → te σ H1 Q

section
variable {K : PySem.W.Frag} {σ : L2.St} {H H' : Hp} {ta tb te tl tv : TE} {t : TT} {v y : V} {D : Ends}
theorem ev_fld {p C dx : Addr} {fs : List (Str × V)} {f : Str} (h : Ev ta σ H (.ref p)) (hp : H p = some (.ins C dx fs)) (hc : Cls K C) (hn : NoAttr K C f) (hl : fs.lookup f = some v) : Ev (tFld K ta f) σ H v :=
  fun H1 e Q q => h H1 e _ fun H2 e2 => ⟨p, C, dx, fs, v, rfl, e2 p _ (e p _ hp), hc, hn, hl, q H2 e2⟩
theorem et_yes : EvT tYes σ H true := fun H1 _ _ q => q H1 (Ex.refl H1)
/-- o.f = e -/
theorem s_fld {p C dx : Addr} {fs : List (Str × V)} {f : Str} (hv : Ev tv σ H y) (h : Ev ta σ H (.ref p)) (hp : H p = some (.ins C dx fs)) (hc : Cls K C) (hn : NoAttr K C f) (hz : fs.length < 1000)
    (k : ∀ H1, Ex H H1 → D.nx σ (upd H1 p (.ins C dx (putF f y fs)))) : sFld K ta tv f D σ H :=
  hv H (Ex.refl H) _ fun H1 e1 => h H1 e1 _ fun H2 e2 => ⟨p, C, dx, fs, rfl, e2 p _ (e1 p _ hp), hc, hn, hz, k H2 (e1.trans e2)⟩
theorem s_fldL {p C dx : Addr} {fs : List (Str × V)} {f : Str} {xs : List V} (hv : EvL tv σ H xs) (h : Ev ta σ H (.ref p)) (hp : H p = some (.ins C dx fs)) (hc : Cls K C) (hn : NoAttr K C f) (hz : fs.length < 1000)
    (k : ∀ l H1, H l = none → Ex H H1 → H1 l = some (.lst xs) → D.nx σ (upd H1 p (.ins C dx (putF f (.ref l) fs)))) : sFld K ta tv f D σ H :=
  hv H (Ex.refl H) _ fun l H1 hl e1 h1 => h H1 e1 _ fun H2 e2 => ⟨p, C, dx, fs, rfl, e2 p _ (e1 p _ hp), hc, hn, hz, k l H2 hl (e1.trans e2) (e2 l _ h1)⟩
theorem given_is {α : Type} {f : α → Bool} {w : α → V} : ∀ ps : List α, given ps.length (fun i => ((ps[i]?).map f).getD false) (fun i => ((ps[i]?).map w).getD .non) = (ps.filter f).map w
  | [] => rfl
  | p :: ps => by
    have ih := given_is (f := f) (w := w) ps
    unfold given at ih ⊢
    rw [List.length_cons, List.range_succ_eq_map, List.filter_cons, List.filter_map]
    have e1 : ((fun i => (((p :: ps)[i]?).map f).getD false) ∘ Nat.succ) = fun i => ((ps[i]?).map f).getD false := by
      funext i
      show (((p :: ps)[i + 1]?).map f).getD false = _
      rw [List.getElem?_cons_succ]
    have e2 : ((fun i => (((p :: ps)[i]?).map w).getD V.non) ∘ Nat.succ) = fun i => ((ps[i]?).map w).getD .non := by
      funext i
      show (((p :: ps)[i + 1]?).map w).getD .non = _
      rw [List.getElem?_cons_succ]
    rw [e1]
    by_cases c : f p = true
    · rw [if_pos (by show f p = true; exact c), List.filter_cons, if_pos c, List.map_cons, List.map_cons, List.map_map, e2, ih]
      rfl
    · rw [if_neg (by show ¬ f p = true; exact c), List.filter_cons, if_neg c, List.map_map, e2, ih]
/-- a comprehension over a list of things told by data -/
theorem el_lcP {α : Type} {a : Addr} {j : Nat} {vs : List Nat} (g : α → V) (ps : List α) (f : α → Bool) (w : α → V) (h : Ev tl σ H (.ref a)) (hx : SqL K H a (ps.map g)) (hz : ps.length ≤ 40000)
    (hw : ∀ x, wipe ((wipe σ vs).set j (some x)) vs = wipe σ vs)
    (ht : ∀ p ∈ ps, ∀ H1, Ex H H1 → EvT t ((wipe σ vs).set j (some (g p))) H1 (f p)) (he : ∀ p ∈ ps, ∀ H1, Ex H H1 → f p = true → Ev te ((wipe σ vs).set j (some (g p))) H1 (w p)) :
    EvL (tLc (iList K tl) (gName j) t te vs) σ H ((ps.filter f).map w) := by
  have key : ∀ (i : Nat) (x : V), (ps.map g)[i]? = some x → ∃ p, ps[i]? = some p ∧ g p = x := fun i x hi => by
    rw [List.getElem?_map] at hi
    cases e : ps[i]? with
    | none =>
      rw [e] at hi
      cases hi
    | some p =>
      rw [e] at hi
      exact ⟨p, rfl, Option.some.inj hi⟩
  have r := el_lcL (te := te) (t := t) (j := j) (vs := vs) (fun i => ((ps[i]?).map f).getD false) (fun i => ((ps[i]?).map w).getD .non) h hx (by rw [List.length_map]; exact hz) hw
    (fun i x H1 e hi => by
      obtain ⟨p, hp, rfl⟩ := key i x hi
      have := ht p (List.mem_of_getElem? hp) H1 e
      show EvT t _ H1 (((ps[i]?).map f).getD false)
      rw [hp]
      exact this)
    (fun i x H1 e hi hf => by
      obtain ⟨p, hp, rfl⟩ := key i x hi
      have hf : ((ps[i]?).map f).getD false = true := hf
      rw [hp] at hf
      have := he p (List.mem_of_getElem? hp) H1 e hf
      show Ev te _ H1 (((ps[i]?).map w).getD .non)
      rw [hp]
      exact this)
  rw [List.length_map, given_is] at r
  exact r
end
end Scw
/-! # The text, the promises; the first file: fractions -/
namespace Scw
open PySem PySem.Spec PyProof.Rows L2 Evl

/-! ### the text by places -/
def top (i : Nat) : Stmt := PySem.Challenge.pw_scrapcrates_s01_answers.main.body.getD i (.Pass ⟨0, 0, 0, 0⟩)
abbrev sDivisor : Stmt := top 1
abbrev sLowest : Stmt := top 2
abbrev sIsLess : Stmt := top 3
abbrev sCheapestOf : Stmt := top 5
abbrev sNearestOf : Stmt := top 6
abbrev sFullestOf : Stmt := top 7
abbrev sCrateInit : Stmt := inClass (top 9) 0
abbrev sWishInit : Stmt := inClass (top 10) 0
abbrev sHeapInit : Stmt := inClass (top 11) 0
abbrev sPutCrate : Stmt := inClass (top 11) 1
abbrev sMelts : Stmt := inClass (top 11) 2
abbrev sMeltInit : Stmt := inClass (top 12) 0
abbrev sTold : Stmt := inClass (top 12) 1
abbrev sAway : Stmt := inClass (top 12) 2
abbrev sMeltOf : Stmt := top 13
abbrev sIsWithin : Stmt := top 14
abbrev sIsShareWithin : Stmt := top 15
abbrev sWrongWith : Stmt := top 16
abbrev sWantedMelts : Stmt := top 17
abbrev sHolderInit : Stmt := inClass (top 23) 0
abbrev sHold : Stmt := inClass (top 23) 1
abbrev sAreBounds : Stmt := top 24
abbrev sBegins : Stmt := top 25
abbrev sCrate : Stmt := top 26
abbrev sCheck : Stmt := top 27
abbrev sCheap : Stmt := top 28
abbrev sNear : Stmt := top 29
abbrev sMost : Stmt := top 30
abbrev sAnswer : Stmt := top 31
abbrev sAnswers : Stmt := top 32

/-! ### a def, a method, a class of the text as callers use it -/
/-- a def of the text -/
structure DefG (K : PySem.W.Frag) (mg : Str → Option Value) (name : Str) (st : Stmt) (ps : List Str) : Prop where
  ex : ∃ f fd, mg name = some (.ref f) ∧ Fun K name name st f fd ∧ Binds K fd ps []
/-- a method of the class at C -/
structure DefM (K : PySem.W.Frag) (C : Addr) (name qual : Str) (st : Stmt) (ps : List Str) : Prop where
  ex : ∃ f fd, Meth K C name f ∧ Fun K name qual st f fd ∧ Binds K fd ps []
/-- a class by its name, made by its __init__ -/
structure DefC (K : PySem.W.Frag) (mg : Str → Option Value) (C : Addr) (cls qual : Str) (st : Stmt) (ps : List Str) : Prop where
  ex : ∃ f fd, mg cls = some (.ref C) ∧ Mk K C f ∧ Fun K "__init__" qual st f fd ∧ Binds K fd ps []
structure CallG (P : Program) (w : World) (K : PySem.W.Frag) (mg : Str → Option Value) (base : Heap) (k : Nat) (name : Str) (ps : List Str) (sp : Sp) : Prop where
  ex : ∃ f fd, mg name = some (.ref f) ∧ PySem.W.keepIn K (.ref f) = true ∧ Binds K fd ps [] ∧ FnOk P w K mg base CX0 k f fd ps sp
structure CallM (P : Program) (w : World) (K : PySem.W.Frag) (mg : Str → Option Value) (base : Heap) (k : Nat) (C : Addr) (name : Str) (ps : List Str) (sp : Sp) : Prop where
  ex : ∃ f fd, Meth K C name f ∧ Binds K fd ps [] ∧ FnOk P w K mg base CX0 k f fd ps sp
structure CallC (P : Program) (w : World) (K : PySem.W.Frag) (mg : Str → Option Value) (base : Heap) (k : Nat) (C : Addr) (cls : Str) (ps : List Str) (sp : Sp) : Prop where
  ex : ∃ f fd, mg cls = some (.ref C) ∧ Mk K C f ∧ Binds K fd ps [] ∧ FnOk P w K mg base CX0 k f fd ps sp
section
variable {X : Cx} {k : Nat} {x m : Str} {ps : List Str} {sp : Sp} {p pos apos : Pos} {e o : Expr} {es : List Expr} {t : TA} {to : TE} {C : Addr}
theorem pe_g (G : CallG X.prog X.w X.K X.mg X.base k x ps sp) (hr : Room k X.A) (hg : Gl X x) (ha : PA X (e :: es) t) (hdb : (x == ("__debug__" : Str)) = false := by decide)
    (he : starEach (e :: es) X.env = (false, eval e X.env) :: starEach es X.env := by rfl) (hpl : (backTo pos (starEach es X.env)).any (·.1) = false := by rfl) : PE X (.Call (.Name x p) (e :: es) [] pos) (tCall sp [] E0 t) := by
  obtain ⟨f, fd, g, kp, b, F⟩ := G.ex
  exact pe_call F hr hg g kp b .nil pass0 ha hdb he hpl
theorem pe_m (G : CallM X.prog X.w X.K X.mg X.base k C m ps sp) (hr : Room k X.A) (c : Cls X.K C) (ho : PE X o to) (ha : PA X (e :: es) t) (h1 : starEach (e :: es) X.env = (false, eval e X.env) :: starEach es X.env := by rfl)
    (h2 : (backTo pos (starEach es X.env)).any (·.1) = false := by rfl) {pl : Sem Bool}
    (ht : eval (.Call (.Attribute o m apos) (e :: es) [] pos) X.env = (do
      let ov ← eval o X.env
      standAt apos.atName
      let (f, first) ← holding [ov] (getMethod ov m pl)
      callWith pos f first (backTo pos (starEach (e :: es) X.env)) (backToKw pos (keywordEach [] X.env))) := by rfl) : PE X (.Call (.Attribute o m apos) (e :: es) [] pos) (tMeth C m sp [] E0 to t) := by
  obtain ⟨f, fd, g, b, F⟩ := G.ex
  exact pe_meth ho c g F hr b .nil pass0 ha h1 h2 ht
end

/-! ### what hands back a new tuple -/
def RetU (xs : List V) (H : Hp) (Q : VK) : Prop := ∀ p H2, H p = none → Ex H H2 → H2 p = some (.tup xs) → Q (.ref p) H2
section
variable {K : PySem.W.Frag} {σ : L2.St} {H H' : Hp} {ta tb te tl tv : TE} {t : TT} {v w : V} {D : Ends}
theorem s_par {i j : Nat} {tt : TA} (h : EvA tt σ H [v, w]) (k : ∀ H1, Ex H H1 → D.nx ((σ.set i (some v)).set j (some w)) H1) : tPar i j tt D σ H :=
  h H (Ex.refl H) _ fun H1 e1 => ⟨v, w, rfl, k H1 e1⟩
theorem eu_call {sp : Sp} {dvs vs xs : List V} {E : XK} {tt : TA} (h : EvA tt σ H vs) (hs : ∀ H1, Ex H H1 → ∀ Q : VK, RetU xs H1 Q → ∀ E : XK, sp (vs ++ dvs) H1 Q E) : EvU (tCall sp dvs E tt) σ H xs := fun H1 e Q q =>
  h H1 e _ fun H2 e2 => hs H2 (e.trans e2) Q (fun p H3 hp e3 h3 => q p H3 (fresh_back e2 hp) (e2.trans e3) h3) E
end

/-! ### divisor, lowest, is_less -/
section
variable {P : Program} {w : World} {K : PySem.W.Frag} {mg : Str → Option Value} {base : Heap}
def spDivisor : Sp := fun vs H Q _ => ∃ (a b : Nat), vs = [.int a, .int b] ∧ RetV (.int ((Nat.gcd a b : Nat) : Int)) H Q
theorem scDivisor : FnScope ["one", "other", "first", "last"] ["one", "other"] (defScope sDivisor) := ⟨rfl, rfl, rfl, by decide +kernel, rfl, by decide +kernel, by decide +kernel⟩
theorem ok_divisor (D : DefG K mg "divisor" sDivisor ["one", "other"]) : CallG P w K mg base 1 "divisor" ["one", "other"] spDivisor := by
  obtain ⟨f, fd, hg, F, b⟩ := D.ex
  refine ⟨f, fd, hg, F.kp, b, F.ok scDivisor (fun vs H Q E h => ?_) fun cdv A outer s H vs Q E hr h => ?_⟩
  · obtain ⟨a, b, rfl, _⟩ := h
    rfl
  · obtain ⟨a, b, rfl, k⟩ := h
    have nd := scDivisor.nd
    refine ⟨_, pss_cons (ps_set (i := 2) nd rfl (Or.inl rfl) (pv 0)) (pss_cons (ps_set (i := 3) nd rfl (Or.inl rfl) (pv 1))
      (pss_cons (ps_while PassesOwn.never (pt_cmpR op_gt (pv 3) pe_int (nomark _))
        (pss_one (ps_par (i := 2) (j := 3) rfl nd rfl rfl (by decide) rfl rfl (pa_cons (pv 3) (pa_cons (pe_op op_mod (pv 2) (pv 3)) pa_nil)) rfl)))
      (pss_one (ps_ret (pv 2))))), ?_⟩
    refine q_asg (v := .int a) (ev_var rfl) fun H1 e1 => q_asg (v := .int b) (ev_var rfl) fun H2 e2 => ?_
    refine q_while (fun m σ' H' => ∃ x y : Nat, σ' = [some (.int a), some (.int b), some (.int x), some (.int y)] ∧ Nat.gcd x y = Nat.gcd a b ∧ m = y ∧ Ex H H') b ⟨a, b, rfl, rfl, rfl, e1.trans e2⟩ ?_
    rintro m σ' H' ⟨x, y, rfl, hg, rfl, e3⟩
    refine ⟨decide ((0 : Int) < (m : Int)), et_test (ev_op (ev_var rfl) ev_c rv_I0), fun hb H4 e4 => ?_, fun hb H4 e4 => ?_⟩
    · have pos : (0 : Int) < (m : Int) := of_decide_eq_true hb
      refine ⟨_, fun σ2 H5 z => z, ?_⟩
      refine s_par (ea_cons (ev_var rfl) (ea_cons (ev_op (ev_var rfl) (ev_var rfl) (rv_I pos)) ea_nil)) fun H5 e5 => ?_
      refine ⟨x % m, Nat.mod_lt _ (by omega), m, x % m, ?_, ?_, rfl, (e3.trans e4).trans e5⟩
      · rfl
      · rw [← hg, Nat.gcd_comm m (x % m), ← Nat.gcd_rec, Nat.gcd_comm]
    · have z : m = 0 := by
        have := of_decide_eq_false hb
        omega
      subst z
      refine s_ret (ev_var rfl) fun H5 e5 => ?_
      rw [Nat.gcd_zero_right] at hg
      rw [hg]
      exact k H5 ((e3.trans e4).trans e5)

def spLowest : Sp := fun vs H Q _ => ∃ (a b : Nat), vs = [.int a, .int b] ∧ 0 < b ∧ b < 1073741824 ∧ RetU [.int ((Sc.low a b).1 : Nat), .int ((Sc.low a b).2 : Nat)] H Q
theorem scLowest : FnScope ["top", "bottom", "by"] ["top", "bottom"] (defScope sLowest) := ⟨rfl, rfl, rfl, by decide +kernel, rfl, by decide +kernel, by decide +kernel⟩
theorem ok_lowest (D : DefG K mg "lowest" sLowest ["top", "bottom"]) (G : CallG P w K mg base 1 "divisor" ["one", "other"] spDivisor) : CallG P w K mg base 2 "lowest" ["top", "bottom"] spLowest := by
  obtain ⟨f, fd, hg, F, b⟩ := D.ex
  refine ⟨f, fd, hg, F.kp, b, F.ok scLowest (fun vs H Q E h => ?_) fun cdv A outer s H vs Q E hr h => ?_⟩
  · obtain ⟨a, b, rfl, _⟩ := h
    rfl
  · obtain ⟨a, b, rfl, b0, b1, k⟩ := h
    have nd := scLowest.nd
    refine ⟨_, pss_cons (ps_set (i := 2) nd rfl (Or.inl rfl) (pe_g G hr rfl (pa_cons (pv 0) (pa_cons (pv 1) pa_nil))))
      (pss_one (ps_ret (pe_tup (pa_cons (pe_op op_fdiv (pv 0) (pv 2)) (pa_cons (pe_op op_fdiv (pv 1) (pv 2)) pa_nil))))), ?_⟩
    refine q_asg (v := .int ((Nat.gcd a b : Nat) : Int)) (ev_call (ea_cons (ev_var rfl) (ea_cons (ev_var rfl) ea_nil)) fun H1 e Q q E => ⟨a, b, rfl, q⟩) fun H1 e1 => ?_
    have g0 : 0 < Nat.gcd a b := Nat.gcd_pos_of_pos_right a b0
    have g1 : Nat.gcd a b ≤ b := Nat.gcd_le_right a b0
    have c : CDiv ((a : Nat) : Int) ((Nat.gcd a b : Nat) : Int) := ⟨by omega, by omega⟩
    have c' : CDiv ((b : Nat) : Int) ((Nat.gcd a b : Nat) : Int) := c
    refine s_retU (eu_tup (ea_cons (ev_op (ev_var rfl) (ev_var rfl) (rv_I c)) (ea_cons (ev_op (ev_var rfl) (ev_var rfl) (rv_I c')) ea_nil)) (by show 2 ≤ 100000; decide)) fun p H2 hp e2 h2 => ?_
    exact k p H2 (fresh_back e1 hp) (e1.trans e2) h2

def spIsLess (K : PySem.W.Frag) : Sp := fun vs H Q _ => ∃ (p q : Addr) (x y : Nat × Nat), vs = [.ref p, .ref q] ∧ SqT K H p [.int x.1, .int x.2] ∧ SqT K H q [.int y.1, .int y.2] ∧ x.1 < 4294967296 ∧ y.1 < 4294967296 ∧
  RetV (.bl (Sc.fless x y)) H Q
theorem scIsLess : FnScope ["one", "other"] ["one", "other"] (defScope sIsLess) := ⟨rfl, rfl, rfl, by decide +kernel, rfl, by decide +kernel, by decide +kernel⟩
theorem ok_is_less (D : DefG K mg "is_less" sIsLess ["one", "other"]) : CallG P w K mg base 1 "is_less" ["one", "other"] (spIsLess K) := by
  obtain ⟨f, fd, hg, F, b⟩ := D.ex
  refine ⟨f, fd, hg, F.kp, b, F.ok scIsLess (fun vs H Q E h => ?_) fun cdv A outer s H vs Q E hr h => ?_⟩
  · obtain ⟨p, q, x, y, rfl, _⟩ := h
    rfl
  · obtain ⟨p, q, x, y, rfl, hp, hq, x1, y1, k⟩ := h
    refine ⟨_, pss_one (ps_ret (pe_cmpR op_lt (pe_op op_mul (pe_ix ix_tup (pv 0) pe_int (fun _ _ => rfl)) (pe_ix ix_tup (pv 1) pe_int (fun _ _ => rfl)))
      (pe_op op_mul (pe_ix ix_tup (pv 1) pe_int (fun _ _ => rfl)) (pe_ix ix_tup (pv 0) pe_int (fun _ _ => rfl))) (nomark _))), ?_⟩
    have c : CMul ((x.1 : Nat) : Int) ((y.2 : Nat) : Int) := .inl ⟨by omega, by omega⟩
    have c' : CMul ((y.1 : Nat) : Int) ((x.2 : Nat) : Int) := .inl ⟨by omega, by omega⟩
    have e : decide (((x.1 : Nat) : Int) * ((y.2 : Nat) : Int) < ((y.1 : Nat) : Int) * ((x.2 : Nat) : Int)) = Sc.fless x y := by
      unfold Sc.fless
      rw [← Int.natCast_mul, ← Int.natCast_mul]
      exact decide_eq_decide.mpr Int.ofNat_lt
    refine s_ret (v := .bl (Sc.fless x y)) ?_ k
    rw [← e]
    exact ev_op (ev_op (ev_op (ev_var rfl) ev_c (rv_ixT hp (atI_nat (j := 0) rfl))) (ev_op (ev_var rfl) ev_c (rv_ixT hq (atI_nat (j := 1) rfl))) (rv_I c))
      (ev_op (ev_op (ev_var rfl) ev_c (rv_ixT hq (atI_nat (j := 0) rfl))) (ev_op (ev_var rfl) ev_c (rv_ixT hp (atI_nat (j := 1) rfl))) (rv_I c')) rv_I0
end
end Scw
/-! # How the records lie in the heap; more words -/
namespace Scw
open PySem PySem.Spec PyProof.Rows L2 Evl

/-! ### attributes by place -/
theorem look {f : Str} {v : V} : ∀ {l : List (Str × V)} (N : List Str) (i : Nat), l.map Prod.fst = N → (N.take i).all (fun g => !(f == g)) = true → l[i]? = some (f, v) → l.lookup f = some v
  | [], _, _, _, _, h => by simp at h
  | (g, x) :: r, N, 0, hn, h1, h2 => by
    have e := Option.some.inj h2
    cases e
    have e : (f == f) = true := beq_self_eq_true f
    simp only [List.lookup, e]
  | (g, x) :: r, N, i + 1, hn, h1, h2 => by
    subst hn
    have h1 : ((g :: r.map Prod.fst).take (i + 1)).all (fun g => !(f == g)) = true := h1
    rw [List.take_succ_cons, List.all_cons, Bool.and_eq_true] at h1
    have e : (f == g) = false := by simpa using h1.1
    simp only [List.lookup, e]
    exact look _ i rfl h1.2 h2
theorem look_no {f : Str} : ∀ {l : List (Str × V)} (N : List Str), l.map Prod.fst = N → N.all (fun g => !(f == g)) = true → l.lookup f = none
  | [], _, _, _ => rfl
  | (g, x) :: r, N, hn, h1 => by
    subst hn
    have h1 : (g :: r.map Prod.fst).all (fun g => !(f == g)) = true := h1
    rw [List.all_cons, Bool.and_eq_true] at h1
    have e : (f == g) = false := by simpa using h1.1
    simp only [List.lookup, e]
    exact look_no _ rfl h1.2
theorem put_new {f : Str} {v : V} : ∀ {l : List (Str × V)} (N : List Str), l.map Prod.fst = N → N.all (fun g => !(f == g)) = true → putF f v l = l ++ [(f, v)]
  | [], _, _, _ => rfl
  | (g, x) :: r, N, hn, h1 => by
    subst hn
    have h1 : (g :: r.map Prod.fst).all (fun g => !(f == g)) = true := h1
    rw [List.all_cons, Bool.and_eq_true] at h1
    have e : ¬ g = f := fun z => by
      rw [z] at h1
      simp at h1
    show (if g = f then _ else _) = _
    rw [if_neg e, put_new _ rfl h1.2]
    rfl

/-! ### the records -/
structure Ads where
  crate : Addr
  wish : Addr
  heap : Addr
  melt : Addr
  holder : Addr
abbrev crateN : List Str := ["heavy", "copper", "zinc", "price"]
abbrev wishN : List Str := ["heavy", "copper", "zinc"]
abbrev heapN : List Str := ["wish", "crates"]
abbrev meltN : List Str := ["number", "many", "heavy", "copper", "zinc", "cost"]
abbrev holderN : List Str := ["heap"]
def crateF (c : Sj14.Crate) : List (Str × V) := [("heavy", .int c.heavy), ("copper", .int c.copper), ("zinc", .int c.zinc), ("price", .int c.price)]
def wishF (p q r : Addr) : List (Str × V) := [("heavy", .ref p), ("copper", .ref q), ("zinc", .ref r)]
def heapF (a l : Addr) : List (Str × V) := [("wish", .ref a), ("crates", .ref l)]
def meltF (m : Sc.ML) : List (Str × V) := [("number", .int m.number), ("many", .int m.many), ("heavy", .int m.heavy), ("copper", .int m.copper), ("zinc", .int m.zinc), ("cost", .int m.cost)]
def holderF (a : Addr) : List (Str × V) := [("heap", .ref a)]
/-- what the top has written of the classes and the names; the end shows it -/
structure Txt (K : PySem.W.Frag) (mg : Str → Option Value) (B : Ads) : Prop where
  cC : Cls K B.crate
  cW : Cls K B.wish
  cH : Cls K B.heap
  cM : Cls K B.melt
  cO : Cls K B.holder
  nC : NoAttr K B.crate "heavy" ∧ NoAttr K B.crate "copper" ∧ NoAttr K B.crate "zinc" ∧ NoAttr K B.crate "price"
  nW : NoAttr K B.wish "heavy" ∧ NoAttr K B.wish "copper" ∧ NoAttr K B.wish "zinc"
  nH : NoAttr K B.heap "wish" ∧ NoAttr K B.heap "crates"
  nM : NoAttr K B.melt "number" ∧ NoAttr K B.melt "many" ∧ NoAttr K B.melt "heavy" ∧ NoAttr K B.melt "copper" ∧ NoAttr K B.melt "zinc" ∧ NoAttr K B.melt "cost"
  nO : NoAttr K B.holder "heap"
  len : mg "len" = none
  list : mg "list" = none
  range : mg "range" = none
  sum : mg "sum" = none
  abs : mg "abs" = none
  enumerate : mg "enumerate" = none
  min : mg "min" = none
  max : mg "max" = none
  thousand : ∃ t, mg "THOUSAND" = some (.int 1000 t)
  mostHeavy : ∃ t, mg "MOST_HEAVY" = some (.int 200 t)
  mostCrates : ∃ t, mg "MOST_CRATES" = some (.int 8 t)
  numbers : ∃ a, mg "NUMBERS" = some (.ref a) ∧ ∀ H, SqT K H a [.int 6, .int 4, .int 1, .int 0, .int 1, .int 0]

def CrateAt (B : Ads) (H : Hp) (a : Addr) (c : Sj14.Crate) : Prop := ∃ dx, H a = some (.ins B.crate dx (crateF c))
def MeltAt (B : Ads) (H : Hp) (a : Addr) (m : Sc.ML) : Prop := ∃ dx, H a = some (.ins B.melt dx (meltF m))
def WishAt (B : Ads) (H : Hp) (a : Addr) (y : Sj14.Wanted) : Prop := ∃ dx p q r, H a = some (.ins B.wish dx (wishF p q r)) ∧ H p = some (.tup [.int y.light, .int y.heavy]) ∧
  H q = some (.tup [.int y.copperLow, .int y.copperHigh]) ∧ H r = some (.tup [.int y.zincLow, .int y.zincHigh])
abbrev rf {α : Type} (p : Addr × α) : V := .ref p.1
/-- the yard y at b, its crates' list at l -/
structure HeapAt (B : Ads) (H : Hp) (b l : Addr) (y : Sj14.Yard) : Prop where
  ex : ∃ (dx a : Addr) (ps : List (Addr × Sj14.Crate)), H b = some (.ins B.heap dx (heapF a l)) ∧ WishAt B H a y.wanted ∧ H l = some (.lst (ps.map rf)) ∧ (∀ p ∈ ps, CrateAt B H p.1 p.2) ∧ ps.map Prod.snd = y.crates
section
variable {B : Ads} {H H' : Hp} {a b l : Addr}
theorem CrateAt.mono {c : Sj14.Crate} (e : Ex H H') (h : CrateAt B H a c) : CrateAt B H' a c := let ⟨dx, h⟩ := h; ⟨dx, e _ _ h⟩
theorem MeltAt.mono {m : Sc.ML} (e : Ex H H') (h : MeltAt B H a m) : MeltAt B H' a m := let ⟨dx, h⟩ := h; ⟨dx, e _ _ h⟩
theorem WishAt.mono {y : Sj14.Wanted} (e : Ex H H') (h : WishAt B H a y) : WishAt B H' a y := let ⟨dx, p, q, r, h1, h2, h3, h4⟩ := h; ⟨dx, p, q, r, e _ _ h1, e _ _ h2, e _ _ h3, e _ _ h4⟩
theorem HeapAt.mono {y : Sj14.Yard} (e : Ex H H') (h : HeapAt B H b l y) : HeapAt B H' b l y := by
  obtain ⟨dx, a, ps, h1, h2, h3, h4, h5⟩ := h.ex
  exact ⟨dx, a, ps, e _ _ h1, h2.mono e, e _ _ h3, fun p hp => (h4 p hp).mono e, h5⟩
theorem crF0 (c : Sj14.Crate) : (crateF c).lookup ("heavy" : Str) = some (.int c.heavy) := look crateN 0 rfl (by decide +kernel) rfl
theorem crF1 (c : Sj14.Crate) : (crateF c).lookup ("copper" : Str) = some (.int c.copper) := look crateN 1 rfl (by decide +kernel) rfl
theorem crF2 (c : Sj14.Crate) : (crateF c).lookup ("zinc" : Str) = some (.int c.zinc) := look crateN 2 rfl (by decide +kernel) rfl
theorem crF3 (c : Sj14.Crate) : (crateF c).lookup ("price" : Str) = some (.int c.price) := look crateN 3 rfl (by decide +kernel) rfl
theorem wiF0 (p q r : Addr) : (wishF p q r).lookup ("heavy" : Str) = some (.ref p) := look wishN 0 rfl (by decide +kernel) rfl
theorem wiF1 (p q r : Addr) : (wishF p q r).lookup ("copper" : Str) = some (.ref q) := look wishN 1 rfl (by decide +kernel) rfl
theorem wiF2 (p q r : Addr) : (wishF p q r).lookup ("zinc" : Str) = some (.ref r) := look wishN 2 rfl (by decide +kernel) rfl
theorem heF0 (a l : Addr) : (heapF a l).lookup ("wish" : Str) = some (.ref a) := look heapN 0 rfl (by decide +kernel) rfl
theorem heF1 (a l : Addr) : (heapF a l).lookup ("crates" : Str) = some (.ref l) := look heapN 1 rfl (by decide +kernel) rfl
theorem heN0 (a l : Addr) : (heapF a l).lookup ("melts" : Str) = none := look_no heapN rfl (by decide +kernel)
theorem heN1 (a l : Addr) : (heapF a l).lookup ("put_crate" : Str) = none := look_no heapN rfl (by decide +kernel)
theorem meF0 (m : Sc.ML) : (meltF m).lookup ("number" : Str) = some (.int m.number) := look meltN 0 rfl (by decide +kernel) rfl
theorem meF1 (m : Sc.ML) : (meltF m).lookup ("many" : Str) = some (.int m.many) := look meltN 1 rfl (by decide +kernel) rfl
theorem meF2 (m : Sc.ML) : (meltF m).lookup ("heavy" : Str) = some (.int m.heavy) := look meltN 2 rfl (by decide +kernel) rfl
theorem meF3 (m : Sc.ML) : (meltF m).lookup ("copper" : Str) = some (.int m.copper) := look meltN 3 rfl (by decide +kernel) rfl
theorem meF4 (m : Sc.ML) : (meltF m).lookup ("zinc" : Str) = some (.int m.zinc) := look meltN 4 rfl (by decide +kernel) rfl
theorem meF5 (m : Sc.ML) : (meltF m).lookup ("cost" : Str) = some (.int m.cost) := look meltN 5 rfl (by decide +kernel) rfl
theorem meN0 (m : Sc.ML) : (meltF m).lookup ("told" : Str) = none := look_no meltN rfl (by decide +kernel)
theorem meN1 (m : Sc.ML) : (meltF m).lookup ("away" : Str) = none := look_no meltN rfl (by decide +kernel)
theorem hoF0 (a : Addr) : (holderF a).lookup ("heap" : Str) = some (.ref a) := look holderN 0 rfl (by decide +kernel) rfl
theorem hoN0 (a : Addr) : (holderF a).lookup ("hold" : Str) = none := look_no holderN rfl (by decide +kernel)
end

/-! ### within a comprehension the written part is told outright -/
section
variable {X : Cx} {K : PySem.W.Frag}
theorem pe_fldK {e : Expr} {f : Str} {pos : Pos} {ta : TE} (hK : X.K = K) (he : PE X e ta) (hb : attributeBase e f X.env (eval e X.env) = eval e X.env) : PE X (.Attribute e f pos) (tFld K ta f) := by
  subst hK
  exact pe_fld he hb
theorem op_eqDK (hK : X.K = K) (hu : X.A.units + 64 < cLine) : OpR X (compareOp .Eq) (rEqD K) := by
  subst hK
  exact op_eqD hu
end

/-! ### fields read, by the records -/
section
variable {K : PySem.W.Frag} {mg : Str → Option Value} {B : Ads} {σ : L2.St} {H H' : Hp} {ta tb tc te tl tv : TE} {t : TT} {tt : TA} {v x y z : V} {D : Ends} {tz : TS} {a b l : Addr}
theorem ev_cr0 (T : Txt K mg B) {c : Sj14.Crate} (h : Ev ta σ H (.ref a)) (k : CrateAt B H a c) : Ev (tFld K ta "heavy") σ H (.int c.heavy) := let ⟨_, k⟩ := k; ev_fld h k T.cC T.nC.1 (crF0 c)
theorem ev_cr1 (T : Txt K mg B) {c : Sj14.Crate} (h : Ev ta σ H (.ref a)) (k : CrateAt B H a c) : Ev (tFld K ta "copper") σ H (.int c.copper) := let ⟨_, k⟩ := k; ev_fld h k T.cC T.nC.2.1 (crF1 c)
theorem ev_cr2 (T : Txt K mg B) {c : Sj14.Crate} (h : Ev ta σ H (.ref a)) (k : CrateAt B H a c) : Ev (tFld K ta "zinc") σ H (.int c.zinc) := let ⟨_, k⟩ := k; ev_fld h k T.cC T.nC.2.2.1 (crF2 c)
theorem ev_cr3 (T : Txt K mg B) {c : Sj14.Crate} (h : Ev ta σ H (.ref a)) (k : CrateAt B H a c) : Ev (tFld K ta "price") σ H (.int c.price) := let ⟨_, k⟩ := k; ev_fld h k T.cC T.nC.2.2.2 (crF3 c)
theorem ev_me0 (T : Txt K mg B) {m : Sc.ML} (h : Ev ta σ H (.ref a)) (k : MeltAt B H a m) : Ev (tFld K ta "number") σ H (.int m.number) := let ⟨_, k⟩ := k; ev_fld h k T.cM T.nM.1 (meF0 m)
theorem ev_me1 (T : Txt K mg B) {m : Sc.ML} (h : Ev ta σ H (.ref a)) (k : MeltAt B H a m) : Ev (tFld K ta "many") σ H (.int m.many) := let ⟨_, k⟩ := k; ev_fld h k T.cM T.nM.2.1 (meF1 m)
theorem ev_me2 (T : Txt K mg B) {m : Sc.ML} (h : Ev ta σ H (.ref a)) (k : MeltAt B H a m) : Ev (tFld K ta "heavy") σ H (.int m.heavy) := let ⟨_, k⟩ := k; ev_fld h k T.cM T.nM.2.2.1 (meF2 m)
theorem ev_me3 (T : Txt K mg B) {m : Sc.ML} (h : Ev ta σ H (.ref a)) (k : MeltAt B H a m) : Ev (tFld K ta "copper") σ H (.int m.copper) := let ⟨_, k⟩ := k; ev_fld h k T.cM T.nM.2.2.2.1 (meF3 m)
theorem ev_me4 (T : Txt K mg B) {m : Sc.ML} (h : Ev ta σ H (.ref a)) (k : MeltAt B H a m) : Ev (tFld K ta "zinc") σ H (.int m.zinc) := let ⟨_, k⟩ := k; ev_fld h k T.cM T.nM.2.2.2.2.1 (meF4 m)
theorem ev_me5 (T : Txt K mg B) {m : Sc.ML} (h : Ev ta σ H (.ref a)) (k : MeltAt B H a m) : Ev (tFld K ta "cost") σ H (.int m.cost) := let ⟨_, k⟩ := k; ev_fld h k T.cM T.nM.2.2.2.2.2 (meF5 m)

/-! ### chains, lists made of lists, methods -/
theorem ev_chain {r r1 : R2} {k k1 : Bool} (ha : Ev ta σ H x) (hb : Ev tb σ H y) (hr : RV r x y H (.bl k)) (hc : k = true → Ev tc σ H z) (hr1 : k = true → RV r1 y z H (.bl k1)) : Ev (tChain r r1 ta tb tc) σ H (.bl (k && k1)) := fun H1 e Q q =>
  ha H1 e _ fun H2 e2 => hb H2 (e.trans e2) _ fun H3 e3 => hr H3 ((e.trans e2).trans e3) _ fun H4 e4 => ⟨k, rfl, by
    have e14 := (e2.trans e3).trans e4
    cases k with
    | true => exact hc rfl H4 (e.trans e14) _ fun H5 e5 => hr1 rfl H5 (e.trans (e14.trans e5)) Q fun H6 e6 => q H6 ((e14.trans e5).trans e6)
    | false => exact q H4 e14⟩
theorem ev_chain3 {r r1 r2 : R2} {td : TE} {u : V} {k k1 k2 : Bool} (ha : Ev ta σ H x) (hb : Ev tb σ H y) (hr : RV r x y H (.bl k)) (hc : Ev tc σ H z) (hr1 : RV r1 y z H (.bl k1)) (hd : Ev td σ H u) (hr2 : RV r2 z u H (.bl k2)) :
    Ev (tChain3 r r1 r2 ta tb tc td) σ H (.bl (k && (k1 && k2))) := fun H1 e Q q =>
  ha H1 e _ fun H2 e2 => hb H2 (e.trans e2) _ fun H3 e3 => hr H3 ((e.trans e2).trans e3) _ fun H4 e4 => ⟨k, rfl, by
    have f4 := (e2.trans e3).trans e4
    cases k with
    | false => exact q H4 f4
    | true => exact hc H4 (e.trans f4) _ fun H5 e5 => hr1 H5 (e.trans (f4.trans e5)) _ fun H6 e6 => ⟨k1, rfl, by
        have f6 := (f4.trans e5).trans e6
        cases k1 with
        | false => exact q H6 f6
        | true => exact hd H6 (e.trans f6) _ fun H7 e7 => hr2 H7 (e.trans (f6.trans e7)) Q fun H8 e8 => q H8 ((f6.trans e7).trans e8)⟩⟩
/-- two new lists joined -/
theorem el_cat {xs ys : List V} (ha : EvL ta σ H xs) (hb : EvL tb σ H ys) (hz : xs.length + ys.length ≤ 100000) : EvL (tOp rCat ta tb) σ H (xs ++ ys) := fun H1 e Q q =>
  ha H1 e _ fun l H2 hl e2 h2 => hb H2 (e.trans e2) _ fun m H3 hm e3 h3 => ⟨l, m, xs, ys, rfl, rfl, e3 l _ h2, h3, sz_of hz, fun p hp => q p _ (fresh_back (e2.trans e3) hp) ((e2.trans e3).trans (Ex.new hp)) upd_same⟩
/-- list(a new tuple) -/
theorem el_listU {xs : List V} (ha : EvU ta σ H xs) : EvL (tCB (rListS K) (tCons ta tNil)) σ H xs := fun H1 e Q q =>
  ha H1 e _ fun p H2 _ e2 h2 => ⟨p, xs, rfl, Or.inr (st_of h2), fun l hl => q l _ (fresh_back e2 hl) (e2.trans (Ex.new hl)) upd_same⟩
/-- a method that hands back a new tuple, a new list, a value -/
theorem eu_meth {C : Addr} {m : Str} {sp : Sp} {dx : Addr} {fs : List (Str × V)} {xs vs : List V} {E : XK} (ho : Ev ta σ H (.ref a)) (ha : H a = some (.ins C dx fs)) (hn : fs.lookup m = none) (h : EvA tt σ H vs)
    (hs : ∀ H1, Ex H H1 → ∀ Q : VK, RetU xs H1 Q → ∀ E : XK, sp (.ref a :: (vs ++ [])) H1 Q E) : EvU (tMeth C m sp [] E ta tt) σ H xs := fun H1 e Q q =>
  ho H1 e _ fun H2 e2 => ⟨a, dx, fs, rfl, e2 a _ (e a _ ha), hn, h H2 (e.trans e2) _ fun H3 e3 => hs H3 ((e.trans e2).trans e3) Q (fun p H4 hp e4 h4 => q p H4 (fresh_back (e2.trans e3) hp) ((e2.trans e3).trans e4) h4) E⟩
theorem el_meth {C : Addr} {m : Str} {sp : Sp} {dx : Addr} {fs : List (Str × V)} {xs vs : List V} {E : XK} (ho : Ev ta σ H (.ref a)) (ha : H a = some (.ins C dx fs)) (hn : fs.lookup m = none) (h : EvA tt σ H vs)
    (hs : ∀ H1, Ex H H1 → ∀ Q : VK, RetL xs H1 Q → ∀ E : XK, sp (.ref a :: (vs ++ [])) H1 Q E) : EvL (tMeth C m sp [] E ta tt) σ H xs := fun H1 e Q q =>
  ho H1 e _ fun H2 e2 => ⟨a, dx, fs, rfl, e2 a _ (e a _ ha), hn, h H2 (e.trans e2) _ fun H3 e3 => hs H3 ((e.trans e2).trans e3) Q (fun p H4 hp e4 h4 => q p H4 (fresh_back (e2.trans e3) hp) ((e2.trans e3).trans e4) h4) E⟩
/-- a statement x = e by what is known of e's value -/
theorem q_asgP {i : Nat} {R : Hp → V → Hp → Prop} (h : EvP te σ H R) (k : ∀ v H1, Ex H H1 → R H v H1 → tz D (σ.set i (some v)) H1) : tSeq (tAsg te (gName i)) tz D σ H := h H (Ex.refl H) _ fun v H1 e r => k v H1 e r
theorem s_retP {R : Hp → V → Hp → Prop} (h : EvP te σ H R) (k : ∀ v H1, Ex H H1 → R H v H1 → D.rt v H1) : tRet te D σ H := h H (Ex.refl H) _ fun v H1 e r => k v H1 e r

/-! ### an instance made, its fields set one by one: H0 stands all the while -/
def InitSp {α : Type} (C : Addr) (args : α → List V) (pre : α → Hp → Prop) (fields : α → List (Str × V)) : Sp := fun vs H Q _ => ∃ (p dx : Addr) (H0 : Hp) (u : α), vs = .ref p :: args u ∧ pre u H0 ∧ Ex H0 H ∧ H0 p = none ∧
  H p = some (.ins C dx []) ∧ ∀ H', Ex H0 H' → H' p = some (.ins C dx (fields u)) → Q .non H'
def MadeAt (C : Addr) (fs : List (Str × V)) (H1 : Hp) (v : V) (H2 : Hp) : Prop := ∃ x dx, v = .ref x ∧ H1 x = none ∧ H2 x = some (.ins C dx fs)
theorem ev_make {α : Type} {C : Addr} {args : α → List V} {pre : α → Hp → Prop} {fields : α → List (Str × V)} {E : XK} {vs : List V} (u : α) (h : EvA tt σ H vs) (hv : vs = args u) (hp : ∀ H1, Ex H H1 → pre u H1) :
    EvP (tMake C (InitSp C args pre fields) [] E tt) σ H (MadeAt C (fields u)) := fun H1 e Q q =>
  h H1 e _ fun H2 e2 => fun x dx nx nd ne => by
    subst hv
    refine ⟨x, dx, H2, u, by rw [List.append_nil], hp H2 (e.trans e2), fun c o hc => ?_, nx, upd_same, fun H' e' h' => ⟨rfl, q _ H' (e2.trans e') ⟨x, dx, rfl, fresh_back e2 nx, h'⟩⟩⟩
    rw [upd_ne (ne_of_none hc nx), upd_ne (ne_of_none hc nd)]
    exact hc
theorem q_put {H0 : Hp} {p C dx : Addr} {fs fs' : List (Str × V)} {f : Str} (e : Ex H0 H) (hn : H0 p = none) (hp : H p = some (.ins C dx fs)) (hv : Ev tv σ H y) (h : Ev ta σ H (.ref p)) (hc : Cls K C) (na : NoAttr K C f) (hz : fs.length < 1000) (hf : putF f y fs = fs')
    (k : ∀ H', Ex H0 H' → H' p = some (.ins C dx fs') → tz D σ H') : tSeq (sFld K ta tv f) tz D σ H :=
  s_fld (D := { D with nx := tz D }) hv h hp hc na hz fun H1 e1 => k _ ((e.trans e1).mut hn) (by rw [upd_same, hf])
theorem s_put {H0 : Hp} {p C dx : Addr} {fs fs' : List (Str × V)} {f : Str} (e : Ex H0 H) (hn : H0 p = none) (hp : H p = some (.ins C dx fs)) (hv : Ev tv σ H y) (h : Ev ta σ H (.ref p)) (hc : Cls K C) (na : NoAttr K C f) (hz : fs.length < 1000) (hf : putF f y fs = fs')
    (k : ∀ H', Ex H0 H' → H' p = some (.ins C dx fs') → D.nx σ H') : sFld K ta tv f D σ H :=
  s_fld hv h hp hc na hz fun H1 e1 => k _ ((e.trans e1).mut hn) (by rw [upd_same, hf])
end
end Scw
/-! # Crates, wishes, melts -/
namespace Scw
open PySem PySem.Spec PyProof.Rows L2 Evl
section
variable {P : Program} {w : World} {K : PySem.W.Frag} {mg : Str → Option Value} {base : Heap} {B : Ads}

/-! ### Crate, Wish -/
def spCrateInit (B : Ads) : Sp := InitSp B.crate (fun c : Sj14.Crate => [.int c.heavy, .int c.copper, .int c.zinc, .int c.price]) (fun _ _ => True) crateF
theorem scCrateInit : FnScope ["self", "heavy", "copper", "zinc", "price"] ["self", "heavy", "copper", "zinc", "price"] (defScope sCrateInit) := ⟨rfl, rfl, rfl, by decide +kernel, rfl, by decide +kernel, by decide +kernel⟩
theorem ok_CrateInit (T : Txt K mg B) (D : DefC K mg B.crate "Crate" "Crate.__init__" sCrateInit ["self", "heavy", "copper", "zinc", "price"]) :
    CallC P w K mg base 1 B.crate "Crate" ["self", "heavy", "copper", "zinc", "price"] (spCrateInit B) := by
  obtain ⟨f, fd, hg, M, F, b⟩ := D.ex
  refine ⟨f, fd, hg, M, b, F.ok scCrateInit (fun vs H Q E h => ?_) fun cdv A outer s H vs Q E hr h => ?_⟩
  · obtain ⟨p, dx, H0, u, rfl, _⟩ := h
    rfl
  · obtain ⟨p, dx, H0, c, rfl, _, e0, np, hp, k⟩ := h
    refine ⟨_, pss_cons (ps_fld (pv 0) (pv 1) rfl) (pss_cons (ps_fld (pv 0) (pv 2) rfl) (pss_cons (ps_fld (pv 0) (pv 3) rfl) (pss_one (ps_fld (pv 0) (pv 4) rfl)))), ?_⟩
    refine q_put e0 np hp (y := .int c.heavy) (ev_var rfl) (ev_var rfl) T.cC T.nC.1 (by show 0 < 1000; decide) (put_new [] rfl (by decide +kernel)) fun H1 e1 h1 => ?_
    refine q_put e1 np h1 (y := .int c.copper) (ev_var rfl) (ev_var rfl) T.cC T.nC.2.1 (by show 1 < 1000; decide) (put_new ["heavy"] rfl (by decide +kernel)) fun H2 e2 h2 => ?_
    refine q_put e2 np h2 (y := .int c.zinc) (ev_var rfl) (ev_var rfl) T.cC T.nC.2.2.1 (by show 2 < 1000; decide) (put_new ["heavy", "copper"] rfl (by decide +kernel)) fun H3 e3 h3 => ?_
    exact s_put e3 np h3 (y := .int c.price) (ev_var rfl) (ev_var rfl) T.cC T.nC.2.2.2 (by show 3 < 1000; decide) (put_new ["heavy", "copper", "zinc"] rfl (by decide +kernel)) fun H4 e4 h4 => k H4 e4 h4
def spWishInit (B : Ads) : Sp := InitSp B.wish (fun u : Addr × Addr × Addr => [.ref u.1, .ref u.2.1, .ref u.2.2]) (fun _ _ => True) fun u => wishF u.1 u.2.1 u.2.2
theorem scWishInit : FnScope ["self", "heavy", "copper", "zinc"] ["self", "heavy", "copper", "zinc"] (defScope sWishInit) := ⟨rfl, rfl, rfl, by decide +kernel, rfl, by decide +kernel, by decide +kernel⟩
theorem ok_WishInit (T : Txt K mg B) (D : DefC K mg B.wish "Wish" "Wish.__init__" sWishInit ["self", "heavy", "copper", "zinc"]) :
    CallC P w K mg base 1 B.wish "Wish" ["self", "heavy", "copper", "zinc"] (spWishInit B) := by
  obtain ⟨f, fd, hg, M, F, b⟩ := D.ex
  refine ⟨f, fd, hg, M, b, F.ok scWishInit (fun vs H Q E h => ?_) fun cdv A outer s H vs Q E hr h => ?_⟩
  · obtain ⟨p, dx, H0, u, rfl, _⟩ := h
    rfl
  · obtain ⟨p, dx, H0, c, rfl, _, e0, np, hp, k⟩ := h
    refine ⟨_, pss_cons (ps_fld (pv 0) (pv 1) rfl) (pss_cons (ps_fld (pv 0) (pv 2) rfl) (pss_one (ps_fld (pv 0) (pv 3) rfl))), ?_⟩
    refine q_put e0 np hp (y := .ref c.1) (ev_var rfl) (ev_var rfl) T.cW T.nW.1 (by show 0 < 1000; decide) (put_new [] rfl (by decide +kernel)) fun H1 e1 h1 => ?_
    refine q_put e1 np h1 (y := .ref c.2.1) (ev_var rfl) (ev_var rfl) T.cW T.nW.2.1 (by show 1 < 1000; decide) (put_new ["heavy"] rfl (by decide +kernel)) fun H2 e2 h2 => ?_
    exact s_put e2 np h2 (y := .ref c.2.2) (ev_var rfl) (ev_var rfl) T.cW T.nW.2.2 (by show 2 < 1000; decide) (put_new ["heavy", "copper"] rfl (by decide +kernel)) fun H3 e3 h3 => k H3 e3 h3

/-! ### Melt -/
abbrev Cr := Addr × Sj14.Crate
/-- a list of crates at l -/
def CratesAt (K : PySem.W.Frag) (B : Ads) (H : Hp) (l : Addr) (ps : List Cr) : Prop := SqL K H l (ps.map rf) ∧ ∀ p ∈ ps, CrateAt B H p.1 p.2
theorem CratesAt.mono {H H' : Hp} {l : Addr} {ps : List Cr} (e : Ex H H') (h : CratesAt K B H l ps) : CratesAt K B H' l ps := ⟨ex_l e h.1, fun p hp => (h.2 p hp).mono e⟩
abbrev MeltArg := Nat × Addr × List Cr
def spMeltInit (K : PySem.W.Frag) (B : Ads) : Sp := InitSp B.melt (fun u : MeltArg => [.int u.1, .ref u.2.1]) (fun u H => CratesAt K B H u.2.1 u.2.2 ∧ u.2.2.length ≤ 8 ∧ ∀ p ∈ u.2.2, p.2.heavy ≤ 200)
  fun u => meltF (Sc.ofCrates u.1 (u.2.2.map Prod.snd))
theorem cast_sum : ∀ l : List Nat, (l.map fun (n : Nat) => (n : Int)).sum = ((l.sum : Nat) : Int)
  | [] => rfl
  | n :: l => by
    rw [List.map_cons, List.sum_cons, List.sum_cons, cast_sum l]
    omega
/-- sum([.. for crate in some]) -/
theorem ev_sumC {σ : L2.St} {H : Hp} {l : Addr} {ps : List Cr} {j : Nat} {vs : List Nat} {tl te : TE} (f : Sj14.Crate → Nat) (hC : CratesAt K B H l ps) (hz : ps.length ≤ 8) (h : Ev tl σ H (.ref l)) (hw : ∀ x, wipe ((wipe σ vs).set j (some x)) vs = wipe σ vs)
    (he : ∀ p ∈ ps, ∀ H1, Ex H H1 → Ev te ((wipe σ vs).set j (some (rf p))) H1 (.int (f p.2 : Nat))) :
    Ev (tCB (rSum K) (tCons (tLc (iList K tl) (gName j) tYes te vs) tNil)) σ H (.int (((ps.map Prod.snd).map f).sum : Nat)) := fun H1 e Q q => by
  have r := el_lcP (t := tYes) rf ps (fun _ => true) (fun p => V.int (f p.2 : Nat)) h hC.1 (by omega) hw (fun _ _ _ _ => et_yes) (fun p hp H2 e2 _ => he p hp H2 e2)
  show tLc (iList K tl) (gName j) tYes te vs σ H1 fun x H1 => tNil σ H1 fun xs H2 => rSum K (x :: xs) H2 Q
  refine r H1 e _ fun D H2 _ e2 hD => ?_
  have e3 : ((ps.filter fun _ => true).map fun p => V.int (f p.2 : Nat)) = ((((ps.map Prod.snd).map f).map fun (n : Nat) => (n : Int)).map V.int) := by
    rw [List.filter_eq_self.mpr (fun _ _ => rfl), List.map_map, List.map_map, List.map_map]
    rfl
  rw [e3] at hD
  refine ⟨D, _, rfl, sq_of hD, ?_⟩
  rw [cast_sum]
  exact q H2 e2
theorem scMeltInit : FnScope ["self", "number", "some", "crate"] ["self", "number", "some"] (defScope sMeltInit) := ⟨rfl, rfl, rfl, by decide +kernel, rfl, by decide +kernel, by decide +kernel⟩
theorem ok_MeltInit (T : Txt K mg B) (D : DefC K mg B.melt "Melt" "Melt.__init__" sMeltInit ["self", "number", "some"]) :
    CallC P w K mg base 1 B.melt "Melt" ["self", "number", "some"] (spMeltInit K B) := by
  obtain ⟨f, fd, hg, M, F, b⟩ := D.ex
  refine ⟨f, fd, hg, M, b, F.ok scMeltInit (fun vs H Q E h => ?_) fun cdv A outer s H vs Q E hr h => ?_⟩
  · obtain ⟨p, dx, H0, u, rfl, _⟩ := h
    rfl
  · obtain ⟨p, dx, H0, ⟨n, l, ps⟩, rfl, ⟨hC, hz, h200⟩, e0, np, hp, k⟩ := h
    have nd := scMeltInit.nd
    refine ⟨_, pss_cons (ps_fld (pv 0) (pv 1) rfl) (pss_cons (ps_fld (pv 0) (pe_callB call_len_seq (by rfl) T.len PySem.boot_len (pa_cons (pv 2) pa_nil)) rfl)
      (pss_cons (ps_fld (pv 0) (pe_callB (cr_sum rfl) (by rfl) T.sum (by decide +kernel) (pa_cons (pe_lc (own := [("crate", 3)]) (g := gName 3) (tt := tYes) rfl nd (pi_list (pv 2)) (blkOk_by (N := ["self", "number", "some", "crate"]) (sc := defScope sMeltInit) (by decide +kernel))
        (fun _ _ _ _ _ => pg_name (i := 3) nd rfl (Or.inl rfl)) (fun _ _ _ _ _ => pts_nil) (fun _ _ _ _ _ => pe_fldK (K := K) rfl (pv 3) rfl)) pa_nil)) rfl)
      (pss_cons (ps_fld (pv 0) (pe_callB (cr_sum rfl) (by rfl) T.sum (by decide +kernel) (pa_cons (pe_lc (own := [("crate", 3)]) (g := gName 3) (tt := tYes) rfl nd (pi_list (pv 2)) (blkOk_by (N := ["self", "number", "some", "crate"]) (sc := defScope sMeltInit) (by decide +kernel))
        (fun _ _ _ _ _ => pg_name (i := 3) nd rfl (Or.inl rfl)) (fun _ _ _ _ _ => pts_nil) (fun _ _ _ _ _ => pe_op op_mul (pe_fldK (K := K) rfl (pv 3) rfl) (pe_fldK (K := K) rfl (pv 3) rfl))) pa_nil)) rfl)
      (pss_cons (ps_fld (pv 0) (pe_callB (cr_sum rfl) (by rfl) T.sum (by decide +kernel) (pa_cons (pe_lc (own := [("crate", 3)]) (g := gName 3) (tt := tYes) rfl nd (pi_list (pv 2)) (blkOk_by (N := ["self", "number", "some", "crate"]) (sc := defScope sMeltInit) (by decide +kernel))
        (fun _ _ _ _ _ => pg_name (i := 3) nd rfl (Or.inl rfl)) (fun _ _ _ _ _ => pts_nil) (fun _ _ _ _ _ => pe_op op_mul (pe_fldK (K := K) rfl (pv 3) rfl) (pe_fldK (K := K) rfl (pv 3) rfl))) pa_nil)) rfl)
      (pss_one (ps_fld (pv 0) (pe_callB (cr_sum rfl) (by rfl) T.sum (by decide +kernel) (pa_cons (pe_lc (own := [("crate", 3)]) (g := gName 3) (tt := tYes) rfl nd (pi_list (pv 2)) (blkOk_by (N := ["self", "number", "some", "crate"]) (sc := defScope sMeltInit) (by decide +kernel))
        (fun _ _ _ _ _ => pg_name (i := 3) nd rfl (Or.inl rfl)) (fun _ _ _ _ _ => pts_nil) (fun _ _ _ _ _ => pe_fldK (K := K) rfl (pv 3) rfl)) pa_nil)) rfl)))))), ?_⟩
    have cm : ∀ p ∈ ps, ∀ z : Nat, CMul ((p.2.heavy : Nat) : Int) (z : Int) := fun p hp z => .inl ⟨by have := h200 p hp; omega, by have := h200 p hp; omega⟩
    have ml : ∀ a b : Nat, V.int ((a : Int) * (b : Int)) = V.int ((a * b : Nat) : Int) := fun a b => by rw [Int.natCast_mul]
    refine q_put e0 np hp (y := .int n) (ev_var rfl) (ev_var rfl) T.cM T.nM.1 (by show 0 < 1000; decide) (put_new [] rfl (by decide +kernel)) fun H1 e1 h1 => ?_
    refine q_put e1 np h1 (y := .int ((ps.map rf).length : Nat)) (ev_len (ev_var rfl) (ex_l e1 hC.1)) (ev_var rfl) T.cM T.nM.2.1 (by show 1 < 1000; decide) (put_new ["number"] rfl (by decide +kernel)) fun H2 e2 h2 => ?_
    refine q_put e2 np h2 (ev_sumC (fun c => c.heavy) (hC.mono e2) hz (ev_var rfl) (fun _ => rfl) fun p hp H3 e3 => ev_cr0 T (ev_var rfl) ((hC.2 p hp).mono (e2.trans e3))) (ev_var rfl) T.cM T.nM.2.2.1 (by show 2 < 1000; decide)
      (put_new ["number", "many"] rfl (by decide +kernel)) fun H3 e3 h3 => ?_
    refine q_put e3 np h3 (ev_sumC (fun c => c.heavy * c.copper) (hC.mono e3) hz (ev_var rfl) (fun _ => rfl) fun p hp H4 e4 => ev_is (ev_op (ev_cr0 T (ev_var rfl) ((hC.2 p hp).mono (e3.trans e4))) (ev_cr1 T (ev_var rfl) ((hC.2 p hp).mono (e3.trans e4))) (rv_I (cm p hp _))) (ml _ _))
      (ev_var rfl) T.cM T.nM.2.2.2.1 (by show 3 < 1000; decide) (put_new ["number", "many", "heavy"] rfl (by decide +kernel)) fun H4 e4 h4 => ?_
    refine q_put e4 np h4 (ev_sumC (fun c => c.heavy * c.zinc) (hC.mono e4) hz (ev_var rfl) (fun _ => rfl) fun p hp H5 e5 => ev_is (ev_op (ev_cr0 T (ev_var rfl) ((hC.2 p hp).mono (e4.trans e5))) (ev_cr2 T (ev_var rfl) ((hC.2 p hp).mono (e4.trans e5))) (rv_I (cm p hp _))) (ml _ _))
      (ev_var rfl) T.cM T.nM.2.2.2.2.1 (by show 4 < 1000; decide) (put_new ["number", "many", "heavy", "copper"] rfl (by decide +kernel)) fun H5 e5 h5 => ?_
    refine s_put e5 np h5 (ev_sumC (fun c => c.price) (hC.mono e5) hz (ev_var rfl) (fun _ => rfl) fun p hp H6 e6 => ev_cr3 T (ev_var rfl) ((hC.2 p hp).mono (e5.trans e6))) (ev_var rfl) T.cM T.nM.2.2.2.2.2 (by show 5 < 1000; decide)
      (put_new ["number", "many", "heavy", "copper", "zinc"] rfl (by decide +kernel)) fun H6 e6 h6 => k H6 e6 ?_
    rw [h6]
    show some (HO.ins B.melt dx [("number", .int n), ("many", .int ((ps.map rf).length : Nat)), _, _, _, _]) = some (HO.ins B.melt dx [("number", .int n), ("many", .int ((ps.map Prod.snd).length : Nat)), _, _, _, _])
    rw [List.length_map, List.length_map]
    rfl
end
end Scw
/-! # Melts: told, away, of a number; what is wrong -/
namespace Scw
open PySem PySem.Spec PyProof.Rows L2 Evl
section
variable {P : Program} {w : World} {K : PySem.W.Frag} {mg : Str → Option Value} {base : Heap} {B : Ads}
/-- a melt's numbers are small -/
structure Small (m : Sc.ML) : Prop where
  h0 : 1 ≤ m.heavy
  h1 : m.heavy ≤ 1600
  c1 : m.copper ≤ 1600000
  z1 : m.zinc ≤ 1600000
abbrev frV (x : Nat × Nat) : List V := [.int (x.1 : Nat), .int (x.2 : Nat)]

/-! ### told -/
def toldL (m : Sc.ML) : List Nat := [m.heavy, (Sc.low m.copper m.heavy).1, (Sc.low m.copper m.heavy).2, (Sc.low m.zinc m.heavy).1, (Sc.low m.zinc m.heavy).2]
abbrev natV (l : List Nat) : List V := l.map fun (n : Nat) => V.int (n : Int)
def spTold (B : Ads) : Sp := fun vs H Q _ => ∃ (a : Addr) (m : Sc.ML), vs = [.ref a] ∧ MeltAt B H a m ∧ Small m ∧ RetL (natV (toldL m)) H Q
theorem scTold : FnScope ["self"] ["self"] (defScope sTold) := ⟨rfl, rfl, rfl, by decide +kernel, rfl, by decide +kernel, by decide +kernel⟩
theorem ok_told (T : Txt K mg B) (D : DefM K B.melt "told" "Melt.told" sTold ["self"]) (G : CallG P w K mg base 2 "lowest" ["top", "bottom"] spLowest) : CallM P w K mg base 3 B.melt "told" ["self"] (spTold B) := by
  obtain ⟨f, fd, hm, F, b⟩ := D.ex
  refine ⟨f, fd, hm, b, F.ok scTold (fun vs H Q E h => ?_) fun cdv A outer s H vs Q E hr h => ?_⟩
  · obtain ⟨a, m, rfl, _⟩ := h
    rfl
  · obtain ⟨a, m, rfl, hM, hs, k⟩ := h
    refine ⟨_, pss_one (ps_ret (pe_op op_cat (pe_op op_cat (pe_lst (pa_cons (pe_fld (pv 0) rfl) pa_nil))
      (pe_callTy call_list_of (by rfl) T.list boot_list (pa_cons (pe_g G hr rfl (pa_cons (pe_fld (pv 0) rfl) (pa_cons (pe_fld (pv 0) rfl) pa_nil))) pa_nil)))
      (pe_callTy call_list_of (by rfl) T.list boot_list (pa_cons (pe_g G hr rfl (pa_cons (pe_fld (pv 0) rfl) (pa_cons (pe_fld (pv 0) rfl) pa_nil))) pa_nil)))), ?_⟩
    have b1 : m.heavy < 1073741824 := by have := hs.h1; omega
    have r1 : EvL (tLst (tCons (tFld K (tVar 0) "heavy") tNil)) (start ["self"] [.ref a]) H [.int m.heavy] := el_lst (ea_cons (ev_me2 T (ev_var rfl) hM) ea_nil) (by show 1 ≤ 100000; decide)
    have r2 : EvU (tCall spLowest [] E0 (tCons (tFld K (tVar 0) "copper") (tCons (tFld K (tVar 0) "heavy") tNil))) (start ["self"] [.ref a]) H (frV (Sc.low m.copper m.heavy)) :=
      eu_call (ea_cons (ev_me3 T (ev_var rfl) hM) (ea_cons (ev_me2 T (ev_var rfl) hM) ea_nil)) fun H1 e Q q E => ⟨m.copper, m.heavy, rfl, hs.h0, b1, q⟩
    have r3 : EvU (tCall spLowest [] E0 (tCons (tFld K (tVar 0) "zinc") (tCons (tFld K (tVar 0) "heavy") tNil))) (start ["self"] [.ref a]) H (frV (Sc.low m.zinc m.heavy)) :=
      eu_call (ea_cons (ev_me4 T (ev_var rfl) hM) (ea_cons (ev_me2 T (ev_var rfl) hM) ea_nil)) fun H1 e Q q E => ⟨m.zinc, m.heavy, rfl, hs.h0, b1, q⟩
    exact s_retL (el_cat (el_cat r1 (el_listU r2) (by show 3 ≤ 100000; decide)) (el_listU r3) (by show 5 ≤ 100000; decide)) k

/-! ### away -/
def spAway (B : Ads) : Sp := fun vs H Q _ => ∃ (a : Addr) (m : Sc.ML) (k : Nat), vs = [.ref a, .int k] ∧ MeltAt B H a m ∧ Small m ∧ k ≤ 1000 ∧ RetU (frV (Sc.frac k m)) H Q
theorem scAway : FnScope ["self", "thousandths"] ["self", "thousandths"] (defScope sAway) := ⟨rfl, rfl, rfl, by decide +kernel, rfl, by decide +kernel, by decide +kernel⟩
def rAbs : List V → Hp → VK → Prop := fun xs H Q => ∃ i, xs = [.int i] ∧ Q (.int (if i < 0 then -i else i)) H
theorem apart_is (a b : Nat) : (if (a : Int) - (b : Int) < 0 then -((a : Int) - (b : Int)) else (a : Int) - (b : Int)) = ((Sj14.apart a b : Nat) : Int) := by
  unfold Sj14.apart
  split <;> omega
theorem ok_away (T : Txt K mg B) (D : DefM K B.melt "away" "Melt.away" sAway ["self", "thousandths"]) (G : CallG P w K mg base 2 "lowest" ["top", "bottom"] spLowest) :
    CallM P w K mg base 3 B.melt "away" ["self", "thousandths"] (spAway B) := by
  obtain ⟨f, fd, hm, F, b⟩ := D.ex
  refine ⟨f, fd, hm, b, F.ok scAway (fun vs H Q E h => ?_) fun cdv A outer s H vs Q E hr h => ?_⟩
  · obtain ⟨a, m, k, rfl, _⟩ := h
    rfl
  · obtain ⟨a, m, t, rfl, hM, hs, ht, k⟩ := h
    refine ⟨_, pss_one (ps_ret (pe_g G hr rfl (pa_cons (pe_callB call_abs (by rfl) T.abs boot_abs (pa_cons (pe_op op_sub (pe_fld (pv 0) rfl) (pe_op op_mul (pv 1) (pe_fld (pv 0) rfl))) pa_nil)) (pa_cons (pe_fld (pv 0) rfl) pa_nil)))), ?_⟩
    have b1 : m.heavy < 1073741824 := by have := hs.h1; omega
    have c : CMul ((t : Nat) : Int) ((m.heavy : Nat) : Int) := .inl ⟨by omega, by omega⟩
    have r1 : Ev (tCB rAbs (tCons (tOp (rI0 fun i j => .int (i - j)) (tFld K (tVar 0) "copper") (tOp (rI CMul fun i j => .int (i * j)) (tVar 1) (tFld K (tVar 0) "heavy"))) tNil)) (start ["self", "thousandths"] [.ref a, .int t]) H (.int (Sc.away t m : Nat)) := by
      refine ev_cb (ea_cons (ev_op (ev_me3 T (ev_var rfl) hM) (ev_op (ev_var rfl) (ev_me2 T (ev_var rfl) hM) (rv_I c)) rv_I0) ea_nil) fun H1 e Q q => ⟨_, rfl, ?_⟩
      have e1 : (if (m.copper : Int) - (t : Int) * (m.heavy : Int) < 0 then -((m.copper : Int) - (t : Int) * (m.heavy : Int)) else (m.copper : Int) - (t : Int) * (m.heavy : Int)) = ((Sc.away t m : Nat) : Int) := by
        rw [← Int.natCast_mul]
        exact apart_is m.copper (t * m.heavy)
      rw [e1]
      exact q H1 (Ex.refl H1)
    exact s_retU (eu_call (ea_cons r1 (ea_cons (ev_me2 T (ev_var rfl) hM) ea_nil)) fun H1 e Q q E => ⟨Sc.away t m, m.heavy, rfl, hs.h0, b1, q⟩) k

/-! ### melt_of -/
theorem pair_turn {H H1 : Hp} {f : Nat → Bool} {v : Nat → V} {Dl T : Addr} {i : Nat} {o : HO} (p : Cw H f v Dl i H1) (n : H1 T = none) : Cw H f v Dl i (upd H1 T o) := by
  obtain ⟨p1, p2, p3⟩ := p
  exact ⟨p1, p2.trans (Ex.new n), by rw [upd_ne (ne_of_none p3 n)]; exact p3⟩
/-- [.. for place, crate in enumerate(xs) if ..] -/
theorem el_lcE {σ : L2.St} {H : Hp} {ta : TA} {te : TE} {t : TT} {a : Addr} {xs : List V} {i j : Nat} {vs : List Nat} (f : Nat → Bool) (v : Nat → V) (h : EvA ta σ H [.ref a]) (hx : SqL K H a xs) (hz : xs.length ≤ 40000)
    (hw : ∀ x y, wipe (((wipe σ vs).set i (some x)).set j (some y)) vs = wipe σ vs)
    (ht : ∀ (n : Nat) (x : V) H1, Ex H H1 → xs[n]? = some x → EvT t (((wipe σ vs).set i (some (.int (n : Nat)))).set j (some x)) H1 (f n))
    (he : ∀ (n : Nat) (x : V) H1, Ex H H1 → xs[n]? = some x → f n = true → Ev te (((wipe σ vs).set i (some (.int (n : Nat)))).set j (some x)) H1 (v n)) :
    EvL (tLc (iEnum K ta) (gTup K 2 (gCons (gName i) (gCons (gName j) gNil))) t te vs) σ H (given xs.length f v) := fun H0 e Q q => h H0 e _ fun H1 e1 => ⟨a, xs, rfl, ex_l (e.trans e1) hx, fun Dl hD =>
  lc_it walk_enum (Cw H1 f v Dl) ⟨hD, Ex.new hD, upd_same⟩ (fun n H' _ p => ex_l ((e.trans e1).trans p.2.1) hx) (fun n x H' H'' hn p y => by
    obtain ⟨Tp, x0, y0, rfl, nT, rfl, hx0, hy0⟩ := y
    cases hx0
    have p' := pair_turn (o := .tup [.int (n : Nat), y0]) p nT
    exact ⟨Tp, [.int (n : Nat), y0], rfl, SqT.of upd_same, rfl, _, _, rfl, _, _, rfl, rfl, hw _ _, cw_turn p' (by omega) (ht n y0 H1 (e.trans e1) hy0) (fun hf => he n y0 H1 (e.trans e1) hy0 hf)⟩)
    (fun H' p => q Dl H' (fresh_back e1 p.1) (e1.trans p.2.1) p.2.2)⟩
end
end Scw
/-! # melt_of, wrong_with -/
namespace Scw
open PySem PySem.Spec PyProof.Rows L2 Evl
section
variable {P : Program} {w : World} {K : PySem.W.Frag} {mg : Str → Option Value} {base : Heap} {B : Ads}
theorem ev_make2L {σ : L2.St} {H : Hp} {ta tb : TE} {x : V} {xs : List V} {α : Type} {C : Addr} {args : α → List V} {pre : α → Hp → Prop} {fields : α → List (Str × V)} {fs : List (Str × V)} {E : XK} (h1 : Ev ta σ H x) (h2 : EvL tb σ H xs)
    (hu : ∀ l H1, Ex H H1 → H1 l = some (.lst xs) → ∃ u, [x, .ref l] = args u ∧ pre u H1 ∧ fields u = fs) : EvP (tMake C (InitSp C args pre fields) [] E (tCons ta (tCons tb tNil))) σ H (MadeAt C fs) := fun H1 e Q q =>
  h1 H1 e _ fun H2 e2 => h2 H2 (e.trans e2) _ fun l H3 _ e3 hl => fun z dx nz nd ne => by
    obtain ⟨u, ha, hp, rfl⟩ := hu l H3 ((e.trans e2).trans e3) hl
    refine ⟨z, dx, H3, u, by rw [← ha]; rfl, hp, fun c o hc => ?_, nz, upd_same, fun H' e' h' => ⟨rfl, q _ H' ((e2.trans e3).trans e') ⟨z, dx, rfl, fresh_back (e2.trans e3) nz, h'⟩⟩⟩
    rw [upd_ne (ne_of_none hc nz), upd_ne (ne_of_none hc nd)]
    exact hc
def noCr : Cr := (0, ⟨0, 0, 0, 0⟩)
theorem bit_is (n i : Nat) : decide (V.int (Builtin.bitAnd ((n : Int) / 2 ^ (((i : Nat) : Int)).toNat) 1) = V.int 1) = n.testBit i := by
  rw [Int.toNat_natCast, bitAnd_m1, Nat.testBit_eq_decide_div_mod_eq]
  have e : (n : Int) / 2 ^ i % 2 = ((n / 2 ^ i % 2 : Nat) : Int) := by
    rw [Int.natCast_emod, Int.natCast_ediv, Int.natCast_pow]
    rfl
  rw [e]
  by_cases c : n / 2 ^ i % 2 = 1
  · rw [c]
    rfl
  · rw [decide_eq_false c, decide_eq_false]
    intro z
    have z := V.int.inj z
    omega
def spMeltOf (B : Ads) : Sp := fun vs H Q _ => ∃ (b l : Addr) (y : Sj14.Yard) (n : Nat), vs = [.ref b, .int n] ∧ HeapAt B H b l y ∧ Sc.Ok y ∧ ∀ x H2, H x = none → Ex H H2 → MeltAt B H2 x (Sc.mk y n) → Q (.ref x) H2
theorem scMeltOf : FnScope ["heap", "number", "place", "crate"] ["heap", "number"] (defScope sMeltOf) := ⟨rfl, rfl, rfl, by decide +kernel, rfl, by decide +kernel, by decide +kernel⟩
theorem picked {y : Sj14.Yard} {ps : List Cr} (h5 : ps.map Prod.snd = y.crates) (n : Nat) : (((List.range ps.length).filter n.testBit).map fun i => ps.getD i noCr).map Prod.snd = (y.members n).map y.crate := by
  unfold Sj14.Yard.members Sj14.Yard.count
  rw [← h5, List.length_map, List.map_map]
  refine List.map_congr_left fun i _ => ?_
  show (ps.getD i noCr).2 = y.crates.getD i ⟨0, 0, 0, 0⟩
  rw [← h5, List.getD_eq_getElem?_getD, List.getD_eq_getElem?_getD, List.getElem?_map]
  cases ps[i]? <;> rfl
theorem ok_melt_of (T : Txt K mg B) (D : DefG K mg "melt_of" sMeltOf ["heap", "number"]) (G : CallC P w K mg base 1 B.melt "Melt" ["self", "number", "some"] (spMeltInit K B)) : CallG P w K mg base 3 "melt_of" ["heap", "number"] (spMeltOf B) := by
  obtain ⟨f, fd, hg, F, b⟩ := D.ex
  obtain ⟨fi, fdi, hgi, Mi, bi, Fi⟩ := G.ex
  refine ⟨f, fd, hg, F.kp, b, F.ok scMeltOf (fun vs H Q E h => ?_) fun cdv A outer s H vs Q E hr h => ?_⟩
  · obtain ⟨b, l, y, n, rfl, _⟩ := h
    rfl
  · obtain ⟨b, l, y, n, rfl, hH, hok, k⟩ := h
    have nd := scMeltOf.nd
    refine ⟨_, pss_one (ps_ret (pe_make Mi Fi hr rfl hgi bi .nil pass0 (pa_cons (pv 1) (pa_cons
      (pe_lc (own := [("place", 2), ("crate", 3)]) (g := gTup K 2 (gCons (gName 2) (gCons (gName 3) gNil))) (tt := tTest (tOp rEq (tOp (rI0 fun i j => .int (Builtin.bitAnd i j)) (tOp (rI (fun _ j => 0 ≤ j) fun i j => .int (i / 2 ^ j.toNat)) (tVar 1) (tVar 2)) (tC (.int 1))) (tC (.int 1)))) (te := tVar 3)
        rfl nd (pi_enum rfl T.enumerate (pa_cons (pe_fld (pv 0) rfl) pa_nil)) (blkOk_by (N := ["heap", "number", "place", "crate"]) (sc := defScope sMeltOf) (by decide +kernel))
        (fun _ _ _ _ _ => pg_tup rfl (pgs_cons (pg_name (i := 2) nd rfl (Or.inl rfl)) (pgs_cons (pg_name (i := 3) nd rfl (Or.inl rfl)) pgs_nil)))
        (fun _ _ _ _ _ => pts_one (pt_cmpR op_eq (pe_op op_and (pe_op op_shr (pv 1) (pv 2)) pe_int) pe_int (nomark _))) (fun _ _ _ _ _ => pv 3)) pa_nil)))), ?_⟩
    obtain ⟨dx, a, ps, h1, h2, h3, h4, h5⟩ := hH.ex
    have hlen : ps.length = y.crates.length := by rw [← h5, List.length_map]
    have h8 : ps.length ≤ 8 := by rw [hlen]; exact hok.few
    have inps : ∀ i, i < ps.length → ps.getD i noCr ∈ ps := fun i hi => by
      rw [List.getD_eq_getElem?_getD, List.getElem?_eq_getElem hi]
      exact List.getElem_mem hi
    have r := el_lcE (K := K) (σ := start ["heap", "number", "place", "crate"] [.ref b, .int n]) (H := H) (ta := tCons (tFld K (tVar 0) "crates") tNil) (te := tVar 3) (a := l) (xs := ps.map rf) (i := 2) (j := 3) (vs := [2, 3])
      (t := tTest (tOp rEq (tOp (rI0 fun i j => .int (Builtin.bitAnd i j)) (tOp (rI (fun _ j => 0 ≤ j) fun i j => .int (i / 2 ^ j.toNat)) (tVar 1) (tVar 2)) (tC (.int 1))) (tC (.int 1))))
      n.testBit (fun i => rf (ps.getD i noCr)) (ea_cons (ev_fld (ev_var rfl) h1 T.cH T.nH.2 (heF1 a l)) ea_nil) (sq_of h3) (by rw [List.length_map]; omega) (fun _ _ => rfl)
      (fun i x H1 _ _ => et_is (et_test (ev_op (ev_op (ev_op (x := .int n) (y := .int (i : Nat)) (ev_var rfl) (ev_var rfl) (rv_I (by omega))) ev_c rv_I0) ev_c (rv_eq rfl))) (bit_is n i))
      (fun i x H1 _ hx _ => by
        have e : rf (ps.getD i noCr) = x := by
          rw [List.getElem?_map] at hx
          rw [List.getD_eq_getElem?_getD]
          cases e : ps[i]? with
          | none =>
            rw [e] at hx
            cases hx
          | some p =>
            rw [e] at hx
            exact Option.some.inj hx
        rw [e]
        exact ev_var rfl)
    have e6 : given (ps.map rf).length n.testBit (fun i => rf (ps.getD i noCr)) = (((List.range ps.length).filter n.testBit).map fun i => ps.getD i noCr).map rf := by
      rw [List.length_map, List.map_map]
      rfl
    rw [e6] at r
    refine s_retP (R := MadeAt B.melt (meltF (Sc.mk y n))) (ev_make2L (x := .int n) (ev_var rfl) r fun q H1 e1 hq => ⟨(n, q, ((List.range ps.length).filter n.testBit).map fun i => ps.getD i noCr), rfl, ⟨⟨sq_of hq, fun p hp => ?_⟩, ?_, fun p hp => ?_⟩, ?_⟩) fun v H1 e1 m => ?_
    · obtain ⟨i, hi, rfl⟩ := List.mem_map.mp hp
      exact (h4 _ (inps i (List.mem_range.mp (List.mem_filter.mp hi).1))).mono e1
    · rw [List.length_map]
      refine Nat.le_trans (List.length_filter_le _ _) ?_
      rw [List.length_range]
      exact h8
    · obtain ⟨i, hi, rfl⟩ := List.mem_map.mp hp
      have m := inps i (List.mem_range.mp (List.mem_filter.mp hi).1)
      exact (hok.each _ (by rw [← h5]; exact List.mem_map_of_mem m)).2.1
    · show meltF (Sc.ofCrates n _) = _
      rw [picked h5, Sc.ofCrates_mk]
    · obtain ⟨x, dx', rfl, nx, hx⟩ := m
      exact k x H1 nx e1 ⟨dx', hx⟩
end
end Scw
/-! # what is wrong; all melts that are as wanted -/
namespace Scw
open PySem PySem.Spec PyProof.Rows L2 Evl
section
variable {P : Program} {w : World} {K : PySem.W.Frag} {mg : Str → Option Value} {base : Heap} {B : Ads}
def spIsWithin (K : PySem.W.Frag) : Sp := fun vs H Q _ => ∃ (p : Addr) (n lo hi : Nat), vs = [.int n, .ref p] ∧ SqT K H p [.int lo, .int hi] ∧ RetV (.bl (decide (lo ≤ n) && decide (n ≤ hi))) H Q
theorem scIsWithin : FnScope ["number", "bounds"] ["number", "bounds"] (defScope sIsWithin) := ⟨rfl, rfl, rfl, by decide +kernel, rfl, by decide +kernel, by decide +kernel⟩
theorem le_cast (a b : Nat) : V.bl (decide ((a : Int) ≤ (b : Int))) = V.bl (decide (a ≤ b)) := congrArg V.bl (decide_eq_decide.mpr Int.ofNat_le)
theorem ok_is_within (D : DefG K mg "is_within" sIsWithin ["number", "bounds"]) : CallG P w K mg base 1 "is_within" ["number", "bounds"] (spIsWithin K) := by
  obtain ⟨f, fd, hg, F, b⟩ := D.ex
  refine ⟨f, fd, hg, F.kp, b, F.ok scIsWithin (fun vs H Q E h => ?_) fun cdv A outer s H vs Q E hr h => ?_⟩
  · obtain ⟨p, n, lo, hi, rfl, _⟩ := h
    rfl
  · obtain ⟨p, n, lo, hi, rfl, hp, k⟩ := h
    refine ⟨_, pss_one (ps_ret (pe_chain op_le op_le (pe_ix ix_tup (pv 1) pe_int (fun _ _ => rfl)) (pv 0) (pe_ix ix_tup (pv 1) pe_int (fun _ _ => rfl)))), ?_⟩
    refine s_ret (v := .bl (decide (lo ≤ n) && decide (n ≤ hi))) ?_ k
    refine ev_chain (x := .int lo) (y := .int n) (z := .int hi) (ev_op (ev_var rfl) ev_c (rv_ixT hp (atI_nat (j := 0) rfl))) (ev_var rfl) ?_ (fun _ => ev_op (ev_var rfl) ev_c (rv_ixT hp (atI_nat (j := 1) rfl))) fun _ => ?_
    · rw [← le_cast]
      exact rv_I0
    · rw [← le_cast]
      exact rv_I0
def spIsShare (K : PySem.W.Frag) : Sp := fun vs H Q _ => ∃ (p : Addr) (n h lo hi : Nat), vs = [.int n, .int h, .ref p] ∧ SqT K H p [.int lo, .int hi] ∧ lo ≤ 1000 ∧ hi ≤ 1000 ∧ RetV (.bl (decide (lo * h ≤ n) && decide (n ≤ hi * h))) H Q
theorem scIsShare : FnScope ["part", "heavy", "bounds"] ["part", "heavy", "bounds"] (defScope sIsShareWithin) := ⟨rfl, rfl, rfl, by decide +kernel, rfl, by decide +kernel, by decide +kernel⟩
theorem ok_is_share (D : DefG K mg "is_share_within" sIsShareWithin ["part", "heavy", "bounds"]) : CallG P w K mg base 1 "is_share_within" ["part", "heavy", "bounds"] (spIsShare K) := by
  obtain ⟨f, fd, hg, F, b⟩ := D.ex
  refine ⟨f, fd, hg, F.kp, b, F.ok scIsShare (fun vs H Q E h => ?_) fun cdv A outer s H vs Q E hr h => ?_⟩
  · obtain ⟨p, n, h, lo, hi, rfl, _⟩ := h
    rfl
  · obtain ⟨p, n, h, lo, hi, rfl, hp, l1, l2, k⟩ := h
    refine ⟨_, pss_one (ps_ret (pe_chain op_le op_le (pe_op op_mul (pe_ix ix_tup (pv 2) pe_int (fun _ _ => rfl)) (pv 1)) (pv 0) (pe_op op_mul (pe_ix ix_tup (pv 2) pe_int (fun _ _ => rfl)) (pv 1)))), ?_⟩
    have c1 : CMul ((lo : Nat) : Int) ((h : Nat) : Int) := .inl ⟨by omega, by omega⟩
    have c2 : CMul ((hi : Nat) : Int) ((h : Nat) : Int) := .inl ⟨by omega, by omega⟩
    refine s_ret (v := .bl (decide (lo * h ≤ n) && decide (n ≤ hi * h))) ?_ k
    refine ev_chain (x := .int ((lo : Int) * (h : Int))) (y := .int n) (z := .int ((hi : Int) * (h : Int))) (ev_op (ev_op (ev_var rfl) ev_c (rv_ixT hp (atI_nat (j := 0) rfl))) (ev_var rfl) (rv_I c1)) (ev_var rfl) ?_
      (fun _ => ev_op (ev_op (ev_var rfl) ev_c (rv_ixT hp (atI_nat (j := 1) rfl))) (ev_var rfl) (rv_I c2)) fun _ => ?_
    · rw [← le_cast, Int.natCast_mul]
      exact rv_I0
    · rw [← le_cast, Int.natCast_mul]
      exact rv_I0

/-! ### wrong_with -/
def spWrong (B : Ads) : Sp := fun vs H Q _ => ∃ (b l a : Addr) (y : Sj14.Yard) (m : Sc.ML), vs = [.ref b, .ref a] ∧ HeapAt B H b l y ∧ MeltAt B H a m ∧ Sc.Ok y ∧ RetV (.int (Sc.wrongOf y.wanted m : Nat)) H Q
theorem scWrong : FnScope ["heap", "melt"] ["heap", "melt"] (defScope sWrongWith) := ⟨rfl, rfl, rfl, by decide +kernel, rfl, by decide +kernel, by decide +kernel⟩
theorem ok_wrong_with (T : Txt K mg B) (D : DefG K mg "wrong_with" sWrongWith ["heap", "melt"]) (G1 : CallG P w K mg base 1 "is_within" ["number", "bounds"] (spIsWithin K)) (G2 : CallG P w K mg base 1 "is_share_within" ["part", "heavy", "bounds"] (spIsShare K)) :
    CallG P w K mg base 2 "wrong_with" ["heap", "melt"] (spWrong B) := by
  obtain ⟨f, fd, hg, F, b⟩ := D.ex
  refine ⟨f, fd, hg, F.kp, b, F.ok scWrong (fun vs H Q E h => ?_) fun cdv A outer s H vs Q E hr h => ?_⟩
  · obtain ⟨b, l, a, y, m, rfl, _⟩ := h
    rfl
  · obtain ⟨b, l, a, y, m, rfl, hH, hM, hok, k⟩ := h
    refine ⟨_, pss_cons (ps_if (pt_not (pt_val (pe_g G1 hr rfl (pa_cons (pe_fld (pv 1) rfl) (pa_cons (pe_fld (pe_fld (pv 0) rfl) rfl) pa_nil))))) (pss_one (ps_ret pe_int)) pss_nil)
      (pss_cons (ps_if (pt_not (pt_val (pe_g G2 hr rfl (pa_cons (pe_fld (pv 1) rfl) (pa_cons (pe_fld (pv 1) rfl) (pa_cons (pe_fld (pe_fld (pv 0) rfl) rfl) pa_nil)))))) (pss_one (ps_ret pe_int)) pss_nil)
      (pss_cons (ps_if (pt_not (pt_val (pe_g G2 hr rfl (pa_cons (pe_fld (pv 1) rfl) (pa_cons (pe_fld (pv 1) rfl) (pa_cons (pe_fld (pe_fld (pv 0) rfl) rfl) pa_nil)))))) (pss_one (ps_ret pe_int)) pss_nil)
      (pss_one (ps_ret pe_int)))), ?_⟩
    obtain ⟨dx, wA, ps, h1, ⟨dw, p, q, r, h2, hp, hq, hr'⟩, h3, h4, h5⟩ := hH.ex
    have wi : ∀ H1, Ex H H1 → ∀ {σ : L2.St}, σ[0]? = some (some (.ref b)) → Ev (tFld K (tVar 0) "wish") σ H1 (.ref wA) := fun H1 e σ hσ => ev_fld (ev_var hσ) (e _ _ h1) T.cH T.nH.1 (heF0 wA l)
    refine q_when (b := !(decide (y.wanted.light ≤ m.heavy) && decide (m.heavy ≤ y.wanted.heavy))) (et_not (et_B (ev_call (ea_cons (ev_me2 T (ev_var rfl) hM) (ea_cons (ev_fld (wi H (Ex.refl H) rfl) h2 T.cW T.nW.1 (wiF0 p q r)) ea_nil))
      fun H1 e Q q E => ⟨p, m.heavy, y.wanted.light, y.wanted.heavy, rfl, st_of (e _ _ hp), q⟩))) (fun c H1 e1 => ?_) (fun c H1 e1 => ?_)
    · refine s_ret ev_c fun H2 e2 => ?_
      have e : Sc.wrongOf y.wanted m = 1 := if_pos (by
        intro z
        rw [decide_eq_true z.1, decide_eq_true z.2] at c
        cases c)
      rw [e] at k
      exact k H2 (e1.trans e2)
    have c1 : y.wanted.light ≤ m.heavy ∧ m.heavy ≤ y.wanted.heavy := by
      rw [Bool.not_eq_false', Bool.and_eq_true, decide_eq_true_eq, decide_eq_true_eq] at c
      exact c
    refine q_when (b := !(decide (y.wanted.copperLow * m.heavy ≤ m.copper) && decide (m.copper ≤ y.wanted.copperHigh * m.heavy))) (et_not (et_B (ev_call (ea_cons (ev_me3 T (ev_var rfl) (hM.mono e1)) (ea_cons (ev_me2 T (ev_var rfl) (hM.mono e1))
        (ea_cons (ev_fld (wi H1 e1 rfl) (e1 _ _ h2) T.cW T.nW.2.1 (wiF1 p q r)) ea_nil)))
      fun H2 e Q q' E => ⟨q, m.copper, m.heavy, y.wanted.copperLow, y.wanted.copperHigh, rfl, st_of (e _ _ (e1 _ _ hq)), Nat.le_trans hok.copper.1 hok.copper.2, hok.copper.2, q'⟩))) (fun c H2 e2 => ?_) (fun c H2 e2 => ?_)
    · refine s_ret ev_c fun H3 e3 => ?_
      have e : Sc.wrongOf y.wanted m = 2 := by
        unfold Sc.wrongOf
        rw [if_neg (fun z => z c1), if_pos]
        intro z
        rw [decide_eq_true z.1, decide_eq_true z.2] at c
        cases c
      rw [e] at k
      exact k H3 ((e1.trans e2).trans e3)
    have c2 : y.wanted.copperLow * m.heavy ≤ m.copper ∧ m.copper ≤ y.wanted.copperHigh * m.heavy := by
      rw [Bool.not_eq_false', Bool.and_eq_true, decide_eq_true_eq, decide_eq_true_eq] at c
      exact c
    have e12 := e1.trans e2
    refine q_when (b := !(decide (y.wanted.zincLow * m.heavy ≤ m.zinc) && decide (m.zinc ≤ y.wanted.zincHigh * m.heavy))) (et_not (et_B (ev_call (ea_cons (ev_me4 T (ev_var rfl) (hM.mono e12)) (ea_cons (ev_me2 T (ev_var rfl) (hM.mono e12))
        (ea_cons (ev_fld (wi H2 e12 rfl) (e12 _ _ h2) T.cW T.nW.2.2 (wiF2 p q r)) ea_nil)))
      fun H3 e Q q' E => ⟨r, m.zinc, m.heavy, y.wanted.zincLow, y.wanted.zincHigh, rfl, st_of (e _ _ (e12 _ _ hr')), Nat.le_trans hok.zinc.1 hok.zinc.2, hok.zinc.2, q'⟩))) (fun c H3 e3 => ?_) (fun c H3 e3 => ?_)
    · refine s_ret ev_c fun H4 e4 => ?_
      have e : Sc.wrongOf y.wanted m = 3 := by
        unfold Sc.wrongOf
        rw [if_neg (fun z => z c1), if_neg (fun z => z c2), if_pos]
        intro z
        rw [decide_eq_true z.1, decide_eq_true z.2] at c
        cases c
      rw [e] at k
      exact k H4 ((e12.trans e3).trans e4)
    · refine s_ret ev_c fun H4 e4 => ?_
      have c3 : y.wanted.zincLow * m.heavy ≤ m.zinc ∧ m.zinc ≤ y.wanted.zincHigh * m.heavy := by
        rw [Bool.not_eq_false', Bool.and_eq_true, decide_eq_true_eq, decide_eq_true_eq] at c
        exact c
      have e : Sc.wrongOf y.wanted m = 0 := by
        unfold Sc.wrongOf
        rw [if_neg (fun z => z c1), if_neg (fun z => z c2), if_neg (fun z => z c3)]
      rw [e] at k
      exact k H4 ((e12.trans e3).trans e4)
end
end Scw
/-! # Heap; wanted_melts -/
namespace Scw
open PySem PySem.Spec PyProof.Rows L2 Evl
section
variable {P : Program} {w : World} {K : PySem.W.Frag} {mg : Str → Option Value} {base : Heap} {B : Ads}

/-! ### Heap -/
def spHeapInit (B : Ads) : Sp := fun vs H Q _ => ∃ (p dx a : Addr) (H0 : Hp), vs = [.ref p, .ref a] ∧ Ex H0 H ∧ H0 p = none ∧ H p = some (.ins B.heap dx []) ∧
  ∀ H' l, Ex H0 H' → H0 l = none → H' p = some (.ins B.heap dx (heapF a l)) → H' l = some (.lst []) → Q .non H'
theorem scHeapInit : FnScope ["self", "wish"] ["self", "wish"] (defScope sHeapInit) := ⟨rfl, rfl, rfl, by decide +kernel, rfl, by decide +kernel, by decide +kernel⟩
theorem ok_HeapInit (T : Txt K mg B) (D : DefC K mg B.heap "Heap" "Heap.__init__" sHeapInit ["self", "wish"]) : CallC P w K mg base 1 B.heap "Heap" ["self", "wish"] (spHeapInit B) := by
  obtain ⟨f, fd, hg, M, F, b⟩ := D.ex
  refine ⟨f, fd, hg, M, b, F.ok scHeapInit (fun vs H Q E h => ?_) fun cdv A outer s H vs Q E hr h => ?_⟩
  · obtain ⟨p, dx, a, H0, rfl, _⟩ := h
    rfl
  · obtain ⟨p, dx, a, H0, rfl, e0, np, hp, k⟩ := h
    refine ⟨_, pss_cons (ps_fld (pv 0) (pv 1) rfl) (pss_one (ps_fld (pv 0) (pe_lst pa_nil) rfl)), ?_⟩
    refine q_put e0 np hp (y := .ref a) (ev_var rfl) (ev_var rfl) T.cH T.nH.1 (by show 0 < 1000; decide) (put_new [] rfl (by decide +kernel)) fun H1 e1 h1 => ?_
    refine s_fldL (el_lst ea_nil (Nat.zero_le _)) (ev_var rfl) h1 T.cH T.nH.2 (by show 1 < 1000; decide) fun l H2 nl e2 hl => ?_
    refine k _ l ((e1.trans e2).mut np) (fresh_back e1 nl) ?_ ?_
    · rw [upd_same, put_new ["wish"] rfl (by decide +kernel)]
      rfl
    · rw [upd_ne (fun z => by rw [z, h1] at nl; cases nl)]
      exact hl
def spPutCrate (B : Ads) : Sp := fun vs H Q _ => ∃ (b c l a dx : Addr) (xs : List V), vs = [.ref b, .ref c] ∧ H b = some (.ins B.heap dx (heapF a l)) ∧ H l = some (.lst xs) ∧ xs.length < 1000 ∧ ∀ H1, Ex H H1 → Q .non (upd H1 l (.lst (xs ++ [.ref c])))
theorem scPutCrate : FnScope ["self", "crate"] ["self", "crate"] (defScope sPutCrate) := ⟨rfl, rfl, rfl, by decide +kernel, rfl, by decide +kernel, by decide +kernel⟩
theorem ok_put_crate (T : Txt K mg B) (D : DefM K B.heap "put_crate" "Heap.put_crate" sPutCrate ["self", "crate"]) : CallM P w K mg base 1 B.heap "put_crate" ["self", "crate"] (spPutCrate B) := by
  obtain ⟨f, fd, hm, F, b⟩ := D.ex
  refine ⟨f, fd, hm, b, F.ok scPutCrate (fun vs H Q E h => ?_) fun cdv A outer s H vs Q E hr h => ?_⟩
  · obtain ⟨b, c, l, a, dx, xs, rfl, _⟩ := h
    rfl
  · obtain ⟨b, c, l, a, dx, xs, rfl, hb, hl, hz, k⟩ := h
    refine ⟨_, pss_one (ps_expr (pe_bm PySem.F.plainAttrs_list PySem.F.slot_list_append PySem.F.type_list_append mt_append (pe_fld (pv 0) rfl) (pa_cons (pv 1) pa_nil))), ?_⟩
    exact s_app hl (ev_fld (ev_var rfl) hb T.cH T.nH.2 (heF1 a l)) (ev_var rfl) (by omega) k
def nums (y : Sj14.Yard) : List Nat := (List.range (2 ^ y.crates.length - 1)).map (· + 1)
theorem nums_len (y : Sj14.Yard) (h : Sc.Ok y) : (nums y).length ≤ 255 := by
  unfold nums
  rw [List.length_map, List.length_range]
  have := Nat.pow_le_pow_right (show 0 < 2 by decide) h.few
  omega
def spMelts (B : Ads) : Sp := fun vs H Q _ => ∃ (b l : Addr) (y : Sj14.Yard), vs = [.ref b] ∧ HeapAt B H b l y ∧ Sc.Ok y ∧ RetL (natV (nums y)) H Q
theorem scMelts : FnScope ["self"] ["self"] (defScope sMelts) := ⟨rfl, rfl, rfl, by decide +kernel, rfl, by decide +kernel, by decide +kernel⟩
theorem ok_melts (T : Txt K mg B) (D : DefM K B.heap "melts" "Heap.melts" sMelts ["self"]) : CallM P w K mg base 1 B.heap "melts" ["self"] (spMelts B) := by
  obtain ⟨f, fd, hm, F, b⟩ := D.ex
  refine ⟨f, fd, hm, b, F.ok scMelts (fun vs H Q E h => ?_) fun cdv A outer s H vs Q E hr h => ?_⟩
  · obtain ⟨b, l, y, rfl, _⟩ := h
    rfl
  · obtain ⟨b, l, y, rfl, hH, hok, k⟩ := h
    refine ⟨_, pss_one (ps_ret (pe_listRg rfl rfl T.list (prg_2 rfl T.range pe_int (pe_op op_shl pe_int (pe_callB call_len_seq (by rfl) T.len PySem.boot_len (pa_cons (pe_fld (pv 0) rfl) pa_nil)))))), ?_⟩
    obtain ⟨dx, wA, ps, h1, h2, h3, h4, h5⟩ := hH.ex
    have hlen : ps.length = y.crates.length := by rw [← h5, List.length_map]
    have r : Ev (tCB (rLenS K) (tCons (tFld K (tVar 0) "crates") tNil)) (start ["self"] [.ref b]) H (.int ((y.crates.length : Nat) : Int)) := by
      refine ev_is (ev_len (ev_fld (ev_var rfl) h1 T.cH T.nH.2 (heF1 wA l)) (sq_of h3)) ?_
      rw [List.length_map, hlen]
    have h8 := hok.few
    have c : CPow (1 : Int) ((y.crates.length : Nat) : Int) := ⟨by omega, by omega, by decide⟩
    have r2 := ev_op (σ := start ["self"] [.ref b]) (H := H) (ta := tC (.int 1)) ev_c r (rv_I (g := fun i j => .int (i * 2 ^ j.toNat)) c)
    refine r2 H (Ex.refl H) _ fun H1 e1 => ⟨1, _, rfl, rfl, ?_, fun q hq => ?_⟩
    · have := Nat.pow_le_pow_right (show 0 < 2 by decide) h8
      have e : (1 : Int) * 2 ^ (((y.crates.length : Nat) : Int)).toNat = ((2 ^ y.crates.length : Nat) : Int) := by
        rw [Int.toNat_natCast, Int.one_mul, Int.natCast_pow]
        rfl
      rw [e]
      generalize 2 ^ y.crates.length = N at this ⊢
      exact RgOk.of_le (by omega) (by omega) (by omega) (by omega)
    · refine k q _ (fresh_back e1 hq) (e1.trans (Ex.new hq)) ?_
      rw [upd_same]
      have e : (1 : Int) * 2 ^ (((y.crates.length : Nat) : Int)).toNat = ((2 ^ y.crates.length : Nat) : Int) := by
        rw [Int.toNat_natCast, Int.one_mul, Int.natCast_pow]
        rfl
      rw [e]
      unfold rgV nums natV
      have e2 : (((2 ^ y.crates.length : Nat) : Int) - 1).toNat = 2 ^ y.crates.length - 1 := by omega
      rw [e2, List.map_map]
      refine congrArg (fun z => some (HO.lst z)) (List.map_congr_left fun i _ => ?_)
      show V.int (1 + (i : Int)) = V.int (((i + 1 : Nat)) : Int)
      exact congrArg V.int (by omega)

/-! ### wanted_melts -/
abbrev Me := Addr × Sc.ML
theorem MeltAt.mut {H : Hp} {a q : Addr} {m : Sc.ML} {xs ys : List V} (h : MeltAt B H a m) (hq : H q = some (.lst xs)) : MeltAt B (upd H q (.lst ys)) a m := by
  obtain ⟨dx, h⟩ := h
  exact ⟨dx, by rw [upd_ne (ne_of h hq (by intro z; cases z))]; exact h⟩
theorem take_more {α : Type} : ∀ {l : List α} {i : Nat} {x : α}, l[i]? = some x → l.take (i + 1) = l.take i ++ [x]
  | [], i, x, h => by simp at h
  | a :: l, 0, x, h => by
    have e : a = x := Option.some.inj h
    subst e
    rfl
  | a :: l, i + 1, x, h => by
    rw [List.take_succ_cons, List.take_succ_cons, take_more (l := l) (i := i) (x := x) h]
    rfl
theorem evp_melt_of {σ : L2.St} {H : Hp} {tt : TA} {b l : Addr} {y : Sj14.Yard} {n : Nat} (hH : HeapAt B H b l y) (hok : Sc.Ok y) (h : EvA tt σ H [.ref b, .int n]) :
    EvP (tCall (spMeltOf B) [] E0 tt) σ H (fun H1 v H2 => ∃ x, v = .ref x ∧ H1 x = none ∧ MeltAt B H2 x (Sc.mk y n)) := fun H1 e Q q =>
  h H1 e _ fun H2 e2 => ⟨b, l, y, n, rfl, hH.mono (e.trans e2), hok, fun x H3 nx e3 hx => q _ H3 (e2.trans e3) ⟨x, rfl, fresh_back e2 nx, hx⟩⟩
def spWanted (B : Ads) : Sp := fun vs H Q _ => ∃ (b l : Addr) (y : Sj14.Yard), vs = [.ref b] ∧ HeapAt B H b l y ∧ Sc.Ok y ∧
  ∀ q H2 (ms : List Me), H q = none → Ex H H2 → H2 q = some (.lst (ms.map rf)) → (∀ m ∈ ms, MeltAt B H2 m.1 m.2) → ms.map Prod.snd = Sc.wanted y → Q (.ref q) H2
theorem scWanted : FnScope ["heap", "found", "number", "melt"] ["heap"] (defScope sWantedMelts) := ⟨rfl, rfl, rfl, by decide +kernel, rfl, by decide +kernel, by decide +kernel⟩
theorem ok_wanted_melts (T : Txt K mg B) (D : DefG K mg "wanted_melts" sWantedMelts ["heap"]) (G1 : CallM P w K mg base 1 B.heap "melts" ["self"] (spMelts B)) (G2 : CallG P w K mg base 3 "melt_of" ["heap", "number"] (spMeltOf B))
    (G3 : CallG P w K mg base 2 "wrong_with" ["heap", "melt"] (spWrong B)) : CallG P w K mg base 4 "wanted_melts" ["heap"] (spWanted B) := by
  obtain ⟨f, fd, hg, F, b⟩ := D.ex
  obtain ⟨fm, fdm, hmm, bm, Fm⟩ := G1.ex
  refine ⟨f, fd, hg, F.kp, b, F.ok scWanted (fun vs H Q E h => ?_) fun cdv A outer s H vs Q E hr h => ?_⟩
  · obtain ⟨b, l, y, rfl, _⟩ := h
    rfl
  · obtain ⟨b, l, y, rfl, hH, hok, k⟩ := h
    have nd := scWanted.nd
    have hr1 : Room 1 _ := hr.mono (by decide)
    have hr2 : Room 2 _ := hr.mono (by decide)
    refine ⟨_, pss_cons (ps_set (i := 1) nd rfl (Or.inl rfl) (pe_lst pa_nil))
      (pss_cons (ps_for PassesOwn.never rfl (pi_list (pe_meth0 (pv 0) T.cH hmm Fm hr1 bm .nil pass0)) (pg_name (i := 2) nd rfl (Or.inl rfl))
        (pss_cons (ps_set (i := 3) nd rfl (Or.inl rfl) (pe_g G2 hr rfl (pa_cons (pv 0) (pa_cons (pv 2) pa_nil))))
        (pss_one (ps_if (pt_cmpR op_eq (pe_g G3 hr2 rfl (pa_cons (pv 0) (pa_cons (pv 3) pa_nil))) pe_int (nomark _))
          (pss_one (ps_expr (pe_bm PySem.F.plainAttrs_list PySem.F.slot_list_append PySem.F.type_list_append mt_append (pv 1) (pa_cons (pv 3) pa_nil)))) pss_nil))))
      (pss_one (ps_ret (pv 1)))), ?_⟩
    refine q_asgL (xs := []) (el_lst ea_nil (Nat.zero_le _)) fun q H1 nq e1 hq => ?_
    obtain ⟨dx, wA, ps, h1, _⟩ := hH.ex
    refine q_forNL (xs := natV (nums y)) (el_meth (ev_var rfl) (e1 _ _ h1) (heN0 wA l) ea_nil fun H2 e2 Q q E => ⟨b, l, y, rfl, hH.mono (e1.trans e2), hok, q⟩)
      (fun p i σ' H' => ∃ (v2 v3 : Option V) (ms : List Me), σ' = [some (.ref b), some (.ref q), v2, v3] ∧ Ex H H' ∧ H' p = some (.lst (natV (nums y))) ∧ p ≠ q ∧ H' q = some (.lst (ms.map rf)) ∧ (∀ m ∈ ms, MeltAt B H' m.1 m.2) ∧
        ms.map Prod.snd = (((nums y).take i).filter fun s => Sc.wrongOf y.wanted (Sc.mk y s) == 0).map (Sc.mk y))
      (fun p H2 np e2 hp => ⟨none, none, ([] : List Me), rfl, e1.trans e2, hp, (fun z => by rw [z, hq] at np; cases np), e2 _ _ hq, (fun m hm => by cases hm), (by rw [List.take_zero]; rfl)⟩)
      (fun p i σ' H' _ z => by obtain ⟨_, _, _, _, _, hp, _⟩ := z; exact sq_of hp) ?_ ?_
    · rintro p i x σ' H' hx ⟨v2, v3, ms, rfl, e2, hp, pq, hq2, hms, es⟩
      obtain ⟨n, hn, rfl⟩ : ∃ n, (nums y)[i]? = some n ∧ V.int ((n : Nat) : Int) = x := by
        rw [List.getElem?_map] at hx
        cases e : (nums y)[i]? with
        | none =>
          rw [e] at hx
          cases hx
        | some n =>
          rw [e] at hx
          exact ⟨n, rfl, Option.some.inj hx⟩
      have hi : i < 255 := Nat.lt_of_lt_of_le (List.getElem?_eq_some_iff.mp hn).1 (nums_len y hok)
      refine q_asgP (evp_melt_of (n := n) (hH.mono e2) hok (ea_cons (ev_var rfl) (ea_cons (ev_var rfl) ea_nil))) fun v H3 e3 ⟨x, ev, nx, hx⟩ => ?_
      subst ev
      have e23 := e2.trans e3
      refine s_when (b := decide (V.int (Sc.wrongOf y.wanted (Sc.mk y n) : Nat) = V.int 0)) (et_test (ev_op (ev_call (ea_cons (ev_var rfl) (ea_cons (ev_var rfl) ea_nil)) fun H4 e4 Q q E => ⟨b, l, x, y, Sc.mk y n, rfl, hH.mono (e23.trans e4), hx.mono e4, hok, q⟩) ev_c (rv_eq rfl))) (fun c H4 e4 => ?_) (fun c H4 e4 => ?_)
      · have c0 : Sc.wrongOf y.wanted (Sc.mk y n) = 0 := by
          have := V.int.inj (of_decide_eq_true c)
          omega
        have hq4 := e4 _ _ (e3 _ _ hq2)
        have lm : ms.length ≤ i := by
          have := congrArg List.length es
          rw [List.length_map, List.length_map] at this
          rw [this]
          refine Nat.le_trans (List.length_filter_le _ _) ?_
          rw [List.length_take]
          exact Nat.min_le_left _ _
        refine s_app hq4 (ev_var rfl) (ev_var rfl) (by rw [List.length_map]; omega) fun H5 e5 => ?_
        have hq5 := e5 _ _ hq4
        have e35 := (e3.trans e4).trans e5
        refine ⟨_, _, ms ++ [(x, Sc.mk y n)], rfl, (e2.trans e35).mut nq, ?_, pq, ?_, ?_, ?_⟩
        · rw [upd_ne pq]
          exact e35 _ _ hp
        · rw [upd_same, List.map_append]
          rfl
        · intro m hm
          rcases List.mem_append.mp hm with hm | hm
          · exact ((hms m hm).mono e35).mut hq5
          · rw [List.mem_singleton] at hm
            rw [hm]
            exact (hx.mono (e4.trans e5)).mut hq5
        · rw [List.map_append, es, take_more hn, List.filter_append, List.map_append, List.filter_cons, if_pos (by rw [c0]; rfl)]
          rfl
      · have c0 : ¬ Sc.wrongOf y.wanted (Sc.mk y n) = 0 := fun z => by
          rw [z] at c
          cases c
        refine ⟨_, _, ms, rfl, e23.trans e4, e4 _ _ (e3 _ _ hp), pq, e4 _ _ (e3 _ _ hq2), fun m hm => (hms m hm).mono (e3.trans e4), ?_⟩
        rw [es, take_more hn, List.filter_append, List.map_append, List.filter_cons, if_neg (by rw [beq_iff_eq]; exact c0)]
        show _ = _ ++ []
        rw [List.append_nil]
    · rintro p σ' H' ⟨v2, v3, ms, rfl, e2, hp, pq, hq2, hms, es⟩
      refine s_ret (ev_var rfl) fun H2 e3 => k q H2 ms nq (e2.trans e3) (e3 _ _ hq2) (fun m hm => (hms m hm).mono e3) ?_
      have e : (natV (nums y)).length = (nums y).length := List.length_map _
      rw [es, e, List.take_length]
      unfold Sc.wanted
      rw [Sc.melts_eq y hok.light]
      rfl
end
end Scw
/-! # The best of some melts -/
namespace Scw
open PySem PySem.Spec PyProof.Rows L2 Evl
section
variable {P : Program} {w : World} {K : PySem.W.Frag} {mg : Str → Option Value} {base : Heap} {B : Ads}
/-- a list of melts at l -/
def MeltsAt (K : PySem.W.Frag) (B : Ads) (H : Hp) (l : Addr) (ms : List Me) : Prop := SqL K H l (ms.map rf) ∧ ∀ m ∈ ms, MeltAt B H m.1 m.2
theorem MeltsAt.mono {H H' : Hp} {l : Addr} {ms : List Me} (e : Ex H H') (h : MeltsAt K B H l ms) : MeltsAt K B H' l ms := ⟨ex_l e h.1, fun p hp => (h.2 p hp).mono e⟩
theorem MeltsAt.sub {H H' : Hp} {l q : Addr} {ms : List Me} {f : Me → Bool} (e : Ex H H') (h : MeltsAt K B H l ms) (hq : H' q = some (.lst ((ms.filter f).map rf))) : MeltsAt K B H' q (ms.filter f) := ⟨sq_of hq, fun p hp => (h.2 p (List.mem_filter.mp hp).1).mono e⟩
/-- the list of a field of all of them -/
theorem el_fieldM {σ : L2.St} {H : Hp} {l : Addr} {ms : List Me} {j : Nat} {vs : List Nat} {tl te : TE} (f : Sc.ML → Nat) (hC : MeltsAt K B H l ms) (hz : ms.length ≤ 255) (h : Ev tl σ H (.ref l)) (hw : ∀ x, wipe ((wipe σ vs).set j (some x)) vs = wipe σ vs)
    (he : ∀ p ∈ ms, ∀ H1, Ex H H1 → Ev te ((wipe σ vs).set j (some (rf p))) H1 (.int (f p.2 : Nat))) : EvL (tLc (iList K tl) (gName j) tYes te vs) σ H (((ms.map fun p => ((f p.2 : Nat) : Int))).map V.int) := by
  have r := el_lcP (t := tYes) rf ms (fun _ => true) (fun p => V.int (f p.2 : Nat)) h hC.1 (by omega) hw (fun _ _ _ _ => et_yes) (fun p hp H2 e2 _ => he p hp H2 e2)
  rw [List.filter_eq_self.mpr (fun _ _ => rfl)] at r
  rw [List.map_map]
  exact r
theorem evp_min {σ : L2.St} {H : Hp} {tl : TE} {ms : List Me} {f : Sc.ML → Nat} (ne : ms ≠ []) (h : EvL tl σ H (((ms.map fun p => ((f p.2 : Nat) : Int))).map V.int)) :
    EvP (tCB (rMin K) (tCons tl tNil)) σ H (fun _ v _ => ∃ n : Nat, v = .int n ∧ (∃ m ∈ ms, f m.2 = n) ∧ ∀ m ∈ ms, n ≤ f m.2) := fun H1 e Q q => by
  refine h H1 e (fun x H2 => tNil σ H2 fun xs H3 => rMin K (x :: xs) H3 Q) fun a H2 _ e2 hD => ⟨a, _, rfl, sq_of hD, ?_, fun z hz hle => ?_⟩
  · rw [List.length_map]
    exact List.length_pos_iff.mpr ne
  · obtain ⟨m, hm, rfl⟩ := List.mem_map.mp hz
    refine q _ H2 e2 ⟨f m.2, rfl, ⟨m, hm, rfl⟩, fun m' hm' => ?_⟩
    have := hle _ (List.mem_map_of_mem (f := fun p : Me => ((f p.2 : Nat) : Int)) hm')
    omega
theorem evp_max {σ : L2.St} {H : Hp} {tl : TE} {ms : List Me} {f : Sc.ML → Nat} (ne : ms ≠ []) (h : EvL tl σ H (((ms.map fun p => ((f p.2 : Nat) : Int))).map V.int)) :
    EvP (tCB (rMax K) (tCons tl tNil)) σ H (fun _ v _ => ∃ n : Nat, v = .int n ∧ (∃ m ∈ ms, f m.2 = n) ∧ ∀ m ∈ ms, f m.2 ≤ n) := fun H1 e Q q => by
  refine h H1 e (fun x H2 => tNil σ H2 fun xs H3 => rMax K (x :: xs) H3 Q) fun a H2 _ e2 hD => ⟨a, _, rfl, sq_of hD, ?_, fun z hz hle => ?_⟩
  · rw [List.length_map]
    exact List.length_pos_iff.mpr ne
  · obtain ⟨m, hm, rfl⟩ := List.mem_map.mp hz
    refine q _ H2 e2 ⟨f m.2, rfl, ⟨m, hm, rfl⟩, fun m' hm' => ?_⟩
    have := hle _ (List.mem_map_of_mem (f := fun p : Me => ((f p.2 : Nat) : Int)) hm')
    omega
/-- those of them that pass a test -/
theorem el_pick {σ : L2.St} {H : Hp} {l : Addr} {ms : List Me} {j : Nat} {vs : List Nat} {tl : TE} {t : TT} (f : Sc.ML → Bool) (hC : MeltsAt K B H l ms) (hz : ms.length ≤ 255) (h : Ev tl σ H (.ref l)) (hw : ∀ x, wipe ((wipe σ vs).set j (some x)) vs = wipe σ vs)
    (hj : ∀ x, ((wipe σ vs).set j (some x))[j]? = some (some x)) (ht : ∀ p ∈ ms, ∀ H1, Ex H H1 → EvT t ((wipe σ vs).set j (some (rf p))) H1 (f p.2)) :
    EvL (tLc (iList K tl) (gName j) t (tVar j) vs) σ H ((ms.filter fun p => f p.2).map rf) :=
  el_lcP rf ms (fun p => f p.2) rf h hC.1 (by omega) hw ht fun p _ H1 _ _ => ev_var (hj (rf p))
theorem filter_snd (f : Sc.ML → Bool) (ms : List Me) : (ms.filter fun p => f p.2).map Prod.snd = (ms.map Prod.snd).filter f := by
  rw [List.filter_map]
  rfl
theorem int_eq (a b : Nat) : decide (V.int (a : Int) = V.int (b : Int)) = (a == b) := by
  by_cases c : a = b
  · rw [c]
    simp
  · have e : ¬ V.int (a : Int) = V.int (b : Int) := fun z => c (by have := V.int.inj z; omega)
    rw [decide_eq_false e]
    exact (beq_eq_false_iff_ne.mpr c).symm
theorem rv_eqI {H : Hp} (a b : Nat) : RV rEq (.int a) (.int b) H (.bl (a == b)) := by
  rw [← int_eq]
  exact rv_eq rfl

/-! ### cheapest_of -/
def spCheapest (K : PySem.W.Frag) (B : Ads) : Sp := fun vs H Q _ => ∃ (l : Addr) (ms : List Me), vs = [.ref l] ∧ MeltsAt K B H l ms ∧ ms ≠ [] ∧ ms.length ≤ 255 ∧
  ∀ q H2 best least most, H q = none → Ex H H2 → MeltsAt K B H2 q best → (∀ p ∈ best, p ∈ ms) → Sc.IsCheapest (ms.map Prod.snd) (best.map Prod.snd) least most → Q (.ref q) H2
theorem scCheapest : FnScope ["some", "least", "found", "most", "melt"] ["some"] (defScope sCheapestOf) := ⟨rfl, rfl, rfl, by decide +kernel, rfl, by decide +kernel, by decide +kernel⟩
theorem ok_cheapest_of (T : Txt K mg B) (D : DefG K mg "cheapest_of" sCheapestOf ["some"]) : CallG P w K mg base 1 "cheapest_of" ["some"] (spCheapest K B) := by
  obtain ⟨f, fd, hg, F, b⟩ := D.ex
  refine ⟨f, fd, hg, F.kp, b, F.ok scCheapest (fun vs H Q E h => ?_) fun cdv A outer s H vs Q E hr h => ?_⟩
  · obtain ⟨l, ms, rfl, _⟩ := h
    rfl
  · obtain ⟨l, ms, rfl, hM, ne, hz, k⟩ := h
    have nd := scCheapest.nd
    have blk : ∀ scope, blkC ["some", "least", "found", "most", "melt"] (defScope sCheapestOf) scope [("melt", 4)] = true → BlkOk ["some", "least", "found", "most", "melt"] (defScope sCheapestOf) scope [("melt", 4)] := fun _ h => blkOk_by h
    refine ⟨_, pss_cons (ps_set (i := 1) nd rfl (Or.inr rfl) (pe_callB (cr_min rfl) (by rfl) T.min (by decide +kernel) (pa_cons (pe_lc (own := [("melt", 4)]) (g := gName 4) (tt := tYes) rfl nd (pi_list (pv 0)) (blk _ (by decide +kernel))
        (fun _ _ _ _ _ => pg_name (i := 4) nd rfl (Or.inl rfl)) (fun _ _ _ _ _ => pts_nil) (fun _ _ _ _ _ => pe_fldK (K := K) rfl (pv 4) rfl)) pa_nil)))
      (pss_cons (ps_setLc (i := 2) (own := [("melt", 4)]) (g := gName 4) (tt := tTest (tOp rEq (tFld K (tVar 4) "cost") (tVar 1))) (te := tVar 4) rfl nd rfl rfl (sw_true rfl rfl rfl (by decide +kernel)) (pi_list (pv 0)) (blk _ (by decide +kernel))
        (fun _ _ _ _ _ => pg_name (i := 4) nd rfl (Or.inl rfl)) (fun _ _ _ _ _ => pts_one (pt_cmpR op_eq (pe_fldK (K := K) rfl (pv 4) rfl) (pv 1) (nomark _))) (fun _ _ _ _ _ => pv 4))
      (pss_cons (ps_set (i := 3) nd rfl (Or.inr rfl) (pe_callB (cr_max rfl) (by rfl) T.max (by decide +kernel) (pa_cons (pe_lc (own := [("melt", 4)]) (g := gName 4) (tt := tYes) rfl nd (pi_list (pv 2)) (blk _ (by decide +kernel))
        (fun _ _ _ _ _ => pg_name (i := 4) nd rfl (Or.inl rfl)) (fun _ _ _ _ _ => pts_nil) (fun _ _ _ _ _ => pe_fldK (K := K) rfl (pv 4) rfl)) pa_nil)))
      (pss_one (ps_ret (pe_lc (own := [("melt", 4)]) (g := gName 4) (tt := tTest (tOp rEq (tFld K (tVar 4) "heavy") (tVar 3))) (te := tVar 4) rfl nd (pi_list (pv 2)) (blk _ (by decide +kernel))
        (fun _ _ _ _ _ => pg_name (i := 4) nd rfl (Or.inl rfl)) (fun _ _ _ _ _ => pts_one (pt_cmpR op_eq (pe_fldK (K := K) rfl (pv 4) rfl) (pv 3) (nomark _))) (fun _ _ _ _ _ => pv 4)))))), ?_⟩
    refine q_asgP (evp_min ne (el_fieldM (fun m => m.cost) hM hz (ev_var rfl) (fun _ => rfl) fun p hp H1 e1 => ev_me5 T (ev_var rfl) ((hM.2 p hp).mono e1))) fun v H1 e1 ⟨least, ev, ⟨m0, hm0, l1⟩, l2⟩ => ?_
    subst ev
    refine q_asgL (el_pick (fun m => m.cost == least) (hM.mono e1) hz (ev_var rfl) (fun _ => rfl) (fun _ => rfl) fun p hp H2 e2 => et_test (ev_op (ev_me5 T (ev_var rfl) ((hM.2 p hp).mono (e1.trans e2))) (ev_var rfl) (rv_eqI _ _))) fun q H2 nq e2 hq => ?_
    have e12 := e1.trans e2
    have hF := hM.sub e12 hq
    have zF : (ms.filter fun p => p.2.cost == least).length ≤ 255 := Nat.le_trans (List.length_filter_le _ _) hz
    have m0F : m0 ∈ ms.filter fun p => p.2.cost == least := List.mem_filter.mpr ⟨hm0, beq_iff_eq.mpr l1⟩
    refine q_asgP (evp_max (f := fun m => m.heavy) (fun z => by rw [z] at m0F; cases m0F) (el_fieldM (fun m => m.heavy) hF zF (ev_var rfl) (fun _ => rfl) fun p hp H3 e3 => ev_me2 T (ev_var rfl) ((hF.2 p hp).mono e3))) fun v H3 e3 ⟨most, ev, ⟨m1, hm1, l3⟩, l4⟩ => ?_
    subst ev
    refine s_retL (el_pick (fun m => m.heavy == most) (hF.mono e3) zF (ev_var rfl) (fun _ => rfl) (fun _ => rfl) fun p hp H4 e4 => et_test (ev_op (ev_me2 T (ev_var rfl) ((hF.2 p hp).mono (e3.trans e4))) (ev_var rfl) (rv_eqI _ _))) fun r H4 nr e4 hr4 => ?_
    refine k r H4 ((ms.filter fun p => p.2.cost == least).filter fun p => p.2.heavy == most) least most (fresh_back (e12.trans e3) nr) ((e12.trans e3).trans e4) (hF.sub (e3.trans e4) hr4) (fun p hp => (List.mem_filter.mp (List.mem_filter.mp hp).1).1) ?_
    refine ⟨⟨m0.2, List.mem_map_of_mem hm0, l1⟩, fun m hm => ?_, ⟨m1.2, List.mem_map_of_mem (List.mem_filter.mp hm1).1, beq_iff_eq.mp (List.mem_filter.mp hm1).2, l3⟩, fun m hm c => ?_, ?_⟩
    · obtain ⟨p, hp, rfl⟩ := List.mem_map.mp hm
      exact l2 p hp
    · obtain ⟨p, hp, rfl⟩ := List.mem_map.mp hm
      exact l4 p (List.mem_filter.mpr ⟨hp, beq_iff_eq.mpr c⟩)
    · rw [filter_snd (fun m => m.heavy == most), filter_snd (fun m => m.cost == least)]

/-! ### fullest_of -/
def spFullest (K : PySem.W.Frag) (B : Ads) : Sp := fun vs H Q _ => ∃ (l : Addr) (ms : List Me), vs = [.ref l] ∧ MeltsAt K B H l ms ∧ ms ≠ [] ∧ ms.length ≤ 255 ∧
  ∀ q H2 best most, H q = none → Ex H H2 → MeltsAt K B H2 q best → (∀ p ∈ best, p ∈ ms) → Sc.IsFullest (ms.map Prod.snd) (best.map Prod.snd) most → Q (.ref q) H2
theorem scFullest : FnScope ["some", "most", "melt"] ["some"] (defScope sFullestOf) := ⟨rfl, rfl, rfl, by decide +kernel, rfl, by decide +kernel, by decide +kernel⟩
theorem ok_fullest_of (T : Txt K mg B) (D : DefG K mg "fullest_of" sFullestOf ["some"]) : CallG P w K mg base 1 "fullest_of" ["some"] (spFullest K B) := by
  obtain ⟨f, fd, hg, F, b⟩ := D.ex
  refine ⟨f, fd, hg, F.kp, b, F.ok scFullest (fun vs H Q E h => ?_) fun cdv A outer s H vs Q E hr h => ?_⟩
  · obtain ⟨l, ms, rfl, _⟩ := h
    rfl
  · obtain ⟨l, ms, rfl, hM, ne, hz, k⟩ := h
    have nd := scFullest.nd
    refine ⟨_, pss_cons (ps_set (i := 1) nd rfl (Or.inr rfl) (pe_callB (cr_max rfl) (by rfl) T.max (by decide +kernel) (pa_cons (pe_lc (own := [("melt", 2)]) (g := gName 2) (tt := tYes) rfl nd (pi_list (pv 0)) (blkOk_by (N := ["some", "most", "melt"]) (sc := defScope sFullestOf) (by decide +kernel))
        (fun _ _ _ _ _ => pg_name (i := 2) nd rfl (Or.inl rfl)) (fun _ _ _ _ _ => pts_nil) (fun _ _ _ _ _ => pe_fldK (K := K) rfl (pv 2) rfl)) pa_nil)))
      (pss_one (ps_ret (pe_lc (own := [("melt", 2)]) (g := gName 2) (tt := tTest (tOp rEq (tFld K (tVar 2) "many") (tVar 1))) (te := tVar 2) rfl nd (pi_list (pv 0)) (blkOk_by (N := ["some", "most", "melt"]) (sc := defScope sFullestOf) (by decide +kernel))
        (fun _ _ _ _ _ => pg_name (i := 2) nd rfl (Or.inl rfl)) (fun _ _ _ _ _ => pts_one (pt_cmpR op_eq (pe_fldK (K := K) rfl (pv 2) rfl) (pv 1) (nomark _))) (fun _ _ _ _ _ => pv 2)))), ?_⟩
    refine q_asgP (evp_max ne (el_fieldM (fun m => m.many) hM hz (ev_var rfl) (fun _ => rfl) fun p hp H1 e1 => ev_me1 T (ev_var rfl) ((hM.2 p hp).mono e1))) fun v H1 e1 ⟨most, ev, ⟨m0, hm0, l1⟩, l2⟩ => ?_
    subst ev
    refine s_retL (el_pick (fun m => m.many == most) (hM.mono e1) hz (ev_var rfl) (fun _ => rfl) (fun _ => rfl) fun p hp H2 e2 => et_test (ev_op (ev_me1 T (ev_var rfl) ((hM.2 p hp).mono (e1.trans e2))) (ev_var rfl) (rv_eqI _ _))) fun q H2 nq e2 hq => ?_
    refine k q H2 (ms.filter fun p => p.2.many == most) most (fresh_back e1 nq) (e1.trans e2) (hM.sub (e1.trans e2) hq) (fun p hp => (List.mem_filter.mp hp).1) ?_
    refine ⟨⟨m0.2, List.mem_map_of_mem hm0, l1⟩, fun m hm => ?_, filter_snd (fun m => m.many == most) ms⟩
    obtain ⟨p, hp, rfl⟩ := List.mem_map.mp hm
    exact l2 p hp
end
end Scw
/-! # The nearest of some melts -/
namespace Scw
open PySem PySem.Spec PyProof.Rows L2 Evl
section
variable {P : Program} {w : World} {K : PySem.W.Frag} {mg : Str → Option Value} {base : Heap} {B : Ads}
theorem pair_eqv (x y : Nat × Nat) : PyData.eqv (.tuple [.int (x.1 : Nat), .int (x.2 : Nat)]) (.tuple [.int (y.1 : Nat), .int (y.2 : Nat)]) = decide (x = y) := by
  have e : PyData.eqv (.tuple [.int (x.1 : Nat), .int (x.2 : Nat)]) (.tuple [.int (y.1 : Nat), .int (y.2 : Nat)]) = ((((x.1 : Nat) : Int) == ((y.1 : Nat) : Int)) && ((((x.2 : Nat) : Int) == ((y.2 : Nat) : Int)) && true)) := by
    simp only [PyData.eqv, PyData.eqvAll]
  rw [e, Bool.and_true]
  by_cases c : x = y
  · rw [c, decide_eq_true rfl]
    simp
  · rw [decide_eq_false c, Bool.and_eq_false_iff, beq_eq_false_iff_ne, beq_eq_false_iff_ne]
    by_cases c1 : x.1 = y.1
    · refine .inr fun z => c (Prod.ext c1 (by omega))
    · exact .inl fun z => c1 (by omega)
theorem pair_shaped (a b : Int) : SeqAt.shaped (.tuple [.int a, .int b]) = true := by
  simp [SeqAt.shaped, PyData.canLay0, PyData.canLayAll0, PyData.depth, PyData.depthAll]
theorem dp_pair {H : Hp} {p : Addr} {x : Nat × Nat} (h : H p = some (.tup (frV x))) : Dp K H (.ref p) (.tuple [.int (x.1 : Nat), .int (x.2 : Nat)]) := .tup (st_of h) (.cons (.int _) (.cons (.int _) .nil))
/-- a new pair == a pair -/
theorem et_eqU {σ : L2.St} {H : Hp} {ta tb : TE} {x y : Nat × Nat} {q : Addr} (ha : EvU ta σ H (frV x)) (hb : ∀ H1, Ex H H1 → Ev tb σ H1 (.ref q)) (hq : H q = some (.tup (frV y))) : EvT (tTest (tOp (rEqD K) ta tb)) σ H (decide (x = y)) := fun H1 e Q k =>
  ha H1 e _ fun p H2 _ e2 hp => hb H2 (e.trans e2) H2 (Ex.refl H2) _ fun H3 e3 => ⟨_, _, dp_pair (e3 _ _ hp), dp_pair (e3 _ _ (e2 _ _ (e _ _ hq))), pair_shaped _ _, pair_shaped _ _, decide (x = y), by rw [pair_eqv], k H3 (e2.trans e3)⟩
/-- is_less(a new pair, a pair) -/
theorem et_lessU {σ : L2.St} {H : Hp} {ta tb : TE} {x y : Nat × Nat} {q : Addr} {E : XK} (ha : EvU ta σ H (frV x)) (hb : ∀ H1, Ex H H1 → Ev tb σ H1 (.ref q)) (hq : H q = some (.tup (frV y))) (hx : x.1 < 4294967296) (hy : y.1 < 4294967296) :
    EvT (tB (tCall (spIsLess K) [] E (tCons ta (tCons tb tNil)))) σ H (Sc.fless x y) := fun H1 e Q k =>
  ha H1 e _ fun p H2 _ e2 hp => hb H2 (e.trans e2) H2 (Ex.refl H2) _ fun H3 e3 => ⟨p, q, x, y, rfl, st_of (e3 _ _ hp), st_of (e3 _ _ (e2 _ _ (e _ _ hq))), hx, hy, fun H4 e4 => ⟨_, rfl, k H4 ((e2.trans e3).trans e4)⟩⟩
/-- melt.away(thousandths) -/
theorem eu_away {σ : L2.St} {H : Hp} {ta : TE} {tt : TA} {a : Addr} {m : Sc.ML} {k : Nat} (h : Ev ta σ H (.ref a)) (hM : MeltAt B H a m) (hs : Small m) (hk : k ≤ 1000) (ht : EvA tt σ H [.int k]) : EvU (tMeth B.melt "away" (spAway B) [] E0 ta tt) σ H (frV (Sc.frac k m)) := by
  obtain ⟨dx, hM⟩ := hM
  exact eu_meth h hM (meN1 m) ht fun H1 e Q q E => ⟨a, m, k, rfl, ⟨dx, e _ _ hM⟩, hs, hk, q⟩
theorem frac_small {m : Sc.ML} {k : Nat} (hs : Small m) (hk : k ≤ 1000) : (Sc.frac k m).1 < 4294967296 := by
  have h1 : k * m.heavy ≤ 1000 * 1600 := Nat.mul_le_mul hk hs.h1
  have h2 := hs.c1
  have h3 : Sc.away k m ≤ 1600000 := by
    unfold Sc.away Sj14.apart
    omega
  exact Nat.lt_of_le_of_lt (Nat.le_trans (Nat.div_le_self _ _) h3) (by decide)
def spNearest (K : PySem.W.Frag) (B : Ads) : Sp := fun vs H Q _ => ∃ (l : Addr) (ms : List Me) (t : Nat), vs = [.ref l, .int t] ∧ MeltsAt K B H l ms ∧ ms ≠ [] ∧ ms.length ≤ 255 ∧ (∀ m ∈ ms, Small m.2) ∧ t ≤ 1000 ∧
  ∀ q H2 best fr least, H q = none → Ex H H2 → MeltsAt K B H2 q best → (∀ p ∈ best, p ∈ ms) → Sc.IsNearest t (ms.map Prod.snd) (best.map Prod.snd) fr least → Q (.ref q) H2
theorem scNearest : FnScope ["some", "thousandths", "best", "melt", "found", "least"] ["some", "thousandths"] (defScope sNearestOf) := ⟨rfl, rfl, rfl, by decide +kernel, rfl, by decide +kernel, by decide +kernel⟩
theorem ok_nearest_of (T : Txt K mg B) (D : DefG K mg "nearest_of" sNearestOf ["some", "thousandths"]) (G1 : CallM P w K mg base 3 B.melt "away" ["self", "thousandths"] (spAway B)) (G2 : CallG P w K mg base 1 "is_less" ["one", "other"] (spIsLess K)) :
    CallG P w K mg base 4 "nearest_of" ["some", "thousandths"] (spNearest K B) := by
  obtain ⟨f, fd, hg, F, b⟩ := D.ex
  refine ⟨f, fd, hg, F.kp, b, F.ok scNearest (fun vs H Q E h => ?_) fun cdv A outer s H vs Q E hr h => ?_⟩
  · obtain ⟨l, ms, t, rfl, _⟩ := h
    rfl
  · obtain ⟨l, ms, t, rfl, hM, ne, hz, hS, ht, k⟩ := h
    have nd := scNearest.nd
    have hr1 : Room 1 _ := hr.mono (by decide)
    have blk : ∀ scope, blkC ["some", "thousandths", "best", "melt", "found", "least"] (defScope sNearestOf) scope [("melt", 3)] = true → BlkOk ["some", "thousandths", "best", "melt", "found", "least"] (defScope sNearestOf) scope [("melt", 3)] := fun _ h => blkOk_by h
    refine ⟨_, pss_cons (ps_set (i := 2) nd rfl (Or.inr rfl) (pe_m G1 hr T.cM (pe_ix ix_list (pv 0) pe_int (fun _ _ => rfl)) (pa_cons (pv 1) pa_nil)))
      (pss_cons (ps_for PassesOwn.never rfl (pi_list (pv 0)) (pg_name (i := 3) nd rfl (Or.inl rfl))
        (pss_one (ps_if (pt_val (pe_g G2 hr1 rfl (pa_cons (pe_m G1 hr T.cM (pv 3) (pa_cons (pv 1) pa_nil)) (pa_cons (pv 2) pa_nil))))
          (pss_one (ps_set (i := 2) nd rfl (Or.inr rfl) (pe_m G1 hr T.cM (pv 3) (pa_cons (pv 1) pa_nil)))) pss_nil)))
      (pss_cons (ps_setLc (i := 4) (own := [("melt", 3)]) (g := gName 3) (tt := tTest (tOp (rEqD K) (tMeth B.melt "away" (spAway B) [] E0 (tVar 3) (tCons (tVar 1) tNil)) (tVar 2))) (te := tVar 3) rfl nd rfl rfl (sw_true rfl rfl rfl (by decide +kernel)) (pi_list (pv 0)) (blk _ (by decide +kernel))
        (fun _ _ _ _ _ => pg_name (i := 3) nd rfl (Or.inl rfl)) (fun _ _ _ _ _ => pts_one (pt_cmpR (op_eqDK (K := K) rfl hr.units) (pe_m G1 hr T.cM (pv 3) (pa_cons (pv 1) pa_nil)) (pv 2) (nomark _))) (fun _ _ _ _ _ => pv 3))
      (pss_cons (ps_set (i := 5) nd rfl (Or.inr rfl) (pe_callB (cr_min rfl) (by rfl) T.min (by decide +kernel) (pa_cons (pe_lc (own := [("melt", 3)]) (g := gName 3) (tt := tYes) rfl nd (pi_list (pv 4)) (blk _ (by decide +kernel))
        (fun _ _ _ _ _ => pg_name (i := 3) nd rfl (Or.inl rfl)) (fun _ _ _ _ _ => pts_nil) (fun _ _ _ _ _ => pe_fldK (K := K) rfl (pv 3) rfl)) pa_nil)))
      (pss_one (ps_ret (pe_lc (own := [("melt", 3)]) (g := gName 3) (tt := tTest (tOp rEq (tFld K (tVar 3) "cost") (tVar 5))) (te := tVar 3) rfl nd (pi_list (pv 4)) (blk _ (by decide +kernel))
        (fun _ _ _ _ _ => pg_name (i := 3) nd rfl (Or.inl rfl)) (fun _ _ _ _ _ => pts_one (pt_cmpR op_eq (pe_fldK (K := K) rfl (pv 3) rfl) (pv 5) (nomark _))) (fun _ _ _ _ _ => pv 3))))))), ?_⟩
    obtain ⟨m0, hm0⟩ : ∃ m0, ms[0]? = some m0 := by
      cases ms with
      | nil => exact absurd rfl ne
      | cons m r => exact ⟨m, rfl⟩
    have mem0 : m0 ∈ ms := List.mem_of_getElem? hm0
    have at0 : atI (ms.map (rf (α := Sc.ML))) 0 = some (rf m0) := atI_nat (j := 0) (by rw [List.getElem?_map, hm0]; rfl)
    refine q_asgU (eu_away (ev_op (ev_var rfl) ev_c (rv_ixL hM.1 at0)) (hM.2 m0 mem0) (hS m0 mem0) ht (ea_cons (ev_var rfl) ea_nil)) fun q H1 nq e1 hq => ?_
    refine q_forLn (a := l) (xs := ms.map rf) (ev_var rfl) (ex_l e1 hM.1)
      (fun i σ' H' => ∃ (q : Addr) (v3 : Option V) (fr : Nat × Nat), σ' = [some (.ref l), some (.int t), some (.ref q), v3, none, none] ∧ Ex H H' ∧ H' q = some (.tup (frV fr)) ∧ (∃ m ∈ ms, Sc.frac t m.2 = fr) ∧
        ∀ m ∈ (ms.map Prod.snd).take i, Sc.fless (Sc.frac t m) fr = false)
      (fun H2 e2 => ⟨q, none, Sc.frac t m0.2, rfl, e1.trans e2, e2 _ _ hq, ⟨m0, mem0, rfl⟩, fun m hm => by rw [List.take_zero] at hm; cases hm⟩)
      (fun i σ' H' _ ⟨_, _, _, _, e2, _⟩ => ex_l e2 hM.1) ?_ ?_
    · rintro i x σ' H' hx ⟨q, v3, fr, rfl, e2, hq, ⟨mb, hmb, efr⟩, hle⟩
      obtain ⟨m, hm, rfl⟩ : ∃ m, ms[i]? = some m ∧ rf m = x := by
        rw [List.getElem?_map] at hx
        cases e : ms[i]? with
        | none =>
          rw [e] at hx
          cases hx
        | some n =>
          rw [e] at hx
          exact ⟨n, rfl, Option.some.inj hx⟩
      have mem := List.mem_of_getElem? hm
      have hm2 : (ms.map Prod.snd)[i]? = some m.2 := by
        rw [List.getElem?_map, hm]
        rfl
      refine s_when (et_lessU (eu_away (ev_var rfl) ((hM.2 m mem).mono e2) (hS m mem) ht (ea_cons (ev_var rfl) ea_nil)) (fun _ _ => ev_var rfl) hq (frac_small (hS m mem) ht) (by rw [← efr]; exact frac_small (hS mb hmb) ht)) (fun c H3 e3 => ?_) (fun c H3 e3 => ?_)
      · refine s_asgU (eu_away (ev_var rfl) ((hM.2 m mem).mono (e2.trans e3)) (hS m mem) ht (ea_cons (ev_var rfl) ea_nil)) fun q2 H4 nq2 e4 hq2 => ?_
        refine ⟨q2, _, Sc.frac t m.2, rfl, (e2.trans e3).trans e4, hq2, ⟨m, mem, rfl⟩, ?_⟩
        rw [take_more hm2]
        exact Sc.near_more (by rw [← efr]; exact Sc.frac_pos (hS mb hmb).h0) hle c
      · refine ⟨q, _, fr, rfl, e2.trans e3, e3 _ _ hq, ⟨mb, hmb, efr⟩, fun m' hm' => ?_⟩
        rw [take_more hm2] at hm'
        rcases List.mem_append.mp hm' with hm' | hm'
        · exact hle m' hm'
        · rw [List.mem_singleton] at hm'
          rw [hm']
          exact c
    · rintro σ' H' ⟨q, v3, fr, rfl, e2, hq, ⟨mb, hmb, efr⟩, hle⟩
      have hle : ∀ m ∈ ms.map Prod.snd, Sc.fless (Sc.frac t m) fr = false := by
        have e : (ms.map (rf (α := Sc.ML))).length = (ms.map Prod.snd).length := by rw [List.length_map, List.length_map]
        rw [e, List.take_length] at hle
        exact hle
      have hM2 := hM.mono e2
      refine q_asgL (el_pick (fun m => decide (Sc.frac t m = fr)) hM2 hz (ev_var rfl) (fun _ => rfl) (fun _ => rfl) fun p hp H3 e3 => et_eqU (eu_away (ev_var rfl) ((hM2.2 p hp).mono e3) (hS p hp) ht (ea_cons (ev_var rfl) ea_nil)) (fun _ _ => ev_var rfl) (e3 _ _ hq)) fun g H3 ng e3 hg3 => ?_
      have hF := hM2.sub e3 hg3
      have zF : (ms.filter fun p => decide (Sc.frac t p.2 = fr)).length ≤ 255 := Nat.le_trans (List.length_filter_le _ _) hz
      have mF : mb ∈ ms.filter fun p => decide (Sc.frac t p.2 = fr) := List.mem_filter.mpr ⟨hmb, decide_eq_true efr⟩
      refine q_asgP (evp_min (f := fun m => m.cost) (fun z => by rw [z] at mF; cases mF) (el_fieldM (fun m => m.cost) hF zF (ev_var rfl) (fun _ => rfl) fun p hp H4 e4 => ev_me5 T (ev_var rfl) ((hF.2 p hp).mono e4))) fun v H4 e4 ⟨least, ev, ⟨m1, hm1, l3⟩, l4⟩ => ?_
      subst ev
      refine s_retL (el_pick (fun m => m.cost == least) (hF.mono e4) zF (ev_var rfl) (fun _ => rfl) (fun _ => rfl) fun p hp H5 e5 => et_test (ev_op (ev_me5 T (ev_var rfl) ((hF.2 p hp).mono (e4.trans e5))) (ev_var rfl) (rv_eqI _ _))) fun r H5 nr e5 hr5 => ?_
      refine k r H5 ((ms.filter fun p => decide (Sc.frac t p.2 = fr)).filter fun p => p.2.cost == least) fr least (fresh_back ((e2.trans e3).trans e4) nr) (((e2.trans e3).trans e4).trans e5) (hF.sub (e4.trans e5) hr5) (fun p hp => (List.mem_filter.mp (List.mem_filter.mp hp).1).1) ?_
      refine ⟨hle, ⟨m1.2, List.mem_map_of_mem (List.mem_filter.mp hm1).1, of_decide_eq_true (List.mem_filter.mp hm1).2, l3⟩, fun m hm c => ?_, ?_⟩
      · obtain ⟨p, hp, rfl⟩ := List.mem_map.mp hm
        exact l4 p (List.mem_filter.mpr ⟨hp, decide_eq_true c⟩)
      · rw [filter_snd (fun m => m.cost == least), filter_snd (fun m => decide (Sc.frac t m = fr))]
end
end Scw
/-! # The yard: its holder, begins, crate -/
namespace Scw
open PySem PySem.Spec PyProof.Rows L2 Evl
section
variable {P : Program} {w : World} {K : PySem.W.Frag} {mg : Str → Option Value} {base : Heap} {B : Ads}
/-- the holder at a has the yard y; what H0 knows stands, and neither the holder nor the list of crates is of that -/
structure Own (B : Ads) (H0 H : Hp) (a : Addr) (y : Sj14.Yard) : Prop where
  ext : Ex H0 H
  na : H0 a = none
  ex : ∃ dx b l, H a = some (.ins B.holder dx (holderF b)) ∧ H0 l = none ∧ HeapAt B H b l y
theorem Own.mono {H0 H H' : Hp} {a : Addr} {y : Sj14.Yard} (h : Own B H0 H a y) (e : Ex H H') : Own B H0 H' a y := by
  obtain ⟨dx, b, l, h1, h2, h3⟩ := h.ex
  exact ⟨h.ext.trans e, h.na, dx, b, l, e _ _ h1, h2, h3.mono e⟩
abbrev intV (l : List Int) : List V := l.map V.int
/-- an answer, and the yard behind it -/
def RetA (B : Ads) (H0 H : Hp) (a : Addr) (r : Sj14.Yard × Sj14.Ans) (Q : VK) : Prop := ∀ q H2, H q = none → Own B H0 H2 a r.1 → H2 q = some (.lst (intV (r.2.v :: r.2.l))) → Q (.ref q) H2

/-! ### new yards -/
/-- a pair of numbers, old or new -/
def EvR (te : TE) (σ : L2.St) (H : Hp) (xs : List V) : Prop := ∀ H1, Ex H H1 → ∀ Q : VK, (∀ p H2, Ex H1 H2 → H2 p = some (.tup xs) → Q (.ref p) H2) → te σ H1 Q
theorem EvR.new {te : TE} {σ : L2.St} {H : Hp} {xs : List V} (h : EvU te σ H xs) : EvR te σ H xs := fun H1 e Q q => h H1 e Q fun p H2 _ e2 hp => q p H2 e2 hp
theorem EvR.old {te : TE} {σ : L2.St} {H : Hp} {xs : List V} {p : Addr} (h : Ev te σ H (.ref p)) (hp : H p = some (.tup xs)) : EvR te σ H xs := fun H1 e Q q => h H1 e Q fun H2 e2 => q p H2 e2 (e2 _ _ (e _ _ hp))
theorem ex_made {H : Hp} {x dx : Addr} {o u : HO} (nx : H x = none) (nd : H dx = none) : Ex H (upd (upd H dx u) x o) := fun c z hc => by
  rw [upd_ne (ne_of_none hc nx), upd_ne (ne_of_none hc nd)]
  exact hc
/-- a yard as it is made stands when an instance that was there before is changed -/
def NewAt (B : Ads) (q : Sj14.Wanted) (H1 : Hp) (v : V) (H2 : Hp) : Prop := ∃ b l, v = .ref b ∧ H1 b = none ∧ H1 l = none ∧ HeapAt B H2 b l ⟨q, []⟩ ∧ ∀ H3, Ex H2 H3 → ∀ a C dx fs o, H1 a = some (.ins C dx fs) → HeapAt B (upd H3 a o) b l ⟨q, []⟩
theorem evp_yard {σ : L2.St} {H : Hp} {ta tb tc : TE} {q : Sj14.Wanted} (ha : EvR ta σ H [.int q.light, .int q.heavy]) (hb : EvR tb σ H [.int q.copperLow, .int q.copperHigh]) (hc : EvR tc σ H [.int q.zincLow, .int q.zincHigh]) :
    EvP (tMake B.heap (spHeapInit B) [] E0 (tCons (tMake B.wish (spWishInit B) [] E0 (tCons ta (tCons tb (tCons tc tNil)))) tNil)) σ H (NewAt B q) := fun H1 e Q k =>
  ha H1 e _ fun p1 H2 e2 h1 => hb H2 (e.trans e2) _ fun p2 H3 e3 h2 => hc H3 ((e.trans e2).trans e3) _ fun p3 H4 e4 h3 => fun x dx nx nd _ =>
    ⟨x, dx, H4, (p1, p2, p3), rfl, trivial, ex_made nx nd, nx, upd_same, fun H5 e5 h5 => ⟨rfl, fun z dz nz ndz _ => ⟨z, dz, x, H5, rfl, ex_made nz ndz, nz, upd_same, fun H6 l e6 nl h6 hl => ⟨rfl, by
      have f4 := (e2.trans e3).trans e4
      have f := f4.trans e5
      have g1 := e6 _ _ (e5 _ _ (e4 _ _ (e3 _ _ h1)))
      have g2 := e6 _ _ (e5 _ _ (e4 _ _ h2))
      have g3 := e6 _ _ (e5 _ _ h3)
      have gx := e6 _ _ h5
      refine k (.ref z) H6 (f.trans e6) ⟨z, l, rfl, fresh_back f nz, fresh_back f nl, ⟨dz, x, [], h6, ⟨dx, p1, p2, p3, gx, g1, g2, g3⟩, hl, (fun p hp => by cases hp), rfl⟩, fun H7 e7 a C da fs o oa => ?_⟩
      have ga := e7 _ _ ((f.trans e6) _ _ oa)
      have n1 : ∀ {c : Addr} {u : List V}, H7 c = some (.tup u) → c ≠ a := fun hc => ne_of hc ga (by intro z; cases z)
      have n2 : ∀ {c : Addr}, H1 c = none → c ≠ a := fun hc z => by rw [z, oa] at hc; cases hc
      refine ⟨dz, x, [], ?_, ⟨dx, p1, p2, p3, ?_, ?_, ?_, ?_⟩, ?_, (fun p hp => by cases hp), rfl⟩
      · rw [upd_ne (n2 (fresh_back f nz))]
        exact e7 _ _ h6
      · rw [upd_ne (n2 (fresh_back f4 nx))]
        exact e7 _ _ gx
      · rw [upd_ne (n1 (e7 _ _ g1))]
        exact e7 _ _ g1
      · rw [upd_ne (n1 (e7 _ _ g2))]
        exact e7 _ _ g2
      · rw [upd_ne (n1 (e7 _ _ g3))]
        exact e7 _ _ g3
      · rw [upd_ne (n2 (fresh_back f nl))]
        exact e7 _ _ hl⟩⟩⟩⟩

/-! ### Holder -/
def spHolderInit (B : Ads) : Sp := fun vs H Q _ => ∃ (p dx : Addr) (H0 : Hp), vs = [.ref p] ∧ Ex H0 H ∧ H0 p = none ∧ H p = some (.ins B.holder dx []) ∧ ∀ H', Own B H0 H' p Sj14.init → Q .non H'
theorem scHolderInit : FnScope ["self"] ["self"] (defScope sHolderInit) := ⟨rfl, rfl, rfl, by decide +kernel, rfl, by decide +kernel, by decide +kernel⟩
theorem ok_HolderInit (T : Txt K mg B) (D : DefC K mg B.holder "Holder" "Holder.__init__" sHolderInit ["self"]) (G1 : CallC P w K mg base 1 B.heap "Heap" ["self", "wish"] (spHeapInit B))
    (G2 : CallC P w K mg base 1 B.wish "Wish" ["self", "heavy", "copper", "zinc"] (spWishInit B)) : CallC P w K mg base 3 B.holder "Holder" ["self"] (spHolderInit B) := by
  obtain ⟨f, fd, hg, M, F, b⟩ := D.ex
  obtain ⟨f1, fd1, hg1, M1, b1, F1⟩ := G1.ex
  obtain ⟨f2, fd2, hg2, M2, b2, F2⟩ := G2.ex
  obtain ⟨t1, g1⟩ := T.mostHeavy
  obtain ⟨t2, g2⟩ := T.thousand
  refine ⟨f, fd, hg, M, b, F.ok scHolderInit (fun vs H Q E h => ?_) fun cdv A outer s H vs Q E hr h => ?_⟩
  · obtain ⟨p, dx, H0, rfl, _⟩ := h
    rfl
  · obtain ⟨p, dx, H0, rfl, e0, np, hp, k⟩ := h
    refine ⟨_, pss_one (ps_fld (pv 0) (pe_make M1 F1 hr rfl hg1 b1 .nil pass0 (pa_cons (pe_make M2 F2 hr rfl hg2 b2 .nil pass0
      (pa_cons (pe_tup (pa_cons pe_int (pa_cons (pe_glob (v := .int 200) rfl g1 ⟨_, rfl⟩) pa_nil))) (pa_cons (pe_tup (pa_cons pe_int (pa_cons (pe_glob (v := .int 1000) rfl g2 ⟨_, rfl⟩) pa_nil)))
        (pa_cons (pe_tup (pa_cons pe_int (pa_cons (pe_glob (v := .int 1000) rfl g2 ⟨_, rfl⟩) pa_nil))) pa_nil)))) pa_nil)) rfl), ?_⟩
    have r := evp_yard (B := B) (σ := start ["self"] [.ref p]) (H := H) (q := ⟨1, 200, 0, 1000, 0, 1000⟩) (ta := tTup (tCons (tC (.int 1)) (tCons (tC (.int 200)) tNil))) (tb := tTup (tCons (tC (.int 0)) (tCons (tC (.int 1000)) tNil))) (tc := tTup (tCons (tC (.int 0)) (tCons (tC (.int 1000)) tNil)))
      (.new (eu_tup (ea_cons ev_c (ea_cons ev_c ea_nil)) (by show 2 ≤ 100000; decide))) (.new (eu_tup (ea_cons ev_c (ea_cons ev_c ea_nil)) (by show 2 ≤ 100000; decide))) (.new (eu_tup (ea_cons ev_c (ea_cons ev_c ea_nil)) (by show 2 ≤ 100000; decide)))
    refine r H (Ex.refl H) (fun v H1 => tVar 0 _ H1 fun x H2 => ∃ a C dx fs, x = .ref a ∧ H2 a = some (.ins C dx fs) ∧ Cls K C ∧ NoAttr K C "heap" ∧ fs.length < 1000 ∧ _) fun v H1 e1 ⟨b, l, ev, nb, nl, _, hY⟩ => ?_
    subst ev
    refine ⟨_, rfl, p, B.holder, dx, [], rfl, e1 _ _ hp, T.cO, T.nO, (by show 0 < 1000; decide), ?_⟩
    exact k _ ⟨(e0.trans e1).mut np, np, dx, b, l, by rw [upd_same]; rfl, fresh_back e0 nl, hY H1 (Ex.refl H1) p _ _ _ _ hp⟩
def spHold (B : Ads) : Sp := fun vs H Q _ => ∃ (a b b0 dx : Addr), vs = [.ref a, .ref b] ∧ H a = some (.ins B.holder dx (holderF b0)) ∧ ∀ H1, Ex H H1 → Q .non (upd H1 a (.ins B.holder dx (holderF b)))
theorem scHold : FnScope ["self", "heap"] ["self", "heap"] (defScope sHold) := ⟨rfl, rfl, rfl, by decide +kernel, rfl, by decide +kernel, by decide +kernel⟩
theorem ok_hold (T : Txt K mg B) (D : DefM K B.holder "hold" "Holder.hold" sHold ["self", "heap"]) : CallM P w K mg base 1 B.holder "hold" ["self", "heap"] (spHold B) := by
  obtain ⟨f, fd, hm, F, b⟩ := D.ex
  refine ⟨f, fd, hm, b, F.ok scHold (fun vs H Q E h => ?_) fun cdv A outer s H vs Q E hr h => ?_⟩
  · obtain ⟨a, b, b0, dx, rfl, _⟩ := h
    rfl
  · obtain ⟨a, b, b0, dx, rfl, ha, k⟩ := h
    refine ⟨_, pss_one (ps_fld (pv 0) (pv 1) rfl), ?_⟩
    refine s_fld (y := .ref b) (ev_var rfl) (ev_var rfl) ha T.cO T.nO (by show 1 < 1000; decide) fun H1 e1 => ?_
    have e : putF "heap" (.ref b) (holderF b0) = holderF b := if_pos rfl
    rw [e]
    exact k H1 e1

/-! ### are_bounds, begins -/
def bnd (a b c : Nat) : Bool := decide (c ≤ a) && (decide (a ≤ b) && decide (b ≤ 1000))
def spBounds : Sp := fun vs H Q _ => ∃ (a b c : Nat), vs = [.int a, .int b, .int c] ∧ RetV (.bl (bnd a b c)) H Q
theorem scBounds : FnScope ["least", "most", "lowest"] ["least", "most", "lowest"] (defScope sAreBounds) := ⟨rfl, rfl, rfl, by decide +kernel, rfl, by decide +kernel, by decide +kernel⟩
theorem rv_le {H : Hp} (a b : Nat) : RV (rI0 fun i j => .bl (decide (i ≤ j))) (.int a) (.int b) H (.bl (decide (a ≤ b))) := by
  rw [← le_cast]
  exact rv_I0
theorem rv_lt {H : Hp} (a b : Nat) : RV (rI0 fun i j => .bl (decide (j < i))) (.int a) (.int b) H (.bl (decide (b < a))) := by
  have e : V.bl (decide ((b : Int) < (a : Int))) = V.bl (decide (b < a)) := congrArg V.bl (decide_eq_decide.mpr Int.ofNat_lt)
  rw [← e]
  exact rv_I0
theorem ok_are_bounds (T : Txt K mg B) (D : DefG K mg "are_bounds" sAreBounds ["least", "most", "lowest"]) : CallG P w K mg base 1 "are_bounds" ["least", "most", "lowest"] spBounds := by
  obtain ⟨f, fd, hg, F, b⟩ := D.ex
  obtain ⟨t2, g2⟩ := T.thousand
  refine ⟨f, fd, hg, F.kp, b, F.ok scBounds (fun vs H Q E h => ?_) fun cdv A outer s H vs Q E hr h => ?_⟩
  · obtain ⟨a, b, c, rfl, _⟩ := h
    rfl
  · obtain ⟨a, b, c, rfl, k⟩ := h
    refine ⟨_, pss_one (ps_ret (pe_chain3 op_le op_le op_le (pv 2) (pv 0) (pv 1) (pe_glob (v := .int 1000) rfl g2 ⟨_, rfl⟩))), ?_⟩
    exact s_ret (ev_chain3 (x := .int c) (y := .int a) (z := .int b) (u := .int ((1000 : Nat) : Int)) (ev_var rfl) (ev_var rfl) (rv_le c a) (ev_var rfl) (rv_le a b) ev_c (rv_le b 1000)) k
def wantN (q : Sj14.Wanted) : List Nat := [q.light, q.heavy, q.copperLow, q.copperHigh, q.zincLow, q.zincHigh]
def spBegins (K : PySem.W.Frag) (B : Ads) : Sp := fun vs H Q _ => ∃ (a t : Addr) (H0 : Hp) (y : Sj14.Yard) (q : Sj14.Wanted), vs = [.ref a, .ref t] ∧ Own B H0 H a y ∧ SqL K H t (natV (wantN q)) ∧ RetA B H0 H a (Sj14.step y (.begins q)) Q
theorem scBegins : FnScope ["holder", "told", "heavy", "copper", "zinc"] ["holder", "told"] (defScope sBegins) := ⟨rfl, rfl, rfl, by decide +kernel, rfl, by decide +kernel, by decide +kernel⟩
theorem begins_no {y : Sj14.Yard} {q : Sj14.Wanted} (h : (!bnd q.light q.heavy 1 || !bnd q.copperLow q.copperHigh 0) || !bnd q.zincLow q.zincHigh 0) : Sj14.step y (.begins q) = (y, Sj14.ok (-1)) := by
  refine if_pos ?_
  unfold bnd at h
  simp only [Bool.or_eq_true, Bool.not_eq_true', Bool.and_eq_false_iff, decide_eq_false_iff_not] at h
  omega
theorem begins_yes {y : Sj14.Yard} {q : Sj14.Wanted} (h : ((!bnd q.light q.heavy 1 || !bnd q.copperLow q.copperHigh 0) || !bnd q.zincLow q.zincHigh 0) = false) : Sj14.step y (.begins q) = (⟨q, []⟩, Sj14.ok 0) ∧ Sc.Ok ⟨q, []⟩ := by
  unfold bnd at h
  simp only [Bool.or_eq_false_iff, Bool.not_eq_false', Bool.and_eq_true, decide_eq_true_eq] at h
  refine ⟨if_neg (by omega), ⟨?_, ?_, ?_, ?_, by show 0 ≤ 8; decide, fun c hc => by cases hc⟩⟩
  · exact h.1.1.1
  · exact h.1.1.2
  · exact h.1.2.2
  · exact h.2.2
theorem ok_begins (T : Txt K mg B) (D : DefG K mg "begins" sBegins ["holder", "told"]) (G0 : CallG P w K mg base 1 "are_bounds" ["least", "most", "lowest"] spBounds) (G1 : CallC P w K mg base 1 B.heap "Heap" ["self", "wish"] (spHeapInit B))
    (G2 : CallC P w K mg base 1 B.wish "Wish" ["self", "heavy", "copper", "zinc"] (spWishInit B)) (G3 : CallM P w K mg base 1 B.holder "hold" ["self", "heap"] (spHold B)) : CallG P w K mg base 3 "begins" ["holder", "told"] (spBegins K B) := by
  obtain ⟨f, fd, hg, F, b⟩ := D.ex
  obtain ⟨f1, fd1, hg1, M1, b1, F1⟩ := G1.ex
  obtain ⟨f2, fd2, hg2, M2, b2, F2⟩ := G2.ex
  refine ⟨f, fd, hg, F.kp, b, F.ok scBegins (fun vs H Q E h => ?_) fun cdv A outer s H vs Q E hr h => ?_⟩
  · obtain ⟨a, t, H0, y, q, rfl, _⟩ := h
    rfl
  · obtain ⟨a, t, H0, y, q, rfl, hO, hT, k⟩ := h
    have nd := scBegins.nd
    have hr1 : Room 1 _ := hr.mono (by decide)
    refine ⟨_, pss_cons (ps_set (i := 2) nd rfl (Or.inl rfl) (pe_tup (pa_cons (pe_ix ix_list (pv 1) pe_int (fun _ _ => rfl)) (pa_cons (pe_ix ix_list (pv 1) pe_int (fun _ _ => rfl)) pa_nil))))
      (pss_cons (ps_set (i := 3) nd rfl (Or.inl rfl) (pe_tup (pa_cons (pe_ix ix_list (pv 1) pe_int (fun _ _ => rfl)) (pa_cons (pe_ix ix_list (pv 1) pe_int (fun _ _ => rfl)) pa_nil))))
      (pss_cons (ps_set (i := 4) nd rfl (Or.inl rfl) (pe_tup (pa_cons (pe_ix ix_list (pv 1) pe_int (fun _ _ => rfl)) (pa_cons (pe_ix ix_list (pv 1) pe_int (fun _ _ => rfl)) pa_nil))))
      (pss_cons (ps_if (PW.pt (pw_or (pt_not (pt_val (pe_g G0 hr1 rfl (pa_cons (pe_ix ix_tup (pv 2) pe_int (fun _ _ => rfl)) (pa_cons (pe_ix ix_tup (pv 2) pe_int (fun _ _ => rfl)) (pa_cons pe_int pa_nil))))))
          (pw_or1 (pt_not (pt_val (pe_g G0 hr1 rfl (pa_cons (pe_ix ix_tup (pv 3) pe_int (fun _ _ => rfl)) (pa_cons (pe_ix ix_tup (pv 3) pe_int (fun _ _ => rfl)) (pa_cons pe_int pa_nil))))))))) (pss_one (ps_ret (pe_lst (pa_cons (pe_un un_neg pe_int) pa_nil)))) pss_nil)
      (pss_cons (ps_if (pt_not (pt_val (pe_g G0 hr1 rfl (pa_cons (pe_ix ix_tup (pv 4) pe_int (fun _ _ => rfl)) (pa_cons (pe_ix ix_tup (pv 4) pe_int (fun _ _ => rfl)) (pa_cons pe_int pa_nil)))))) (pss_one (ps_ret (pe_lst (pa_cons (pe_un un_neg pe_int) pa_nil)))) pss_nil)
      (pss_cons (ps_expr (pe_m G3 hr1 T.cO (pv 0) (pa_cons (pe_make M1 F1 hr rfl hg1 b1 .nil pass0 (pa_cons (pe_make M2 F2 hr rfl hg2 b2 .nil pass0 (pa_cons (pv 2) (pa_cons (pv 3) (pa_cons (pv 4) pa_nil)))) pa_nil)) pa_nil)))
      (pss_one (ps_ret (pe_lst (pa_cons pe_int pa_nil))))))))), ?_⟩
    have tl : ∀ {σ : L2.St} {H1 : Hp} (i : Nat) (n : Nat), Ex H H1 → σ[1]? = some (some (.ref t)) → (wantN q)[i]? = some n → Ev (tOp (rIxL K) (tVar 1) (tC (.int (i : Nat)))) σ H1 (.int n) := fun {σ H1} i n e hσ hi =>
      ev_op (ev_var hσ) ev_c (rv_ixL (ex_l e hT) (atI_nat (j := i) (by rw [List.getElem?_map, hi]; rfl)))
    refine q_asgU (xs := [.int q.light, .int q.heavy]) (eu_tup (ea_cons (tl 0 _ (Ex.refl H) rfl rfl) (ea_cons (tl 1 _ (Ex.refl H) rfl rfl) ea_nil)) (by show 2 ≤ 100000; decide)) fun p1 H1 n1 e1 h1 => ?_
    refine q_asgU (xs := [.int q.copperLow, .int q.copperHigh]) (eu_tup (ea_cons (tl 2 _ e1 rfl rfl) (ea_cons (tl 3 _ e1 rfl rfl) ea_nil)) (by show 2 ≤ 100000; decide)) fun p2 H2 n2 e2 h2 => ?_
    have e12 := e1.trans e2
    refine q_asgU (xs := [.int q.zincLow, .int q.zincHigh]) (eu_tup (ea_cons (tl 4 _ e12 rfl rfl) (ea_cons (tl 5 _ e12 rfl rfl) ea_nil)) (by show 2 ≤ 100000; decide)) fun p3 H3 n3 e3 h3 => ?_
    have e13 := e12.trans e3
    have ix : ∀ {σ : L2.St} {H1 : Hp} {p : Addr} (j : Nat) {u v : Nat} (i : Nat) (n : Nat), σ[j]? = some (some (.ref p)) → H1 p = some (.tup [.int u, .int v]) → ([.int u, .int v] : List V)[i]? = some (.int n) → Ev (tOp (rIxT K) (tVar j) (tC (.int (i : Nat)))) σ H1 (.int n) :=
      fun {σ H1 p} j {u v} i n hσ hp hi => ev_op (ev_var hσ) ev_c (rv_ixT (st_of hp) (atI_nat (j := i) hi))
    have g1 := e3 _ _ (e2 _ _ h1)
    have g2 := e3 _ _ h2
    refine q_when (b := !bnd q.light q.heavy 1 || !bnd q.copperLow q.copperHigh 0)
      (et_or (et_not (et_B (ev_call (ea_cons (ix 2 0 _ rfl g1 rfl) (ea_cons (ix 2 1 _ rfl g1 rfl) (ea_cons ev_c ea_nil))) fun H4 e Q q' E => ⟨q.light, q.heavy, 1, rfl, q'⟩)))
        fun _ => et_not (et_B (ev_call (ea_cons (ix 3 0 _ rfl g2 rfl) (ea_cons (ix 3 1 _ rfl g2 rfl) (ea_cons ev_c ea_nil))) fun H4 e Q q' E => ⟨q.copperLow, q.copperHigh, 0, rfl, q'⟩))) (fun c H4 e4 => ?_) (fun c H4 e4 => ?_)
    · have st := begins_no (y := y) (q := q) (by rw [c]; rfl)
      rw [st] at k
      exact s_retL (el_lst (ea_cons (ev_un ev_c ru_neg) ea_nil) (by show 1 ≤ 100000; decide)) fun r H5 nr e5 h5 => k r H5 (fresh_back (e13.trans e4) nr) (hO.mono ((e13.trans e4).trans e5)) h5
    refine q_when (b := !bnd q.zincLow q.zincHigh 0) (et_not (et_B (ev_call (ea_cons (ix 4 0 _ rfl (e4 _ _ h3) rfl) (ea_cons (ix 4 1 _ rfl (e4 _ _ h3) rfl) (ea_cons ev_c ea_nil))) fun H5 e Q q' E => ⟨q.zincLow, q.zincHigh, 0, rfl, q'⟩))) (fun d H5 e5 => ?_) (fun d H5 e5 => ?_)
    · have st := begins_no (y := y) (q := q) (by rw [d, Bool.or_true])
      rw [st] at k
      exact s_retL (el_lst (ea_cons (ev_un ev_c ru_neg) ea_nil) (by show 1 ≤ 100000; decide)) fun r H6 nr e6 h6 => k r H6 (fresh_back ((e13.trans e4).trans e5) nr) (hO.mono (((e13.trans e4).trans e5).trans e6)) h6
    · have st := (begins_yes (y := y) (q := q) (by rw [c, d]; rfl)).1
      rw [st] at k
      have e45 := e4.trans e5
      have f := e13.trans e45
      obtain ⟨dx, b0, l0, ha, nl0, hY0⟩ := hO.ex
      refine ⟨.ref a, rfl, a, dx, holderF b0, rfl, f _ _ ha, hoN0 b0, ?_⟩
      refine evp_yard (B := B) (q := q) (.old (p := p1) (ev_var rfl) (e45 _ _ g1)) (.old (p := p2) (ev_var rfl) (e45 _ _ g2)) (.old (p := p3) (ev_var rfl) (e45 _ _ h3)) H5 (Ex.refl H5) _ fun v H6 e6 ⟨b, l, ev, nb, nl, _, hY⟩ => ?_
      subst ev
      refine ⟨a, b, b0, dx, rfl, e6 _ _ (f _ _ ha), fun H7 e7 => ?_⟩
      have f7 := (f.trans e6).trans e7
      refine s_retL (σ := []) (el_lst (ea_cons ev_c ea_nil) (by show 1 ≤ 100000; decide)) fun r H8 nr e8 h8 => ?_
      have ra : r ≠ a := fun z => by rw [z, upd_same] at nr; cases nr
      rw [upd_ne ra] at nr
      refine k r H8 (fresh_back f7 nr) ⟨((hO.ext.trans f7).mut hO.na).trans e8, hO.na, dx, b, l, e8 _ _ upd_same, fresh_back (hO.ext.trans f) nl, ?_⟩ h8
      exact (hY H7 e7 a _ _ _ _ (f _ _ ha)).mono e8
end
end Scw
/-! # The yard: crate, check -/
namespace Scw
open PySem PySem.Spec PyProof.Rows L2 Evl
section
variable {P : Program} {w : World} {K : PySem.W.Frag} {mg : Str → Option Value} {base : Heap} {B : Ads}
def crN (c : Sj14.Crate) : List Nat := [c.heavy, c.copper, c.zinc, c.price]
def spCrate (K : PySem.W.Frag) (B : Ads) : Sp := fun vs H Q _ => ∃ (b l t : Addr) (H0 : Hp) (y : Sj14.Yard) (c : Sj14.Crate), vs = [.ref b, .ref t] ∧ HeapAt B H b l y ∧ Ex H0 H ∧ H0 l = none ∧ SqL K H t (natV (crN c)) ∧ Sc.Ok y ∧
  ∀ q H2, H q = none → Ex H0 H2 → (∀ x o, H x = some o → x ≠ l → H2 x = some o) → HeapAt B H2 b l (Sj14.step y (.crate c)).1 → H2 q = some (.lst (intV ((Sj14.step y (.crate c)).2.v :: (Sj14.step y (.crate c)).2.l))) → Q (.ref q) H2
theorem scCrate : FnScope ["heap", "told", "heavy", "copper", "zinc", "price"] ["heap", "told"] (defScope sCrate) := ⟨rfl, rfl, rfl, by decide +kernel, rfl, by decide +kernel, by decide +kernel⟩
def badCr (c : Sj14.Crate) : Bool := (!(decide (1 ≤ c.heavy) && decide (c.heavy ≤ 200))) || (decide (1000 < c.copper + c.zinc) || decide (1000 < c.price))
theorem crate_bad {y : Sj14.Yard} {c : Sj14.Crate} (h : badCr c = true) : Sj14.step y (.crate c) = (y, Sj14.ok (-1)) := by
  refine if_pos ?_
  unfold badCr at h
  simp only [Bool.or_eq_true, Bool.not_eq_true', Bool.and_eq_false_iff, decide_eq_false_iff_not, decide_eq_true_eq] at h
  show c.heavy < 1 ∨ 200 < c.heavy ∨ 1000 < c.copper + c.zinc ∨ 1000 < c.price
  omega
theorem crate_good {c : Sj14.Crate} (h : badCr c = false) : 1 ≤ c.heavy ∧ c.heavy ≤ 200 ∧ c.copper + c.zinc ≤ 1000 ∧ c.price ≤ 1000 := by
  unfold badCr at h
  simp only [Bool.or_eq_false_iff, Bool.not_eq_false', Bool.and_eq_true, decide_eq_false_iff_not, decide_eq_true_eq] at h
  omega
theorem crate_full {y : Sj14.Yard} {c : Sj14.Crate} (h : badCr c = false) (k : y.crates.length = 8) : Sj14.step y (.crate c) = (y, Sj14.ok (-5)) := by
  have g := crate_good h
  have n1 : ¬ (c.heavy < 1 ∨ 200 < c.heavy ∨ 1000 < c.copper + c.zinc ∨ 1000 < c.price) := by omega
  have n2 : Sj14.CRATES ≤ y.count := by
    show 8 ≤ y.crates.length
    omega
  exact (if_neg n1).trans (if_pos n2)
theorem crate_put {y : Sj14.Yard} {c : Sj14.Crate} (h : badCr c = false) (ok : Sc.Ok y) (k : ¬ y.crates.length = 8) : Sj14.step y (.crate c) = ({ y with crates := y.crates ++ [c] }, Sj14.ok ((y.crates.length : Nat) : Int)) ∧ Sc.Ok { y with crates := y.crates ++ [c] } := by
  have g := crate_good h
  have f := ok.few
  have n1 : ¬ (c.heavy < 1 ∨ 200 < c.heavy ∨ 1000 < c.copper + c.zinc ∨ 1000 < c.price) := by omega
  have n2 : ¬ Sj14.CRATES ≤ y.count := by
    show ¬ 8 ≤ y.crates.length
    omega
  refine ⟨(if_neg n1).trans (if_neg n2), ok.light, ok.heavy, ok.copper, ok.zinc, ?_, fun d hd => ?_⟩
  · show (y.crates ++ [c]).length ≤ 8
    rw [List.length_append]
    show y.crates.length + 1 ≤ 8
    omega
  · rcases List.mem_append.mp hd with hd | hd
    · exact ok.each d hd
    · rw [List.mem_singleton] at hd
      rw [hd]
      exact g
theorem HeapAt.push {H : Hp} {b l x : Addr} {y : Sj14.Yard} {c : Sj14.Crate} {xs : List V} (h : HeapAt B H b l y) (hl : H l = some (.lst xs)) (hx : CrateAt B H x c) : HeapAt B (upd H l (.lst (xs ++ [.ref x]))) b l { y with crates := y.crates ++ [c] } := by
  obtain ⟨dx, a, ps, h1, ⟨dw, p, q, r, h2, h3, h4, h5⟩, h6, h7, h8⟩ := h.ex
  have e : xs = ps.map rf := by
    rw [hl] at h6
    cases h6
    rfl
  subst e
  have ni : ∀ {z C d : Addr} {fs : List (Str × V)}, H z = some (.ins C d fs) → upd H l (.lst (ps.map rf ++ [.ref x])) z = some (.ins C d fs) := fun hz => by
    rw [upd_ne (ne_of hz hl (by intro z; cases z))]
    exact hz
  have nt : ∀ {z : Addr} {u : List V}, H z = some (.tup u) → upd H l (.lst (ps.map rf ++ [.ref x])) z = some (.tup u) := fun hz => by
    rw [upd_ne (ne_of hz hl (by intro z; cases z))]
    exact hz
  refine ⟨dx, a, ps ++ [(x, c)], ni h1, ⟨dw, p, q, r, ni h2, nt h3, nt h4, nt h5⟩, ?_, fun z hz => ?_, ?_⟩
  · rw [upd_same, List.map_append]
    rfl
  · rcases List.mem_append.mp hz with hz | hz
    · obtain ⟨d, k⟩ := h7 z hz
      exact ⟨d, ni k⟩
    · rw [List.mem_singleton] at hz
      rw [hz]
      obtain ⟨d, k⟩ := hx
      exact ⟨d, ni k⟩
  · rw [List.map_append, h8]
    rfl
theorem HeapAt.len (T : Txt K mg B) {H : Hp} {b l : Addr} {y : Sj14.Yard} (h : HeapAt B H b l y) {σ : L2.St} {ta : TE} (hb : Ev ta σ H (.ref b)) : Ev (tCB (rLenS K) (tCons (tFld K ta "crates") tNil)) σ H (.int ((y.crates.length : Nat) : Int)) := by
  obtain ⟨dx, a, ps, h1, h2, h3, h4, h5⟩ := h.ex
  refine ev_is (ev_len (ev_fld hb h1 T.cH T.nH.2 (heF1 a l)) (sq_of h3)) ?_
  rw [← h5, List.length_map, List.length_map]
theorem ok_crate (T : Txt K mg B) (D : DefG K mg "crate" sCrate ["heap", "told"]) (G1 : CallC P w K mg base 1 B.crate "Crate" ["self", "heavy", "copper", "zinc", "price"] (spCrateInit B))
    (G2 : CallM P w K mg base 1 B.heap "put_crate" ["self", "crate"] (spPutCrate B)) : CallG P w K mg base 3 "crate" ["heap", "told"] (spCrate K B) := by
  obtain ⟨f, fd, hg, F, b⟩ := D.ex
  obtain ⟨f1, fd1, hg1, M1, b1, F1⟩ := G1.ex
  obtain ⟨t0, g0⟩ := T.mostHeavy
  obtain ⟨t1, g1⟩ := T.thousand
  obtain ⟨t2, g2⟩ := T.mostCrates
  refine ⟨f, fd, hg, F.kp, b, F.ok scCrate (fun vs H Q E h => ?_) fun cdv A outer s H vs Q E hr h => ?_⟩
  · obtain ⟨b, l, t, H0, y, c, rfl, _⟩ := h
    rfl
  · obtain ⟨b, l, t, H0, y, c, rfl, hY, e0, nl, hT, hok, k⟩ := h
    have nd := scCrate.nd
    have hr1 : Room 1 _ := hr.mono (by decide)
    refine ⟨_, pss_cons (ps_asg (pv 1) (pg_unl (n := 4) rfl (pgs_cons (pg_name (i := 2) nd rfl (Or.inl rfl)) (pgs_cons (pg_name (i := 3) nd rfl (Or.inl rfl)) (pgs_cons (pg_name (i := 4) nd rfl (Or.inl rfl)) (pgs_cons (pg_name (i := 5) nd rfl (Or.inl rfl)) pgs_nil))))))
      (pss_cons (ps_if (PW.pt (pw_or (pt_not (pt_chain op_le op_le pe_int (pv 2) (pe_glob (v := .int 200) rfl g0 ⟨_, rfl⟩))) (pw_or (pt_cmpR op_gt (pe_op op_add (pv 3) (pv 4)) (pe_glob (v := .int 1000) rfl g1 ⟨_, rfl⟩) (nomark _)) (pw_or1 (pt_cmpR op_gt (pv 5) (pe_glob (v := .int 1000) rfl g1 ⟨_, rfl⟩) (nomark _))))))
        (pss_one (ps_ret (pe_lst (pa_cons (pe_un un_neg pe_int) pa_nil)))) pss_nil)
      (pss_cons (ps_if (pt_cmpR op_eq (pe_callB call_len_seq (by rfl) T.len PySem.boot_len (pa_cons (pe_fld (pv 0) rfl) pa_nil)) (pe_glob (v := .int 8) rfl g2 ⟨_, rfl⟩) (nomark _)) (pss_one (ps_ret (pe_lst (pa_cons (pe_un un_neg pe_int) pa_nil)))) pss_nil)
      (pss_cons (ps_expr (pe_m G2 hr1 T.cH (pv 0) (pa_cons (pe_make M1 F1 hr rfl hg1 b1 .nil pass0 (pa_cons (pv 2) (pa_cons (pv 3) (pa_cons (pv 4) (pa_cons (pv 5) pa_nil))))) pa_nil)))
      (pss_one (ps_ret (pe_lst (pa_cons (pe_op op_sub (pe_callB call_len_seq (by rfl) T.len PySem.boot_len (pa_cons (pe_fld (pv 0) rfl) pa_nil)) pe_int) pa_nil))))))), ?_⟩
    refine ⟨_, rfl, t, _, rfl, hT, rfl, _, _, rfl, _, _, rfl, _, _, rfl, _, _, rfl, rfl, ?_⟩
    have kept : ∀ {H2 : Hp}, Ex H H2 → ∀ x o, H x = some o → x ≠ l → H2 x = some o := fun e x o hx _ => e x o hx
    refine q_when (b := badCr c) (et_or (et_not (et_test (ev_chain (x := .int ((1 : Nat) : Int)) (y := .int c.heavy) (z := .int ((200 : Nat) : Int)) ev_c (ev_var rfl) (rv_le _ _) (fun _ => ev_c) fun _ => rv_le _ _))) fun _ =>
        et_or (et_test (ev_op (x := .int ((c.copper + c.zinc : Nat) : Int)) (y := .int ((1000 : Nat) : Int)) (ev_is (ev_op (x := .int c.copper) (y := .int c.zinc) (ev_var rfl) (ev_var rfl) rv_I0) (by rw [Int.natCast_add])) ev_c (rv_lt _ _)))
          fun _ => et_test (ev_op (x := .int c.price) (y := .int ((1000 : Nat) : Int)) (ev_var rfl) ev_c (rv_lt _ _))) (fun d H1 e1 => ?_) (fun d H1 e1 => ?_)
    · rw [crate_bad d] at k
      exact s_retL (el_lst (ea_cons (ev_un ev_c ru_neg) ea_nil) (by show 1 ≤ 100000; decide)) fun r H2 nr e2 h2 => k r H2 (fresh_back e1 nr) (e0.trans (e1.trans e2)) (kept (e1.trans e2)) (hY.mono (e1.trans e2)) h2
    refine q_when (b := y.crates.length == 8) (et_test (ev_op ((hY.mono e1).len T (ev_var rfl)) ev_c (rv_eqI _ 8))) (fun d2 H2 e2 => ?_) (fun d2 H2 e2 => ?_)
    · rw [crate_full d (beq_iff_eq.mp d2)] at k
      have f := e1.trans e2
      exact s_retL (el_lst (ea_cons (ev_un ev_c ru_neg) ea_nil) (by show 1 ≤ 100000; decide)) fun r H3 nr e3 h3 => k r H3 (fresh_back f nr) (e0.trans (f.trans e3)) (kept (f.trans e3)) (hY.mono (f.trans e3)) h3
    · have st := (crate_put d hok (fun z => by rw [z] at d2; cases d2)).1
      rw [st] at k
      have f := e1.trans e2
      obtain ⟨dxh, wA, ps, h1, _, h3, _, h5⟩ := hY.ex
      have zl : (ps.map (rf (α := Sj14.Crate))).length < 1000 := by
        have := hok.few
        rw [List.length_map, ← List.length_map (f := Prod.snd), h5]
        omega
      refine ⟨.ref b, rfl, b, dxh, heapF wA l, rfl, f _ _ h1, heN1 wA l, ?_⟩
      refine ev_make (C := B.crate) (args := fun c : Sj14.Crate => [.int c.heavy, .int c.copper, .int c.zinc, .int c.price]) (pre := fun _ _ => True) (fields := crateF) c (ea_cons (x := .int c.heavy) (ev_var rfl) (ea_cons (x := .int c.copper) (ev_var rfl) (ea_cons (x := .int c.zinc) (ev_var rfl) (ea_cons (x := .int c.price) (ev_var rfl) ea_nil)))) rfl (fun _ _ => trivial) H2 (Ex.refl H2) _
        fun v H3 e3 ⟨x, dx, ev, nx, hx⟩ => ?_
      subst ev
      have f3 := f.trans e3
      refine ⟨b, x, l, wA, dxh, ps.map rf, rfl, f3 _ _ h1, f3 _ _ h3, zl, fun H4 e4 => ?_⟩
      have f4 := f3.trans e4
      have hY4 : HeapAt B (upd H4 l (.lst (ps.map rf ++ [.ref x]))) b l { y with crates := y.crates ++ [c] } := (hY.mono f4).push (f4 _ _ h3) ⟨dx, e4 _ _ hx⟩
      refine s_retL (xs := [.int ((y.crates.length : Nat) : Int)]) (el_lst (ea_cons (ev_is (ev_op (hY4.len T (ev_var rfl)) ev_c rv_I0) ?_) ea_nil) (by show 1 ≤ 100000; decide)) fun r H5 nr e5 h5 => ?_
      · show V.int ((((y.crates ++ [c]).length : Nat) : Int) - 1) = _
        rw [List.length_append]
        show V.int (((y.crates.length + 1 : Nat) : Int) - 1) = _
        exact congrArg V.int (by omega)
      · have rl : r ≠ l := fun z => by rw [z, upd_same] at nr; cases nr
        rw [upd_ne rl] at nr
        refine k r H5 (fresh_back f4 nr) (((e0.trans f4).mut nl).trans e5) (fun z o hz hne => e5 _ _ ?_) (hY4.mono e5) h5
        rw [upd_ne hne]
        exact f4 _ _ hz
end
end Scw
/-! # The yard: check, cheap, near, most -/
namespace Scw
open PySem PySem.Spec PyProof.Rows L2 Evl
section
variable {P : Program} {w : World} {K : PySem.W.Frag} {mg : Str → Option Value} {base : Heap} {B : Ads}
abbrev ansI (a : Sj14.Ans) : List Int := a.v :: a.l
theorem small_mk {y : Sj14.Yard} (h : Sc.Ok y) {s : Nat} (p : 1 ≤ y.heavy s) : Small (Sc.mk y s) := ⟨p, h.heavy_le s, h.copper_le s, h.zinc_le s⟩
theorem small_wanted {y : Sj14.Yard} (h : Sc.Ok y) {m : Sc.ML} (hm : m ∈ Sc.wanted y) : Small m := by
  obtain ⟨s, hs, rfl⟩ := List.mem_map.mp hm
  exact small_mk h (Sc.melts_heavy hs)
theorem wanted_len {y : Sj14.Yard} (h : Sc.Ok y) : (Sc.wanted y).length ≤ 255 := by
  unfold Sc.wanted
  rw [List.length_map, Sc.melts_eq y h.light]
  exact Nat.le_trans (List.length_filter_le _ _) (nums_len y h)
theorem wanted_nil {y : Sj14.Yard} (h : Sc.wanted y = []) : y.melts = [] := List.map_eq_nil_iff.mp h

/-! ### check -/
def spCheck (B : Ads) : Sp := fun vs H Q _ => ∃ (b l : Addr) (y : Sj14.Yard) (n : Nat), vs = [.ref b, .int n] ∧ HeapAt B H b l y ∧ Sc.Ok y ∧ RetL (intV (ansI (Sj14.step y (.check n)).2)) H Q
theorem scCheck : FnScope ["heap", "number", "melt", "wrong"] ["heap", "number"] (defScope sCheck) := ⟨rfl, rfl, rfl, by decide +kernel, rfl, by decide +kernel, by decide +kernel⟩
theorem check_no {y : Sj14.Yard} {n : Nat} (h : ((n == 0) || decide (0 < n / 2 ^ y.crates.length)) = true) : (Sj14.step y (.check n)).2 = Sj14.ok (-1) := by
  have e : n < 1 ∨ 2 ^ y.count ≤ n := by
    rw [Bool.or_eq_true, beq_iff_eq, decide_eq_true_eq] at h
    rcases h with h | h
    · exact .inl (by omega)
    · exact .inr (Nat.div_pos_iff.mp h).2
  show (if n < 1 ∨ 2 ^ y.count ≤ n then (y, Sj14.ok (-1)) else _).2 = _
  rw [if_pos e]
theorem check_in {y : Sj14.Yard} {n : Nat} (h : ((n == 0) || decide (0 < n / 2 ^ y.crates.length)) = false) : n ≠ 0 ∧ n < 2 ^ y.crates.length := by
  rw [Bool.or_eq_false_iff, beq_eq_false_iff_ne, decide_eq_false_iff_not] at h
  refine ⟨h.1, Nat.lt_of_not_le fun z => h.2 (Nat.div_pos_iff.mpr ⟨Nat.two_pow_pos _, z⟩)⟩
theorem check_yes {y : Sj14.Yard} {n : Nat} (h : n ≠ 0 ∧ n < 2 ^ y.crates.length) : (Sj14.step y (.check n)).2 = if y.wrong n ≠ 0 then ⟨-6, Sj14.ints (y.wrong n :: toldL (Sc.mk y n))⟩ else ⟨((y.price n : Nat) : Int), Sj14.ints (toldL (Sc.mk y n))⟩ := by
  have e : ¬ (n < 1 ∨ 2 ^ y.count ≤ n) := fun z => by
    rcases z with z | z
    · exact h.1 (by omega)
    · exact absurd h.2 (Nat.not_lt_of_le z)
  show (if n < 1 ∨ 2 ^ y.count ≤ n then (y, Sj14.ok (-1)) else _).2 = _
  rw [if_neg e]
  rfl
theorem ok_check (T : Txt K mg B) (D : DefG K mg "check" sCheck ["heap", "number"]) (G1 : CallG P w K mg base 3 "melt_of" ["heap", "number"] (spMeltOf B)) (G2 : CallG P w K mg base 2 "wrong_with" ["heap", "melt"] (spWrong B))
    (G3 : CallM P w K mg base 3 B.melt "told" ["self"] (spTold B)) : CallG P w K mg base 4 "check" ["heap", "number"] (spCheck B) := by
  obtain ⟨f, fd, hg, F, b⟩ := D.ex
  obtain ⟨fm, fdm, hmm, bm, Fm⟩ := G3.ex
  refine ⟨f, fd, hg, F.kp, b, F.ok scCheck (fun vs H Q E h => ?_) fun cdv A outer s H vs Q E hr h => ?_⟩
  · obtain ⟨b, l, y, n, rfl, _⟩ := h
    rfl
  · obtain ⟨b, l, y, n, rfl, hY, hok, k⟩ := h
    have nd := scCheck.nd
    have hr2 : Room 2 _ := hr.mono (by decide)
    refine ⟨_, pss_cons (ps_if (PW.pt (pw_or (pt_cmpR op_eq (pv 1) pe_int (nomark _)) (pw_or1 (pt_cmpR op_gt (pe_op op_shr (pv 1) (pe_callB call_len_seq (by rfl) T.len PySem.boot_len (pa_cons (pe_fld (pv 0) rfl) pa_nil))) pe_int (nomark _)))))
        (pss_one (ps_ret (pe_lst (pa_cons (pe_un un_neg pe_int) pa_nil)))) pss_nil)
      (pss_cons (ps_set (i := 2) nd rfl (Or.inl rfl) (pe_g G1 hr rfl (pa_cons (pv 0) (pa_cons (pv 1) pa_nil))))
      (pss_cons (ps_set (i := 3) nd rfl (Or.inl rfl) (pe_g G2 hr2 rfl (pa_cons (pv 0) (pa_cons (pv 2) pa_nil))))
      (pss_cons (ps_if (pt_cmpR op_gt (pv 3) pe_int (nomark _)) (pss_one (ps_ret (pe_op op_cat (pe_lst (pa_cons (pe_un un_neg pe_int) (pa_cons (pv 3) pa_nil))) (pe_meth0 (pv 2) T.cM hmm Fm hr bm .nil pass0)))) pss_nil)
      (pss_one (ps_ret (pe_op op_cat (pe_lst (pa_cons (pe_fld (pv 2) rfl) pa_nil)) (pe_meth0 (pv 2) T.cM hmm Fm hr bm .nil pass0))))))), ?_⟩
    have sh : V.int ((n : Int) / 2 ^ (((y.crates.length : Nat) : Int)).toNat) = V.int ((n / 2 ^ y.crates.length : Nat) : Int) := by
      rw [Int.toNat_natCast, Int.natCast_ediv, Int.natCast_pow]
      rfl
    refine q_when (b := (n == 0) || decide (0 < n / 2 ^ y.crates.length)) (et_or (et_test (ev_op (ev_var rfl) ev_c (rv_eqI n 0))) fun _ =>
      et_test (ev_op (x := .int ((n / 2 ^ y.crates.length : Nat) : Int)) (y := .int ((0 : Nat) : Int)) (ev_is (ev_op (x := .int n) (ev_var rfl) (hY.len T (ev_var rfl)) (rv_I (by omega))) sh) ev_c (rv_lt _ _))) (fun c H1 e1 => ?_) (fun c H1 e1 => ?_)
    · rw [check_no c] at k
      exact s_retL (el_lst (ea_cons (ev_un ev_c ru_neg) ea_nil) (by show 1 ≤ 100000; decide)) fun r H2 nr e2 h2 => k r H2 (fresh_back e1 nr) (e1.trans e2) h2
    have ci := check_in c
    rw [check_yes ci] at k
    refine q_asgP (evp_melt_of (n := n) (hY.mono e1) hok (ea_cons (ev_var rfl) (ea_cons (ev_var rfl) ea_nil))) fun v H2 e2 ⟨x, ev, nx, hx⟩ => ?_
    subst ev
    have e12 := e1.trans e2
    refine q_asg (v := .int (Sc.wrongOf y.wanted (Sc.mk y n) : Nat)) (ev_call (ea_cons (ev_var rfl) (ea_cons (ev_var rfl) ea_nil)) fun H3 e Q q E => ⟨b, l, x, y, Sc.mk y n, rfl, hY.mono (e12.trans e), hx.mono e, hok, q⟩) fun H3 e3 => ?_
    have e13 := e12.trans e3
    rw [Sc.wrongOf_mk y n hok.light]
    have sm : Small (Sc.mk y n) := small_mk hok (hok.heavy_pos ci.1 ci.2)
    have told : ∀ {H4 : Hp} {σ : L2.St}, Ex H2 H4 → σ[2]? = some (some (.ref x)) → EvL (tMeth B.melt "told" (spTold B) [] E0 (tVar 2) tNil) σ H4 (natV (toldL (Sc.mk y n))) := fun {H4 σ} e hσ => by
      obtain ⟨dx, hx⟩ := hx
      exact el_meth (ev_var hσ) (e _ _ hx) (meN0 _) ea_nil fun H5 e5 Q q E => ⟨x, Sc.mk y n, rfl, ⟨dx, e5 _ _ (e _ _ hx)⟩, sm, q⟩
    refine q_when (b := decide (0 < y.wrong n)) (et_test (ev_op (x := .int ((y.wrong n : Nat) : Int)) (y := .int ((0 : Nat) : Int)) (ev_var rfl) ev_c (rv_lt _ _))) (fun d H4 e4 => ?_) (fun d H4 e4 => ?_)
    · have d := of_decide_eq_true d
      rw [if_pos (by omega)] at k
      refine s_retL (el_cat (el_lst (ea_cons (ev_un ev_c ru_neg) (ea_cons (ev_var rfl) ea_nil)) (by show 2 ≤ 100000; decide)) (told (e3.trans e4) rfl) (by show 7 ≤ 100000; decide)) fun r H5 nr e5 h5 => ?_
      exact k r H5 (fresh_back (e13.trans e4) nr) ((e13.trans e4).trans e5) h5
    · have d := of_decide_eq_false d
      rw [if_neg (by omega)] at k
      refine s_retL (el_cat (el_lst (ea_cons (ev_me5 T (ev_var rfl) (hx.mono (e3.trans e4))) ea_nil) (by show 1 ≤ 100000; decide)) (told (e3.trans e4) rfl) (by show 6 ≤ 100000; decide)) fun r H5 nr e5 h5 => ?_
      exact k r H5 (fresh_back (e13.trans e4) nr) ((e13.trans e4).trans e5) h5

/-! ### what looks at all melts -/
theorem evp_wanted {σ : L2.St} {H : Hp} {tt : TA} {b l : Addr} {y : Sj14.Yard} (hY : HeapAt B H b l y) (hok : Sc.Ok y) (h : EvA tt σ H [.ref b]) :
    EvP (tCall (spWanted B) [] E0 tt) σ H (fun _ v H2 => ∃ (q : Addr) (ms : List Me), v = .ref q ∧ H2 q = some (.lst (ms.map rf)) ∧ (∀ m ∈ ms, MeltAt B H2 m.1 m.2) ∧ ms.map Prod.snd = Sc.wanted y) := fun H1 e Q k =>
  h H1 e _ fun H2 e2 => ⟨b, l, y, rfl, hY.mono (e.trans e2), hok, fun q H3 ms _ e3 hq hm es => k _ H3 (e2.trans e3) ⟨q, ms, rfl, hq, hm, es⟩⟩
/-- some == [] -/
theorem et_none {σ : L2.St} {H : Hp} {ta : TE} {q : Addr} {ms : List Me} (h : Ev ta σ H (.ref q)) (hq : H q = some (.lst (ms.map rf))) : EvT (tTest (tOp rEqE ta (tLst tNil))) σ H ms.isEmpty := fun H1 e Q k =>
  h H1 e _ fun H2 e2 => ⟨Nat.zero_le _, fun p np => ⟨q, p, ms.map rf, rfl, rfl, (e2.trans (Ex.new np)) _ _ (e _ _ hq), upd_same, _, rfl, by
    rw [List.isEmpty_map]
    exact k _ (e2.trans (Ex.new np))⟩⟩
theorem ev_first {σ : L2.St} {H : Hp} {ta : TE} {q : Addr} {m : Me} {r : List Me} (h : Ev ta σ H (.ref q)) (hM : MeltsAt K B H q (m :: r)) : Ev (tOp (rIxL K) ta (tC (.int 0))) σ H (.ref m.1) :=
  ev_op h ev_c (rv_ixL hM.1 (atI_nat (j := 0) rfl))
theorem melts_nil {ms : List Me} {y : Sj14.Yard} (h : ms.isEmpty = true) (es : ms.map Prod.snd = Sc.wanted y) : y.melts = [] := by
  rw [List.isEmpty_iff] at h
  rw [h] at es
  exact wanted_nil es.symm
theorem ms_len {ms : List Me} {y : Sj14.Yard} (h : Sc.Ok y) (es : ms.map Prod.snd = Sc.wanted y) : ms.length ≤ 255 := by
  rw [← List.length_map (f := Prod.snd), es]
  exact wanted_len h
theorem ms_small {ms : List Me} {y : Sj14.Yard} (h : Sc.Ok y) (es : ms.map Prod.snd = Sc.wanted y) : ∀ m ∈ ms, Small m.2 := fun m hm => small_wanted h (by rw [← es]; exact List.mem_map_of_mem hm)
def spLook (B : Ads) (q : Sj14.Call) : Sp := fun vs H Q _ => ∃ (b l : Addr) (y : Sj14.Yard), vs = [.ref b] ∧ HeapAt B H b l y ∧ Sc.Ok y ∧ RetL (intV (ansI (Sj14.step y q).2)) H Q
theorem ne_nil {ms : List Me} (h : ms.isEmpty = false) : ms ≠ [] := fun z => by
  rw [z] at h
  cases h
theorem scCheap : FnScope ["heap", "some", "best"] ["heap"] (defScope sCheap) := ⟨rfl, rfl, rfl, by decide +kernel, rfl, by decide +kernel, by decide +kernel⟩
theorem cheap_none {y : Sj14.Yard} (h : y.melts = []) : (Sj14.step y .cheap).2 = Sj14.ok (-6) := by
  have e : y.cheap = none := by
    rw [Sc.cheap_fold, h]
    rfl
  show (match y.cheap with | none => Sj14.ok (-6) | some x => _) = _
  rw [e]
theorem cheap_some {y : Sj14.Yard} {x : Sj14.Best} (e : y.cheap = some x) : (Sj14.step y .cheap).2 = ⟨((x.price : Nat) : Int), Sj14.ints [x.heavy, x.many, x.set_]⟩ := by
  show (match y.cheap with | none => Sj14.ok (-6) | some x => _) = _
  rw [e]
theorem ok_cheap (T : Txt K mg B) (D : DefG K mg "cheap" sCheap ["heap"]) (G1 : CallG P w K mg base 4 "wanted_melts" ["heap"] (spWanted B)) (G2 : CallG P w K mg base 1 "cheapest_of" ["some"] (spCheapest K B)) :
    CallG P w K mg base 5 "cheap" ["heap"] (spLook B .cheap) := by
  obtain ⟨f, fd, hg, F, b⟩ := D.ex
  refine ⟨f, fd, hg, F.kp, b, F.ok scCheap (fun vs H Q E h => ?_) fun cdv A outer s H vs Q E hr h => ?_⟩
  · obtain ⟨b, l, y, rfl, _⟩ := h
    rfl
  · obtain ⟨b, l, y, rfl, hY, hok, k⟩ := h
    have nd := scCheap.nd
    have hr1 : Room 1 _ := hr.mono (by decide)
    refine ⟨_, pss_cons (ps_set (i := 1) nd rfl (Or.inl rfl) (pe_g G1 hr rfl (pa_cons (pv 0) pa_nil)))
      (pss_cons (ps_if (pt_cmpR (op_eqE hr.units0) (pv 1) (pe_lst pa_nil) (nomark _)) (pss_one (ps_ret (pe_lst (pa_cons (pe_un un_neg pe_int) pa_nil)))) pss_nil)
      (pss_cons (ps_set (i := 2) nd rfl (Or.inl rfl) (pe_g G2 hr1 rfl (pa_cons (pv 1) pa_nil)))
      (pss_one (ps_ret (pe_lst (pa_cons (pe_fld (pe_ix ix_list (pv 2) pe_int (fun _ _ => rfl)) rfl) (pa_cons (pe_fld (pe_ix ix_list (pv 2) pe_int (fun _ _ => rfl)) rfl) (pa_cons (pe_callB call_len_seq (by rfl) T.len PySem.boot_len (pa_cons (pv 2) pa_nil))
        (pa_cons (pe_fld (pe_ix ix_list (pv 2) pe_int (fun _ _ => rfl)) rfl) pa_nil))))))))), ?_⟩
    refine q_asgP (evp_wanted hY hok (ea_cons (ev_var rfl) ea_nil)) fun v H1 e1 ⟨q, ms, ev, hq, hm, es⟩ => ?_
    subst ev
    refine q_when (et_none (ev_var rfl) hq) (fun c H2 e2 => ?_) (fun c H2 e2 => ?_)
    · rw [cheap_none (melts_nil c es)] at k
      exact s_retL (el_lst (ea_cons (ev_un ev_c ru_neg) ea_nil) (by show 1 ≤ 100000; decide)) fun r H3 nr e3 h3 => k r H3 (fresh_back (e1.trans e2) nr) ((e1.trans e2).trans e3) h3
    have hM : MeltsAt K B H2 q ms := ⟨sq_of (e2 _ _ hq), fun m h => (hm m h).mono e2⟩
    have ev : EvP (tCall (spCheapest K B) [] E0 (tCons (tVar 1) tNil)) [some (.ref b), some (.ref q), none] H2 (fun _ v H3 => ∃ (g : Addr) (best : List Me) (least most : Nat), v = .ref g ∧ MeltsAt K B H3 g best ∧ Sc.IsCheapest (ms.map Prod.snd) (best.map Prod.snd) least most) := fun H3 e Q j =>
      ⟨_, rfl, q, ms, rfl, hM.mono e, ne_nil c, ms_len hok es, fun g H4 best least most _ e4 hB _ hC => j _ H4 e4 ⟨g, best, least, most, rfl, hB, hC⟩⟩
    refine q_asgP ev fun v H3 e3 ⟨g, best, least, most, ev, hB, hC⟩ => ?_
    subst ev
    rw [es] at hC
    obtain ⟨m', r', eb, ec⟩ := Sc.cheapest_is hC
    rw [cheap_some ec] at k
    cases best with
    | nil => cases eb
    | cons m r =>
      have em : m.2 = m' := (List.cons.inj eb).1
      subst em
      have hm1 := hB.2 m List.mem_cons_self
      refine s_retL (el_lst (ea_cons (ev_me5 T (ev_first (ev_var rfl) hB) hm1) (ea_cons (ev_me2 T (ev_first (ev_var rfl) hB) hm1) (ea_cons (ev_len (ev_var rfl) hB.1) (ea_cons (ev_me0 T (ev_first (ev_var rfl) hB) hm1) ea_nil)))) (by show 4 ≤ 100000; decide)) fun t H4 nt e4 h4 => ?_
      refine k t H4 (fresh_back ((e1.trans e2).trans e3) nt) (((e1.trans e2).trans e3).trans e4) ?_
      rw [h4, List.length_map]
      show _ = some (HO.lst [.int m.2.cost, .int m.2.heavy, .int (((m :: r).map Prod.snd).length : Nat), .int m.2.number])
      rw [List.length_map]
theorem scMost : FnScope ["heap", "some", "best"] ["heap"] (defScope sMost) := ⟨rfl, rfl, rfl, by decide +kernel, rfl, by decide +kernel, by decide +kernel⟩
theorem most_none {y : Sj14.Yard} (h : y.melts = []) : (Sj14.step y .most).2 = Sj14.ok (-6) := by
  have e : y.most = none := by
    rw [Sc.most_fold, h]
    rfl
  show (match y.most with | none => Sj14.ok (-6) | some x => _) = _
  rw [e]
theorem most_some {y : Sj14.Yard} {x : Nat × Nat} (e : y.most = some x) : (Sj14.step y .most).2 = ⟨((x.1 : Nat) : Int), Sj14.ints [x.2]⟩ := by
  show (match y.most with | none => Sj14.ok (-6) | some x => _) = _
  rw [e]
theorem ok_most (T : Txt K mg B) (D : DefG K mg "most" sMost ["heap"]) (G1 : CallG P w K mg base 4 "wanted_melts" ["heap"] (spWanted B)) (G2 : CallG P w K mg base 1 "fullest_of" ["some"] (spFullest K B)) :
    CallG P w K mg base 5 "most" ["heap"] (spLook B .most) := by
  obtain ⟨f, fd, hg, F, b⟩ := D.ex
  refine ⟨f, fd, hg, F.kp, b, F.ok scMost (fun vs H Q E h => ?_) fun cdv A outer s H vs Q E hr h => ?_⟩
  · obtain ⟨b, l, y, rfl, _⟩ := h
    rfl
  · obtain ⟨b, l, y, rfl, hY, hok, k⟩ := h
    have nd := scMost.nd
    have hr1 : Room 1 _ := hr.mono (by decide)
    refine ⟨_, pss_cons (ps_set (i := 1) nd rfl (Or.inl rfl) (pe_g G1 hr rfl (pa_cons (pv 0) pa_nil)))
      (pss_cons (ps_if (pt_cmpR (op_eqE hr.units0) (pv 1) (pe_lst pa_nil) (nomark _)) (pss_one (ps_ret (pe_lst (pa_cons (pe_un un_neg pe_int) pa_nil)))) pss_nil)
      (pss_cons (ps_set (i := 2) nd rfl (Or.inl rfl) (pe_g G2 hr1 rfl (pa_cons (pv 1) pa_nil)))
      (pss_one (ps_ret (pe_lst (pa_cons (pe_fld (pe_ix ix_list (pv 2) pe_int (fun _ _ => rfl)) rfl) (pa_cons (pe_fld (pe_ix ix_list (pv 2) pe_int (fun _ _ => rfl)) rfl) pa_nil))))))), ?_⟩
    refine q_asgP (evp_wanted hY hok (ea_cons (ev_var rfl) ea_nil)) fun v H1 e1 ⟨q, ms, ev, hq, hm, es⟩ => ?_
    subst ev
    refine q_when (et_none (ev_var rfl) hq) (fun c H2 e2 => ?_) (fun c H2 e2 => ?_)
    · rw [most_none (melts_nil c es)] at k
      exact s_retL (el_lst (ea_cons (ev_un ev_c ru_neg) ea_nil) (by show 1 ≤ 100000; decide)) fun r H3 nr e3 h3 => k r H3 (fresh_back (e1.trans e2) nr) ((e1.trans e2).trans e3) h3
    have hM : MeltsAt K B H2 q ms := ⟨sq_of (e2 _ _ hq), fun m h => (hm m h).mono e2⟩
    have ev : EvP (tCall (spFullest K B) [] E0 (tCons (tVar 1) tNil)) [some (.ref b), some (.ref q), none] H2 (fun _ v H3 => ∃ (g : Addr) (best : List Me) (most : Nat), v = .ref g ∧ MeltsAt K B H3 g best ∧ Sc.IsFullest (ms.map Prod.snd) (best.map Prod.snd) most) := fun H3 e Q j =>
      ⟨_, rfl, q, ms, rfl, hM.mono e, ne_nil c, ms_len hok es, fun g H4 best most _ e4 hB _ hC => j _ H4 e4 ⟨g, best, most, rfl, hB, hC⟩⟩
    refine q_asgP ev fun v H3 e3 ⟨g, best, most, ev, hB, hC⟩ => ?_
    subst ev
    rw [es] at hC
    obtain ⟨m', r', eb, ec⟩ := Sc.fullest_is hC
    rw [most_some ec] at k
    cases best with
    | nil => cases eb
    | cons m r =>
      have em : m.2 = m' := (List.cons.inj eb).1
      subst em
      have hm1 := hB.2 m List.mem_cons_self
      exact s_retL (el_lst (ea_cons (ev_me1 T (ev_first (ev_var rfl) hB) hm1) (ea_cons (ev_me0 T (ev_first (ev_var rfl) hB) hm1) ea_nil)) (by show 2 ≤ 100000; decide)) fun t H4 nt e4 h4 =>
        k t H4 (fresh_back ((e1.trans e2).trans e3) nt) (((e1.trans e2).trans e3).trans e4) h4
def spNear (B : Ads) : Sp := fun vs H Q _ => ∃ (b l : Addr) (y : Sj14.Yard) (t : Nat), vs = [.ref b, .int t] ∧ HeapAt B H b l y ∧ Sc.Ok y ∧ RetL (intV (ansI (Sj14.step y (.near t)).2)) H Q
theorem scNear : FnScope ["heap", "thousandths", "some", "best"] ["heap", "thousandths"] (defScope sNear) := ⟨rfl, rfl, rfl, by decide +kernel, rfl, by decide +kernel, by decide +kernel⟩
theorem near_no {y : Sj14.Yard} {t : Nat} (h : 1000 < t) : (Sj14.step y (.near t)).2 = Sj14.ok (-1) := by
  show (if 1000 < t then (y, Sj14.ok (-1)) else _).2 = _
  rw [if_pos h]
theorem near_none {y : Sj14.Yard} {t : Nat} (ht : ¬ 1000 < t) (h : y.melts = []) : (Sj14.step y (.near t)).2 = Sj14.ok (-6) := by
  have e : y.near t = none := by
    rw [Sc.near_fold, h]
    rfl
  show (if 1000 < t then (y, Sj14.ok (-1)) else (y, match y.near t with | none => Sj14.ok (-6) | some x => _)).2 = _
  rw [if_neg ht, e]
theorem near_some {y : Sj14.Yard} {t : Nat} {x : Sj14.Near} (ht : ¬ 1000 < t) (e : y.near t = some x) : (Sj14.step y (.near t)).2 = ⟨0, Sj14.ints (Sj14.parts x.off x.heavy ++ [x.price, x.many, x.set_])⟩ := by
  show (if 1000 < t then (y, Sj14.ok (-1)) else (y, match y.near t with | none => Sj14.ok (-6) | some x => _)).2 = _
  rw [if_neg ht, e]
theorem ok_near (T : Txt K mg B) (D : DefG K mg "near" sNear ["heap", "thousandths"]) (G1 : CallG P w K mg base 4 "wanted_melts" ["heap"] (spWanted B)) (G2 : CallG P w K mg base 4 "nearest_of" ["some", "thousandths"] (spNearest K B))
    (G3 : CallM P w K mg base 3 B.melt "away" ["self", "thousandths"] (spAway B)) : CallG P w K mg base 5 "near" ["heap", "thousandths"] (spNear B) := by
  obtain ⟨f, fd, hg, F, b⟩ := D.ex
  obtain ⟨t1, g1⟩ := T.thousand
  refine ⟨f, fd, hg, F.kp, b, F.ok scNear (fun vs H Q E h => ?_) fun cdv A outer s H vs Q E hr h => ?_⟩
  · obtain ⟨b, l, y, t, rfl, _⟩ := h
    rfl
  · obtain ⟨b, l, y, t, rfl, hY, hok, k⟩ := h
    have nd := scNear.nd
    have hr3 : Room 3 _ := hr.mono (by decide)
    refine ⟨_, pss_cons (ps_if (pt_cmpR op_gt (pv 1) (pe_glob (v := .int 1000) rfl g1 ⟨_, rfl⟩) (nomark _)) (pss_one (ps_ret (pe_lst (pa_cons (pe_un un_neg pe_int) pa_nil)))) pss_nil)
      (pss_cons (ps_set (i := 2) nd rfl (Or.inl rfl) (pe_g G1 hr rfl (pa_cons (pv 0) pa_nil)))
      (pss_cons (ps_if (pt_cmpR (op_eqE hr.units0) (pv 2) (pe_lst pa_nil) (nomark _)) (pss_one (ps_ret (pe_lst (pa_cons (pe_un un_neg pe_int) pa_nil)))) pss_nil)
      (pss_cons (ps_set (i := 3) nd rfl (Or.inl rfl) (pe_g G2 hr rfl (pa_cons (pv 2) (pa_cons (pv 1) pa_nil))))
      (pss_one (ps_ret (pe_op op_cat (pe_op op_cat (pe_lst (pa_cons pe_int pa_nil)) (pe_callTy call_list_of (by rfl) T.list boot_list (pa_cons (pe_m G3 hr3 T.cM (pe_ix ix_list (pv 3) pe_int (fun _ _ => rfl)) (pa_cons (pv 1) pa_nil)) pa_nil)))
        (pe_lst (pa_cons (pe_fld (pe_ix ix_list (pv 3) pe_int (fun _ _ => rfl)) rfl) (pa_cons (pe_callB call_len_seq (by rfl) T.len PySem.boot_len (pa_cons (pv 3) pa_nil)) (pa_cons (pe_fld (pe_ix ix_list (pv 3) pe_int (fun _ _ => rfl)) rfl) pa_nil)))))))))), ?_⟩
    refine q_when (b := decide (1000 < t)) (et_test (ev_op (x := .int t) (y := .int ((1000 : Nat) : Int)) (ev_var rfl) ev_c (rv_lt _ _))) (fun c H1 e1 => ?_) (fun c H1 e1 => ?_)
    · rw [near_no (of_decide_eq_true c)] at k
      exact s_retL (el_lst (ea_cons (ev_un ev_c ru_neg) ea_nil) (by show 1 ≤ 100000; decide)) fun r H2 nr e2 h2 => k r H2 (fresh_back e1 nr) (e1.trans e2) h2
    have ht := of_decide_eq_false c
    refine q_asgP (evp_wanted (hY.mono e1) hok (ea_cons (ev_var rfl) ea_nil)) fun v H2 e2 ⟨q, ms, ev, hq, hm, es⟩ => ?_
    subst ev
    have f2 := e1.trans e2
    refine q_when (et_none (ev_var rfl) hq) (fun c H3 e3 => ?_) (fun c H3 e3 => ?_)
    · rw [near_none ht (melts_nil c es)] at k
      exact s_retL (el_lst (ea_cons (ev_un ev_c ru_neg) ea_nil) (by show 1 ≤ 100000; decide)) fun r H4 nr e4 h4 => k r H4 (fresh_back (f2.trans e3) nr) ((f2.trans e3).trans e4) h4
    have hM : MeltsAt K B H3 q ms := ⟨sq_of (e3 _ _ hq), fun m h => (hm m h).mono e3⟩
    have ev : EvP (tCall (spNearest K B) [] E0 (tCons (tVar 2) (tCons (tVar 1) tNil))) [some (.ref b), some (.int t), some (.ref q), none] H3
        (fun _ v H4 => ∃ (g : Addr) (best : List Me) (fr : Nat × Nat) (least : Nat), v = .ref g ∧ MeltsAt K B H4 g best ∧ (∀ m ∈ best, Small m.2) ∧ Sc.IsNearest t (ms.map Prod.snd) (best.map Prod.snd) fr least) := fun H4 e Q j =>
      ⟨_, rfl, _, rfl, q, ms, t, rfl, hM.mono e, ne_nil c, ms_len hok es, ms_small hok es, by omega, fun g H5 best fr least _ e5 hB hsub hC => j _ H5 e5 ⟨g, best, fr, least, rfl, hB, fun m h => ms_small hok es m (hsub m h), hC⟩⟩
    refine q_asgP ev fun v H4 e4 ⟨g, best, fr, least, ev, hB, hS, hC⟩ => ?_
    subst ev
    rw [es] at hC
    obtain ⟨m', r', eb, ec⟩ := Sc.nearest_is hC
    rw [near_some ht ec] at k
    cases best with
    | nil => cases eb
    | cons m r =>
      have em : m.2 = m' := (List.cons.inj eb).1
      subst em
      have hm1 := hB.2 m List.mem_cons_self
      refine s_retL (el_cat (el_cat (el_lst (ea_cons ev_c ea_nil) (by show 1 ≤ 100000; decide)) (el_listU (eu_away (ev_first (ev_var rfl) hB) hm1 (hS m List.mem_cons_self) (by omega) (ea_cons (ev_var rfl) ea_nil))) (by show 3 ≤ 100000; decide))
        (el_lst (ea_cons (ev_me5 T (ev_first (ev_var rfl) hB) hm1) (ea_cons (ev_len (ev_var rfl) hB.1) (ea_cons (ev_me0 T (ev_first (ev_var rfl) hB) hm1) ea_nil))) (by show 3 ≤ 100000; decide)) (by show 6 ≤ 100000; decide)) fun z H5 nz e5 h5 => ?_
      refine k z H5 (fresh_back ((f2.trans e3).trans e4) nz) (((f2.trans e3).trans e4).trans e5) ?_
      rw [h5, List.length_map]
      show _ = some (HO.lst [.int 0, .int ((Sc.frac t m.2).1 : Nat), .int ((Sc.frac t m.2).2 : Nat), .int m.2.cost, .int (((m :: r).map Prod.snd).length : Nat), .int m.2.number])
      rw [List.length_map]
      rfl
end
end Scw
/-! # answer -/
namespace Scw
open PySem PySem.Spec PyProof.Rows L2 Evl
section
variable {P : Program} {w : World} {K : PySem.W.Frag} {mg : Str → Option Value} {base : Heap} {B : Ads}
theorem RetA.mono {H0 H H' : Hp} {a : Addr} {r : Sj14.Yard × Sj14.Ans} {Q : VK} (h : RetA B H0 H a r Q) (e : Ex H H') : RetA B H0 H' a r Q := fun q H2 nq => h q H2 (fresh_back e nq)
/-- what changes nothing -/
theorem RetA.same {H0 H H' : Hp} {a : Addr} {y : Sj14.Yard} {r : Sj14.Yard × Sj14.Ans} {Q : VK} (h : RetA B H0 H a r Q) (hO : Own B H0 H a y) (ey : r.1 = y) (e : Ex H H') : RetL (intV (ansI r.2)) H' Q := fun q H2 nq e2 hq => h q H2 (fresh_back e nq) (by rw [ey]; exact hO.mono (e.trans e2)) hq
theorem yard_same_check (y : Sj14.Yard) (s : Nat) : (Sj14.step y (.check s)).1 = y := by
  show (if s < 1 ∨ 2 ^ y.count ≤ s then (y, Sj14.ok (-1)) else (y, _)).1 = y
  split <;> rfl
theorem yard_same_near (y : Sj14.Yard) (k : Nat) : (Sj14.step y (.near k)).1 = y := by
  show (if 1000 < k then (y, Sj14.ok (-1)) else (y, _)).1 = y
  split <;> rfl
def spAnswer (K : PySem.W.Frag) (B : Ads) : Sp := fun vs H Q _ => ∃ (a t : Addr) (H0 : Hp) (y : Sj14.Yard) (p : Int) (as : List Int) (q : Sj14.Call), vs = [.ref a, .int p, .ref t] ∧ Own B H0 H a y ∧ SqL K H t (intV as) ∧ Sc.CallIs p as q ∧ Sc.Ok y ∧ RetA B H0 H a (Sj14.step y q) Q
theorem scAnswer : FnScope ["holder", "call", "told", "heap"] ["holder", "call", "told"] (defScope sAnswer) := ⟨rfl, rfl, rfl, by decide +kernel, rfl, by decide +kernel, by decide +kernel⟩
theorem ok_answer (T : Txt K mg B) (D : DefG K mg "answer" sAnswer ["holder", "call", "told"]) (G0 : CallG P w K mg base 3 "begins" ["holder", "told"] (spBegins K B)) (G1 : CallG P w K mg base 3 "crate" ["heap", "told"] (spCrate K B))
    (G2 : CallG P w K mg base 4 "check" ["heap", "number"] (spCheck B)) (G3 : CallG P w K mg base 5 "cheap" ["heap"] (spLook B .cheap)) (G4 : CallG P w K mg base 5 "near" ["heap", "thousandths"] (spNear B)) (G5 : CallG P w K mg base 5 "most" ["heap"] (spLook B .most)) :
    CallG P w K mg base 6 "answer" ["holder", "call", "told"] (spAnswer K B) := by
  obtain ⟨f, fd, hg, F, b⟩ := D.ex
  refine ⟨f, fd, hg, F.kp, b, F.ok scAnswer (fun vs H Q E h => ?_) fun cdv A outer s H vs Q E hr h => ?_⟩
  · obtain ⟨a, t, H0, y, p, as, q, rfl, _⟩ := h
    rfl
  · obtain ⟨a, t, H0, y, p, as, q, rfl, hO, hT, hq, hok, k⟩ := h
    have nd := scAnswer.nd
    have hr3 : Room 3 _ := hr.mono (by decide)
    have hr4 : Room 4 _ := hr.mono (by decide)
    refine ⟨_, pss_cons (ps_set (i := 3) nd rfl (Or.inl rfl) (pe_fld (pv 0) rfl))
      (pss_cons (ps_if (pt_cmpR op_eq (pv 1) pe_int (nomark _)) (pss_one (ps_ret (pe_g G0 hr3 rfl (pa_cons (pv 0) (pa_cons (pv 2) pa_nil))))) pss_nil)
      (pss_cons (ps_if (pt_cmpR op_eq (pv 1) pe_int (nomark _)) (pss_one (ps_ret (pe_g G1 hr3 rfl (pa_cons (pv 3) (pa_cons (pv 2) pa_nil))))) pss_nil)
      (pss_cons (ps_if (pt_cmpR op_eq (pv 1) pe_int (nomark _)) (pss_one (ps_ret (pe_g G2 hr4 rfl (pa_cons (pv 3) (pa_cons (pe_ix ix_list (pv 2) pe_int (fun _ _ => rfl)) pa_nil))))) pss_nil)
      (pss_cons (ps_if (pt_cmpR op_eq (pv 1) pe_int (nomark _)) (pss_one (ps_ret (pe_g G3 hr rfl (pa_cons (pv 3) pa_nil)))) pss_nil)
      (pss_cons (ps_if (pt_cmpR op_eq (pv 1) pe_int (nomark _)) (pss_one (ps_ret (pe_g G4 hr rfl (pa_cons (pv 3) (pa_cons (pe_ix ix_list (pv 2) pe_int (fun _ _ => rfl)) pa_nil))))) pss_nil)
      (pss_one (ps_ret (pe_g G5 hr rfl (pa_cons (pv 3) pa_nil))))))))), ?_⟩
    obtain ⟨dx, b, l, ha, nl, hY⟩ := hO.ex
    refine q_asg (v := .ref b) (ev_fld (ev_var rfl) ha T.cO T.nO (hoF0 b)) fun H1 e1 => ?_
    cases hq with
    | begins w =>
      refine q_when (b := true) (et_is (et_test (ev_op (ev_var rfl) ev_c (rv_eq rfl))) (by decide)) (fun _ H2 e2 => ?_) (fun c => by cases c)
      exact ⟨_, rfl, _, rfl, a, t, H0, y, w, rfl, hO.mono (e1.trans e2), ex_l (e1.trans e2) hT, k.mono (e1.trans e2)⟩
    | crate c =>
      refine q_when (b := false) (et_is (et_test (ev_op (ev_var rfl) ev_c (rv_eq rfl))) (by decide)) (fun c => by cases c) (fun _ H2 e2 => ?_)
      refine q_when (b := true) (et_is (et_test (ev_op (ev_var rfl) ev_c (rv_eq rfl))) (by decide)) (fun _ H3 e3 => ?_) (fun c => by cases c)
      have f := (e1.trans e2).trans e3
      refine ⟨_, rfl, _, rfl, b, l, t, H0, y, c, rfl, hY.mono f, hO.ext.trans f, nl, ex_l f hT, hok, fun q H4 nq e4 kp hY4 hq4 => k q H4 (fresh_back f nq) ⟨e4, hO.na, dx, b, l, kp a _ (f _ _ ha) ?_, nl, hY4⟩ hq4⟩
      obtain ⟨_, _, _, _, _, hl, _⟩ := hY.ex
      exact ne_of ha hl (by intro z; cases z)
    | check n =>
      refine q_when (b := false) (et_is (et_test (ev_op (ev_var rfl) ev_c (rv_eq rfl))) (by decide)) (fun c => by cases c) (fun _ H2 e2 => ?_)
      refine q_when (b := false) (et_is (et_test (ev_op (ev_var rfl) ev_c (rv_eq rfl))) (by decide)) (fun c => by cases c) (fun _ H3 e3 => ?_)
      refine q_when (b := true) (et_is (et_test (ev_op (ev_var rfl) ev_c (rv_eq rfl))) (by decide)) (fun _ H4 e4 => ?_) (fun c => by cases c)
      have f := ((e1.trans e2).trans e3).trans e4
      refine ⟨_, rfl, _, rfl, t, _, _, .int n, rfl, rfl, ex_l f hT, atI_nat (j := 0) rfl, b, l, y, n, rfl, hY.mono f, hok, k.same hO (yard_same_check y n) f⟩
    | cheap =>
      refine q_when (b := false) (et_is (et_test (ev_op (ev_var rfl) ev_c (rv_eq rfl))) (by decide)) (fun c => by cases c) (fun _ H2 e2 => ?_)
      refine q_when (b := false) (et_is (et_test (ev_op (ev_var rfl) ev_c (rv_eq rfl))) (by decide)) (fun c => by cases c) (fun _ H3 e3 => ?_)
      refine q_when (b := false) (et_is (et_test (ev_op (ev_var rfl) ev_c (rv_eq rfl))) (by decide)) (fun c => by cases c) (fun _ H4 e4 => ?_)
      refine q_when (b := true) (et_is (et_test (ev_op (ev_var rfl) ev_c (rv_eq rfl))) (by decide)) (fun _ H5 e5 => ?_) (fun c => by cases c)
      have f := (((e1.trans e2).trans e3).trans e4).trans e5
      exact ⟨_, rfl, b, l, y, rfl, hY.mono f, hok, k.same hO rfl f⟩
    | near n =>
      refine q_when (b := false) (et_is (et_test (ev_op (ev_var rfl) ev_c (rv_eq rfl))) (by decide)) (fun c => by cases c) (fun _ H2 e2 => ?_)
      refine q_when (b := false) (et_is (et_test (ev_op (ev_var rfl) ev_c (rv_eq rfl))) (by decide)) (fun c => by cases c) (fun _ H3 e3 => ?_)
      refine q_when (b := false) (et_is (et_test (ev_op (ev_var rfl) ev_c (rv_eq rfl))) (by decide)) (fun c => by cases c) (fun _ H4 e4 => ?_)
      refine q_when (b := false) (et_is (et_test (ev_op (ev_var rfl) ev_c (rv_eq rfl))) (by decide)) (fun c => by cases c) (fun _ H5 e5 => ?_)
      refine q_when (b := true) (et_is (et_test (ev_op (ev_var rfl) ev_c (rv_eq rfl))) (by decide)) (fun _ H6 e6 => ?_) (fun c => by cases c)
      have f := ((((e1.trans e2).trans e3).trans e4).trans e5).trans e6
      exact ⟨_, rfl, _, rfl, t, _, _, .int n, rfl, rfl, ex_l f hT, atI_nat (j := 0) rfl, b, l, y, n, rfl, hY.mono f, hok, k.same hO (yard_same_near y n) f⟩
    | most =>
      refine q_when (b := false) (et_is (et_test (ev_op (ev_var rfl) ev_c (rv_eq rfl))) (by decide)) (fun c => by cases c) (fun _ H2 e2 => ?_)
      refine q_when (b := false) (et_is (et_test (ev_op (ev_var rfl) ev_c (rv_eq rfl))) (by decide)) (fun c => by cases c) (fun _ H3 e3 => ?_)
      refine q_when (b := false) (et_is (et_test (ev_op (ev_var rfl) ev_c (rv_eq rfl))) (by decide)) (fun c => by cases c) (fun _ H4 e4 => ?_)
      refine q_when (b := false) (et_is (et_test (ev_op (ev_var rfl) ev_c (rv_eq rfl))) (by decide)) (fun c => by cases c) (fun _ H5 e5 => ?_)
      refine q_when (b := false) (et_is (et_test (ev_op (ev_var rfl) ev_c (rv_eq rfl))) (by decide)) (fun c => by cases c) (fun _ H6 e6 => ?_)
      have f := ((((e1.trans e2).trans e3).trans e4).trans e5).trans e6
      exact ⟨_, rfl, b, l, y, rfl, hY.mono f, hok, k.same hO rfl f⟩
end
end Scw
/-! # answers -/
namespace Scw
open PySem PySem.Spec PyProof.Rows L2 Evl
section
variable {P : Program} {w : World} {K : PySem.W.Frag} {mg : Str → Option Value} {base : Heap} {B : Ads}
theorem HeapAt.other {H : Hp} {b l g : Addr} {y : Sj14.Yard} {xs ys : List V} (h : HeapAt B H b l y) (hg : H g = some (.lst xs)) (ne : l ≠ g) : HeapAt B (upd H g (.lst ys)) b l y := by
  obtain ⟨dx, a, ps, h1, ⟨dw, p, q, r, h2, h3, h4, h5⟩, h6, h7, h8⟩ := h.ex
  have ni : ∀ {z C d : Addr} {fs : List (Str × V)}, H z = some (.ins C d fs) → upd H g (.lst ys) z = some (.ins C d fs) := fun hz => by
    rw [upd_ne (ne_of hz hg (by intro z; cases z))]
    exact hz
  have nt : ∀ {z : Addr} {u : List V}, H z = some (.tup u) → upd H g (.lst ys) z = some (.tup u) := fun hz => by
    rw [upd_ne (ne_of hz hg (by intro z; cases z))]
    exact hz
  refine ⟨dx, a, ps, ni h1, ⟨dw, p, q, r, ni h2, nt h3, nt h4, nt h5⟩, ?_, fun z hz => ?_, h8⟩
  · rw [upd_ne ne]
    exact h6
  · obtain ⟨d, k⟩ := h7 z hz
    exact ⟨d, ni k⟩
theorem upd_free {H0 : Hp} {g a : Addr} {o : HO} (h : upd H0 g o a = none) : a ≠ g ∧ H0 a = none := by
  have ne : a ≠ g := fun z => by
    rw [z, upd_same] at h
    cases h
  rw [upd_ne ne] at h
  exact ⟨ne, h⟩
/-- the list of what is told grows, the yard stands -/
theorem Own.told {H0 H : Hp} {a g : Addr} {y : Sj14.Yard} {xs ys : List V} (h : Own B (upd H0 g (.lst xs)) H a y) : Own B (upd H0 g (.lst ys)) (upd H g (.lst ys)) a y := by
  have hg : H g = some (.lst xs) := h.ext _ _ upd_same
  obtain ⟨ne, na⟩ := upd_free h.na
  obtain ⟨dx, b, l, h1, h2, h3⟩ := h.ex
  obtain ⟨nl, l0⟩ := upd_free h2
  refine ⟨fun c o hc => ?_, by rw [upd_ne ne]; exact na, dx, b, l, by rw [upd_ne ne]; exact h1, by rw [upd_ne nl]; exact l0, h3.other hg nl⟩
  by_cases e : c = g
  · rw [e, upd_same] at hc ⊢
    exact hc
  · rw [upd_ne e] at hc ⊢
    exact h.ext c o (by rw [upd_ne e]; exact hc)
theorem cut_part {ns as r : List Int} {p : Int} {i n : Nat} (h : ns.drop i = p :: (as ++ r)) (hn : as.length = n) : cutV (intV ns) (some ((i + 1 : Nat) : Int)) (some ((i + 1 + n : Nat) : Int)) = intV as := by
  have hl : (ns.drop i).length = 1 + (as.length + r.length) := by
    rw [h, List.length_cons, List.length_append]
    omega
  rw [List.length_drop] at hl
  unfold cutV
  rw [HT.sIx_nat, HT.sIx_nat, List.length_map, Nat.min_eq_left (by omega), Nat.min_eq_left (by omega), ← List.map_drop, ← List.map_take, ← List.drop_drop, h]
  have e : i + 1 + n - (i + 1) = as.length := by omega
  rw [e]
  show intV ((as ++ r).take as.length) = intV as
  rw [List.take_left']
  rfl
theorem numbers_at {p : Int} {as : List Int} {q : Sj14.Call} (h : Sc.CallIs p as q) : atI ([.int 6, .int 4, .int 1, .int 0, .int 1, .int 0] : List V) p = some (.int ((as.length : Nat) : Int)) := by
  cases h
  · exact atI_nat (j := 0) rfl
  · exact atI_nat (j := 1) rfl
  · exact atI_nat (j := 2) rfl
  · exact atI_nat (j := 3) rfl
  · exact atI_nat (j := 4) rfl
  · exact atI_nat (j := 5) rfl
def spAnswers (K : PySem.W.Frag) : Sp := fun vs H Q _ => ∃ (a : Addr) (ns : List Int), vs = [.ref a] ∧ SqL K H a (intV ns) ∧ ns.length ≤ 30000 ∧ PySj14.answers_asked ns = true ∧ ∀ (H' : Hp) (p : Addr), H' p = some (.lst (intV (PySj14.answers ns))) → Q (.ref p) H'
theorem scAnswers : FnScope ["calls", "holder", "found", "at", "call", "told", "own"] ["calls"] (defScope sAnswers) := ⟨rfl, rfl, rfl, by decide +kernel, rfl, by decide +kernel, by decide +kernel⟩
theorem ok_answers (T : Txt K mg B) {f : Addr} {fd : FuncData} (F : Fun K "answers" "answers" sAnswers f fd) (G0 : CallC P w K mg base 3 B.holder "Holder" ["self"] (spHolderInit B)) (G1 : CallG P w K mg base 6 "answer" ["holder", "call", "told"] (spAnswer K B)) :
    FnOk P w K mg base CX0 7 f fd ["calls"] (spAnswers K) := by
  obtain ⟨fh, fdh, hgh, Mh, bh, Fh⟩ := G0.ex
  obtain ⟨aN, gN, tN⟩ := T.numbers
  refine F.ok scAnswers (fun vs H Q E h => ?_) fun cdv A outer s H vs Q E hr h => ?_
  · obtain ⟨a, ns, rfl, _⟩ := h
    rfl
  · obtain ⟨a, ns, rfl, hS, hlen, hask, k⟩ := h
    have nd := scAnswers.nd
    have hr4 : Room 4 _ := hr.mono (by decide)
    refine ⟨_, pss_cons (ps_set (i := 1) nd rfl (Or.inl rfl) (pe_make0 Mh Fh hr4 rfl hgh bh .nil pass0))
      (pss_cons (ps_set (i := 2) nd rfl (Or.inl rfl) (pe_lst pa_nil))
      (pss_cons (ps_set (i := 3) nd rfl (Or.inl rfl) pe_int)
      (pss_cons (ps_while PassesOwn.never (pt_cmpR op_lt (pv 3) (pe_callB call_len_seq (by rfl) T.len PySem.boot_len (pa_cons (pv 0) pa_nil)) (nomark _))
        (pss_cons (ps_set (i := 4) nd rfl (Or.inl rfl) (pe_ix ix_list (pv 0) (pv 3) (fun _ _ => rfl)))
        (pss_cons (ps_set (i := 5) nd rfl (Or.inl rfl) (pe_slice sl_list (pv 0) (po_some (pe_op op_add (pv 3) pe_int)) (po_some (pe_op op_add (pe_op op_add (pv 3) pe_int) (pe_ix ix_tup (pe_glob (v := .ref aN) rfl gN rfl) (pv 4) (fun _ _ => rfl))))))
        (pss_cons (ps_set (i := 3) nd rfl (Or.inl rfl) (pe_op op_add (pe_op op_add (pv 3) pe_int) (pe_ix ix_tup (pe_glob (v := .ref aN) rfl gN rfl) (pv 4) (fun _ _ => rfl))))
        (pss_cons (ps_set (i := 6) nd rfl (Or.inl rfl) (pe_g G1 hr rfl (pa_cons (pv 1) (pa_cons (pv 4) (pa_cons (pv 5) pa_nil)))))
        (pss_cons (ps_expr (pe_bm PySem.F.plainAttrs_list PySem.F.slot_list_append PySem.F.type_list_append mt_append (pv 2) (pa_cons (pe_callB call_len_seq (by rfl) T.len PySem.boot_len (pa_cons (pv 6) pa_nil)) pa_nil)))
        (pss_one (ps_expr (pe_bm PySem.F.plainAttrs_list PySem.F.slot_list_extend PySem.F.type_list_extend mt_extend (pv 2) (pa_cons (pv 6) pa_nil))))))))))
      (pss_one (ps_ret (pv 2)))))), ?_⟩
    intro h dh nh ndh neh
    refine ⟨h, dh, H, rfl, ex_made nh ndh, nh, upd_same, fun H1 hO1 => ⟨rfl, ?_⟩⟩
    refine q_asgL (xs := []) (el_lst ea_nil (Nat.zero_le _)) fun g H2 ng e2 hg2 => q_asg (v := .int 0) ev_c fun H3 e3 => ?_
    obtain ⟨hD, hFin⟩ := Sc.due_all hask
    have hO3 := hO1.mono (e2.trans e3)
    have g0 : H g = none := fresh_back hO1.ext ng
    have hO : Own B (upd H g (.lst (intV []))) H3 h Sj14.init := by
      obtain ⟨dx, b', l, k1, k2, k3⟩ := hO3.ex
      have hg3 := e3 _ _ hg2
      have nl : l ≠ g := fun z => by
        obtain ⟨dx', b1, l1, m1, m2, m3⟩ := hO1.ex
        obtain ⟨_, _, _, _, _, m6, _⟩ := m3.ex
        have q1 := (e2.trans e3) _ _ m1
        rw [k1] at q1
        have q2 : holderF b' = holderF b1 := by
          cases q1
          rfl
        have q3 : b' = b1 := by
          cases q2
          rfl
        obtain ⟨dh1, a1, ps1, z1, _⟩ := m3.ex
        obtain ⟨dh2, a2, ps2, z2, _⟩ := k3.ex
        have z3 := (e2.trans e3) _ _ z1
        rw [← q3, z2] at z3
        have z4 : l = l1 := by
          cases z3
          rfl
        rw [← z4, z, ng] at m6
        cases m6
      refine ⟨fun c o hc => ?_, by rw [upd_ne (fun z => by rw [z] at k1; rw [hg3] at k1; cases k1)]; exact hO1.na, dx, b', l, k1, by rw [upd_ne nl]; exact k2, k3⟩
      by_cases e : c = g
      · rw [e, upd_same] at hc
        rw [e, hg3]
        exact hc
      · rw [upd_ne e] at hc
        exact hO3.ext c o hc
    have cH : ∀ {out : List Int} {H' : Hp}, Ex (upd H g (.lst (intV out))) H' → Ex H H' := fun e => (Ex.new g0).trans e
    refine q_while (fun m σ' H' => ∃ (i : Nat) (v4 v5 v6 : Option V) (out fin : List Int) (y : Sj14.Yard), σ' = [some (.ref a), some (.ref h), some (.ref g), some (.int i), v4, v5, v6] ∧ i ≤ ns.length ∧ m = ns.length - i ∧
      Own B (upd H g (.lst (intV out))) H' h y ∧ Sc.Ok y ∧ Sc.Due y (ns.drop i) fin ∧ out ++ fin = PySj14.answers ns) ns.length ⟨0, none, none, none, [], _, _, rfl, Nat.zero_le _, rfl, hO, Sc.ok_init, hD, rfl⟩ ?_
    rintro m σ' H' ⟨i, v4, v5, v6, out, fin, y, rfl, hi, rfl, hO, hok, hD, hF⟩
    have hS' : SqL K H' a (intV ns) := ex_l (cH hO.ext) hS
    have rlen : Ev (tCB (rLenS K) (tCons (tVar 0) tNil)) [some (.ref a), some (.ref h), some (.ref g), some (.int i), v4, v5, v6] H' (.int ((ns.length : Nat) : Int)) := by
      refine ev_is (ev_len (ev_var rfl) hS') ?_
      rw [List.length_map]
    have lt : V.bl (decide ((i : Int) < ((ns.length : Nat) : Int))) = V.bl (decide (i < ns.length)) := congrArg V.bl (decide_eq_decide.mpr Int.ofNat_lt)
    refine ⟨decide (i < ns.length), et_test (ev_is (ev_op (ev_var rfl) rlen rv_I0) lt), fun c H4 e4 => ?_, fun c H4 e4 => ?_⟩
    · have c := of_decide_eq_true c
      refine ⟨_, fun σ2 H5 z => z, ?_⟩
      obtain ⟨p, as, rest, q, fin', er, hq, ef, hD'⟩ := Sc.due_step hD (fun z => by have := congrArg List.length z; rw [List.length_drop] at this; simp at this; omega)
      have hp : ns[i]? = some p := by
        have := congrArg (fun l => l[0]?) er
        simpa using this
      have hl : i + 1 + as.length ≤ ns.length := by
        have := congrArg List.length er
        rw [List.length_drop, List.length_cons, List.length_append] at this
        omega
      have hd : ns.drop (i + 1 + as.length) = rest := by
        rw [← List.drop_drop, ← List.drop_drop, er]
        show (as ++ rest).drop as.length = rest
        rw [List.drop_left']
        rfl
      refine q_asg (v := .int p) (ev_op (ev_var rfl) (ev_var rfl) (rv_ixL (ex_l e4 hS') (atI_nat (j := i) (by rw [List.getElem?_map, hp]; rfl)))) fun H5 e5 => ?_
      have e45 := e4.trans e5
      have nx : ∀ {σ : L2.St} {H6 : Hp}, σ[3]? = some (some (.int (i : Nat))) → σ[4]? = some (some (.int p)) → Ev (tOp (rI0 fun i j => .int (i + j)) (tOp (rI0 fun i j => .int (i + j)) (tVar 3) (tC (.int 1))) (tOp (rIxT K) (tC (.ref aN)) (tVar 4))) σ H6 (.int ((i + 1 + as.length : Nat) : Int)) := fun {σ H6} h3 h4 => by
        refine ev_is (ev_op (ev_op (ev_var h3) ev_c rv_I0) (ev_op ev_c (ev_var h4) (rv_ixT (tN H6) (numbers_at hq))) rv_I0) ?_
        exact congrArg V.int (by omega)
      refine q_asgL (xs := intV as) (by
        rw [← cut_part er rfl]
        exact el_sl (ev_var rfl) (eo_some (ev_is (ev_op (ev_var rfl) ev_c rv_I0) (congrArg V.int (by omega)))) (eo_some (nx rfl rfl)) (ex_l e45 hS')) fun t H6 nt e6 ht => ?_
      refine q_asg (nx rfl rfl) fun H7 e7 => ?_
      have f7 := (e45.trans e6).trans e7
      refine ⟨_, rfl, _, rfl, _, rfl, h, t, upd H g (.lst (intV out)), y, p, as, q, rfl, hO.mono f7, sq_of (e7 _ _ ht), hq, hok, fun r H8 nr hO8 hr8 => ?_⟩
      have hg8 : H8 g = some (.lst (intV out)) := hO8.ext _ _ upd_same
      have rg : r ≠ g := fun z => by
        have := f7 _ _ (hO.ext _ _ upd_same)
        rw [z, this] at nr
        cases nr
      have ol : out.length + fin.length ≤ 10000000 := by
        rw [← List.length_append, hF]
        exact hFin
      have fl : fin.length = (ansI (Sj14.step y q).2).length + 1 + fin'.length := by
        rw [ef, List.length_append, List.length_cons]
      have szl : ∀ {n : Nat}, n ≤ 10000000 → n < sizeLine := fun h => Nat.lt_of_le_of_lt h (by decide)
      refine ⟨_, rfl, .inl ⟨rfl, _, sq_of hg8⟩, _, rfl, r, _, rfl, .inl (sq_of hr8), g, _, _, rfl, rfl, hg8, by rw [List.length_map]; exact szl (by omega), ?_⟩
      refine ⟨_, rfl, .inl ⟨rfl, _, sq_of upd_same⟩, _, rfl, g, r, _, _, rfl, rfl, upd_same, by rw [upd_ne rg]; exact hr8, ?_, ?_⟩
      · rw [List.length_append, List.length_map, List.length_map]
        exact Nat.le_of_lt (szl (by show out.length + 1 + (ansI (Sj14.step y q).2).length ≤ 10000000; omega))
      · have eo : intV out ++ [.int (((intV (ansI (Sj14.step y q).2)).length : Nat) : Int)] ++ intV (ansI (Sj14.step y q).2) = intV (out ++ ((((ansI (Sj14.step y q).2).length : Nat) : Int) :: ansI (Sj14.step y q).2)) := by
          rw [List.length_map, List.append_assoc]
          show _ = (out ++ ((((ansI (Sj14.step y q).2).length : Nat) : Int) :: ansI (Sj14.step y q).2)).map V.int
          rw [List.map_append]
          rfl
        refine ⟨ns.length - (i + 1 + as.length), by omega, i + 1 + as.length, _, _, _, out ++ ((((ansI (Sj14.step y q).2).length : Nat) : Int) :: ansI (Sj14.step y q).2), fin', (Sj14.step y q).1, rfl, hl, rfl, ?_, Sc.step_ok hok q, by rw [hd]; exact hD', ?_⟩
        · have o1 := hO8.told (ys := intV (out ++ ((((ansI (Sj14.step y q).2).length : Nat) : Int) :: ansI (Sj14.step y q).2)))
          rw [upd_upd, eo]
          exact o1
        · rw [List.append_assoc, ← ef]
          exact hF
    · have c := of_decide_eq_false c
      have z : ns.drop i = [] := List.drop_eq_nil_of_le (by omega)
      rw [z] at hD
      rw [Sc.due_nil hD, List.append_nil] at hF
      subst hF
      exact s_ret (ev_var rfl) fun H5 e5 => k H5 g (e5 _ _ (e4 _ _ (hO.ext _ _ upd_same)))
end
end Scw
/-! # The end: what the top has written, and the row (printed by gen_end.py) -/
namespace Scw
open PySem PySem.Spec PyProof.Rows L2 Evl
open PySem.W (Codec)
/-- the def st stands at f -/
structure FnAt (K : PySem.W.Frag) (x qual : Str) (st : Stmt) (f : Addr) : Prop where
  ex : ∃ (oc : Value) (od : Option Addr) (kV doc pm : Value) (an : Option Addr) (cdv ct : Value) (osl : Array (Option Value)),
    K.lookup f = some ⟨oc, od, .func (PySem.W.fnOf x qual (defArgs st) (defBody st) (defScope st) .none kV doc pm an cdv ct), osl⟩ ∧ PySem.W.codeIn K cdv qual = true ∧ PySem.W.keepIn K (.ref f) = true
structure ClsAt (K : PySem.W.Frag) (C : Addr) : Prop where
  pg : PySem.W.plainGet K C Str.empty = true
  hd : PySem.W.hasDictIn K C = true
  po : PySem.W.plainOver K C = true
  sa : PySem.W.findIn K (.ref C) "__setattr__" = some (some (.builtin "object.__setattr__"))
  mks : PySem.W.makesIn K C = true
  kc : PySem.W.keepIn K (.ref C) = true
theorem ClsAt.cls {K : PySem.W.Frag} {C : Addr} (h : ClsAt K C) : Cls K C := ⟨h.pg, h.hd, h.po, h.sa⟩
structure NumAt (K : PySem.W.Frag) (a : Addr) : Prop where
  ex : ∃ (t0 t1 t2 t3 t4 t5 : Tok) (od : Option Addr) (n : Nat) (sl : Array (Option Value)), K.lookup a = some ⟨.type "tuple", od, .seq #[.int 6 t0, .int 4 t1, .int 1 t2, .int 0 t3, .int 1 t4, .int 0 t5] n, sl⟩
theorem NumAt.sq {K : PySem.W.Frag} {a : Addr} (h : NumAt K a) (H : Hp) : SqT K H a [.int 6, .int 4, .int 1, .int 0, .int 1, .int 0] := by
  obtain ⟨t0, t1, t2, t3, t4, t5, od, n, sl, e⟩ := h.ex
  exact .inr ⟨_, _, _, e, rfl, rfl, by show 6 ≤ sizeLine; decide, .cons ⟨t0, rfl⟩ (.cons ⟨t1, rfl⟩ (.cons ⟨t2, rfl⟩ (.cons ⟨t3, rfl⟩ (.cons ⟨t4, rfl⟩ (.cons ⟨t5, rfl⟩ .nil)))))⟩
section
variable {K : PySem.W.Frag} {mg : Str → Option Value} {h : Heap} {x qual cls : Str} {st : Stmt} {f C : Addr} {ps : List Str}
theorem defg_mk (X : K.In h) (G : h.Ns mainGlobals mg) (a : PySem.W.nsIn K mainGlobals x = some (some (.ref f))) (F : FnAt K x x st f)
    (hb : ∀ (kV doc pm : Value) (an : Option Addr) (cdv ct : Value) (us : List Value), us.length = ps.length → bindArgs (PySem.W.fnOf x x (defArgs st) (defBody st) (defScope st) .none kV doc pm an cdv ct) ⟨us, []⟩ = pure (ps.zip us)) : DefG K mg x st ps := by
  obtain ⟨oc, od, kV, doc, pm, an, cdv, ct, osl, l, c, k⟩ := F.ex
  have F1 := fun_mk (st := st) l c k
  exact ⟨f, _, PySem.W.mg_of X G a, F1, F1.binds hb⟩
theorem defm_mk (a : PySem.W.findIn K (.ref C) x = some (some (.ref f))) (i : PySem.W.isFn K (.ref f) = true) (F : FnAt K x qual st f)
    (hb : ∀ (kV doc pm : Value) (an : Option Addr) (cdv ct : Value) (us : List Value), us.length = ps.length → bindArgs (PySem.W.fnOf x qual (defArgs st) (defBody st) (defScope st) .none kV doc pm an cdv ct) ⟨us, []⟩ = pure (ps.zip us)) : DefM K C x qual st ps := by
  obtain ⟨oc, od, kV, doc, pm, an, cdv, ct, osl, l, c, k⟩ := F.ex
  have F1 := fun_mk (st := st) l c k
  exact ⟨f, _, ⟨a, i, k⟩, F1, F1.binds hb⟩
theorem defc_mk (X : K.In h) (G : h.Ns mainGlobals mg) (a : PySem.W.nsIn K mainGlobals cls = some (some (.ref C))) (M : Mk K C f) (F : FnAt K "__init__" qual st f)
    (hb : ∀ (kV doc pm : Value) (an : Option Addr) (cdv ct : Value) (us : List Value), us.length = ps.length → bindArgs (PySem.W.fnOf "__init__" qual (defArgs st) (defBody st) (defScope st) .none kV doc pm an cdv ct) ⟨us, []⟩ = pure (ps.zip us)) : DefC K mg C cls qual st ps := by
  obtain ⟨oc, od, kV, doc, pm, an, cdv, ct, osl, l, c, k⟩ := F.ex
  have F1 := fun_mk (st := st) l c k
  exact ⟨f, _, PySem.W.mg_of X G a, M, F1, F1.binds hb⟩
end
theorem all_mk {P : Program} {w : World} {K : PySem.W.Frag} {h : Heap} {mg : Str → Option Value} {fa : Addr} (X : K.In h) (G : h.Ns mainGlobals mg) (hfa : mg "answers" = some (.ref fa))
    {aCrate fCrate_init aWish fWish_init aHeap fHeap_init fHeap_put_crate fHeap_melts aMelt fMelt_init fMelt_told fMelt_away aHolder fHolder_init fHolder_hold f_divisor f_lowest f_is_less f_cheapest_of f_nearest_of f_fullest_of f_melt_of f_is_within f_is_share_within f_wrong_with f_wanted_melts f_are_bounds f_begins f_crate f_check f_cheap f_near f_most f_answer f_answers aN : Addr} {t_THOUSAND t_MOST_HEAVY t_MOST_CRATES t0 t1 t2 t3 t4 t5 : Tok} {nN : Nat} {odN : Option Addr} {slN : Array (Option Value)}
    {od_Crate_init an_Crate_init od_Wish_init an_Wish_init od_Heap_init an_Heap_init od_Heap_put_crate an_Heap_put_crate od_Heap_melts an_Heap_melts od_Melt_init an_Melt_init od_Melt_told an_Melt_told od_Melt_away an_Melt_away od_Holder_init an_Holder_init od_Holder_hold an_Holder_hold od_divisor an_divisor od_lowest an_lowest od_is_less an_is_less od_cheapest_of an_cheapest_of od_nearest_of an_nearest_of od_fullest_of an_fullest_of od_melt_of an_melt_of od_is_within an_is_within od_is_share_within an_is_share_within od_wrong_with an_wrong_with od_wanted_melts an_wanted_melts od_are_bounds an_are_bounds od_begins an_begins od_crate an_crate od_check an_check od_cheap an_cheap od_near an_near od_most an_most od_answer an_answer od_answers an_answers : Option Addr}
    {sl_Crate_init sl_Wish_init sl_Heap_init sl_Heap_put_crate sl_Heap_melts sl_Melt_init sl_Melt_told sl_Melt_away sl_Holder_init sl_Holder_hold sl_divisor sl_lowest sl_is_less sl_cheapest_of sl_nearest_of sl_fullest_of sl_melt_of sl_is_within sl_is_share_within sl_wrong_with sl_wanted_melts sl_are_bounds sl_begins sl_crate sl_check sl_cheap sl_near sl_most sl_answer sl_answers : Array (Option Value)}
    {oc_Crate_init kV_Crate_init dc_Crate_init pm_Crate_init cd_Crate_init ct_Crate_init oc_Wish_init kV_Wish_init dc_Wish_init pm_Wish_init cd_Wish_init ct_Wish_init oc_Heap_init kV_Heap_init dc_Heap_init pm_Heap_init cd_Heap_init ct_Heap_init oc_Heap_put_crate kV_Heap_put_crate dc_Heap_put_crate pm_Heap_put_crate cd_Heap_put_crate ct_Heap_put_crate oc_Heap_melts kV_Heap_melts dc_Heap_melts pm_Heap_melts cd_Heap_melts ct_Heap_melts oc_Melt_init kV_Melt_init dc_Melt_init pm_Melt_init cd_Melt_init ct_Melt_init oc_Melt_told kV_Melt_told dc_Melt_told pm_Melt_told cd_Melt_told ct_Melt_told oc_Melt_away kV_Melt_away dc_Melt_away pm_Melt_away cd_Melt_away ct_Melt_away oc_Holder_init kV_Holder_init dc_Holder_init pm_Holder_init cd_Holder_init ct_Holder_init oc_Holder_hold kV_Holder_hold dc_Holder_hold pm_Holder_hold cd_Holder_hold ct_Holder_hold oc_divisor kV_divisor dc_divisor pm_divisor cd_divisor ct_divisor oc_lowest kV_lowest dc_lowest pm_lowest cd_lowest ct_lowest oc_is_less kV_is_less dc_is_less pm_is_less cd_is_less ct_is_less oc_cheapest_of kV_cheapest_of dc_cheapest_of pm_cheapest_of cd_cheapest_of ct_cheapest_of oc_nearest_of kV_nearest_of dc_nearest_of pm_nearest_of cd_nearest_of ct_nearest_of oc_fullest_of kV_fullest_of dc_fullest_of pm_fullest_of cd_fullest_of ct_fullest_of oc_melt_of kV_melt_of dc_melt_of pm_melt_of cd_melt_of ct_melt_of oc_is_within kV_is_within dc_is_within pm_is_within cd_is_within ct_is_within oc_is_share_within kV_is_share_within dc_is_share_within pm_is_share_within cd_is_share_within ct_is_share_within oc_wrong_with kV_wrong_with dc_wrong_with pm_wrong_with cd_wrong_with ct_wrong_with oc_wanted_melts kV_wanted_melts dc_wanted_melts pm_wanted_melts cd_wanted_melts ct_wanted_melts oc_are_bounds kV_are_bounds dc_are_bounds pm_are_bounds cd_are_bounds ct_are_bounds oc_begins kV_begins dc_begins pm_begins cd_begins ct_begins oc_crate kV_crate dc_crate pm_crate cd_crate ct_crate oc_check kV_check dc_check pm_check cd_check ct_check oc_cheap kV_cheap dc_cheap pm_cheap cd_cheap ct_cheap oc_near kV_near dc_near pm_near cd_near ct_near oc_most kV_most dc_most pm_most cd_most ct_most oc_answer kV_answer dc_answer pm_answer cd_answer ct_answer oc_answers kV_answers dc_answers pm_answers cd_answers ct_answers : Value}
    (gCrate : PySem.W.nsIn K mainGlobals "Crate" = some (some (.ref aCrate)))
    (pg_Crate : PySem.W.plainGet K aCrate Str.empty = true)
    (hd_Crate : PySem.W.hasDictIn K aCrate = true)
    (po_Crate : PySem.W.plainOver K aCrate = true)
    (sa_Crate : PySem.W.findIn K (.ref aCrate) "__setattr__" = some (some (.builtin "object.__setattr__")))
    (mk_Crate : PySem.W.makesIn K aCrate = true)
    (kc_Crate : PySem.W.keepIn K (.ref aCrate) = true)
    (nCrate_heavy : PySem.W.findIn K (.ref aCrate) "heavy" = some none)
    (nCrate_copper : PySem.W.findIn K (.ref aCrate) "copper" = some none)
    (nCrate_zinc : PySem.W.findIn K (.ref aCrate) "zinc" = some none)
    (nCrate_price : PySem.W.findIn K (.ref aCrate) "price" = some none)
    (iCrate_init : PySem.W.findIn K (.ref aCrate) "__init__" = some (some (.ref fCrate_init)))
    (jCrate_init : PySem.W.isFn K (.ref fCrate_init) = true)
    (l_Crate_init : K.lookup fCrate_init = some ⟨oc_Crate_init, od_Crate_init, .func (PySem.W.fnOf "__init__" "Crate.__init__" (defArgs sCrateInit) (defBody sCrateInit) (defScope sCrateInit) .none kV_Crate_init dc_Crate_init pm_Crate_init an_Crate_init cd_Crate_init ct_Crate_init), sl_Crate_init⟩)
    (c_Crate_init : PySem.W.codeIn K cd_Crate_init "Crate.__init__" = true)
    (k_Crate_init : PySem.W.keepIn K (.ref fCrate_init) = true)
    (gWish : PySem.W.nsIn K mainGlobals "Wish" = some (some (.ref aWish)))
    (pg_Wish : PySem.W.plainGet K aWish Str.empty = true)
    (hd_Wish : PySem.W.hasDictIn K aWish = true)
    (po_Wish : PySem.W.plainOver K aWish = true)
    (sa_Wish : PySem.W.findIn K (.ref aWish) "__setattr__" = some (some (.builtin "object.__setattr__")))
    (mk_Wish : PySem.W.makesIn K aWish = true)
    (kc_Wish : PySem.W.keepIn K (.ref aWish) = true)
    (nWish_heavy : PySem.W.findIn K (.ref aWish) "heavy" = some none)
    (nWish_copper : PySem.W.findIn K (.ref aWish) "copper" = some none)
    (nWish_zinc : PySem.W.findIn K (.ref aWish) "zinc" = some none)
    (iWish_init : PySem.W.findIn K (.ref aWish) "__init__" = some (some (.ref fWish_init)))
    (jWish_init : PySem.W.isFn K (.ref fWish_init) = true)
    (l_Wish_init : K.lookup fWish_init = some ⟨oc_Wish_init, od_Wish_init, .func (PySem.W.fnOf "__init__" "Wish.__init__" (defArgs sWishInit) (defBody sWishInit) (defScope sWishInit) .none kV_Wish_init dc_Wish_init pm_Wish_init an_Wish_init cd_Wish_init ct_Wish_init), sl_Wish_init⟩)
    (c_Wish_init : PySem.W.codeIn K cd_Wish_init "Wish.__init__" = true)
    (k_Wish_init : PySem.W.keepIn K (.ref fWish_init) = true)
    (gHeap : PySem.W.nsIn K mainGlobals "Heap" = some (some (.ref aHeap)))
    (pg_Heap : PySem.W.plainGet K aHeap Str.empty = true)
    (hd_Heap : PySem.W.hasDictIn K aHeap = true)
    (po_Heap : PySem.W.plainOver K aHeap = true)
    (sa_Heap : PySem.W.findIn K (.ref aHeap) "__setattr__" = some (some (.builtin "object.__setattr__")))
    (mk_Heap : PySem.W.makesIn K aHeap = true)
    (kc_Heap : PySem.W.keepIn K (.ref aHeap) = true)
    (nHeap_wish : PySem.W.findIn K (.ref aHeap) "wish" = some none)
    (nHeap_crates : PySem.W.findIn K (.ref aHeap) "crates" = some none)
    (iHeap_init : PySem.W.findIn K (.ref aHeap) "__init__" = some (some (.ref fHeap_init)))
    (jHeap_init : PySem.W.isFn K (.ref fHeap_init) = true)
    (l_Heap_init : K.lookup fHeap_init = some ⟨oc_Heap_init, od_Heap_init, .func (PySem.W.fnOf "__init__" "Heap.__init__" (defArgs sHeapInit) (defBody sHeapInit) (defScope sHeapInit) .none kV_Heap_init dc_Heap_init pm_Heap_init an_Heap_init cd_Heap_init ct_Heap_init), sl_Heap_init⟩)
    (c_Heap_init : PySem.W.codeIn K cd_Heap_init "Heap.__init__" = true)
    (k_Heap_init : PySem.W.keepIn K (.ref fHeap_init) = true)
    (iHeap_put_crate : PySem.W.findIn K (.ref aHeap) "put_crate" = some (some (.ref fHeap_put_crate)))
    (jHeap_put_crate : PySem.W.isFn K (.ref fHeap_put_crate) = true)
    (l_Heap_put_crate : K.lookup fHeap_put_crate = some ⟨oc_Heap_put_crate, od_Heap_put_crate, .func (PySem.W.fnOf "put_crate" "Heap.put_crate" (defArgs sPutCrate) (defBody sPutCrate) (defScope sPutCrate) .none kV_Heap_put_crate dc_Heap_put_crate pm_Heap_put_crate an_Heap_put_crate cd_Heap_put_crate ct_Heap_put_crate), sl_Heap_put_crate⟩)
    (c_Heap_put_crate : PySem.W.codeIn K cd_Heap_put_crate "Heap.put_crate" = true)
    (k_Heap_put_crate : PySem.W.keepIn K (.ref fHeap_put_crate) = true)
    (iHeap_melts : PySem.W.findIn K (.ref aHeap) "melts" = some (some (.ref fHeap_melts)))
    (jHeap_melts : PySem.W.isFn K (.ref fHeap_melts) = true)
    (l_Heap_melts : K.lookup fHeap_melts = some ⟨oc_Heap_melts, od_Heap_melts, .func (PySem.W.fnOf "melts" "Heap.melts" (defArgs sMelts) (defBody sMelts) (defScope sMelts) .none kV_Heap_melts dc_Heap_melts pm_Heap_melts an_Heap_melts cd_Heap_melts ct_Heap_melts), sl_Heap_melts⟩)
    (c_Heap_melts : PySem.W.codeIn K cd_Heap_melts "Heap.melts" = true)
    (k_Heap_melts : PySem.W.keepIn K (.ref fHeap_melts) = true)
    (gMelt : PySem.W.nsIn K mainGlobals "Melt" = some (some (.ref aMelt)))
    (pg_Melt : PySem.W.plainGet K aMelt Str.empty = true)
    (hd_Melt : PySem.W.hasDictIn K aMelt = true)
    (po_Melt : PySem.W.plainOver K aMelt = true)
    (sa_Melt : PySem.W.findIn K (.ref aMelt) "__setattr__" = some (some (.builtin "object.__setattr__")))
    (mk_Melt : PySem.W.makesIn K aMelt = true)
    (kc_Melt : PySem.W.keepIn K (.ref aMelt) = true)
    (nMelt_number : PySem.W.findIn K (.ref aMelt) "number" = some none)
    (nMelt_many : PySem.W.findIn K (.ref aMelt) "many" = some none)
    (nMelt_heavy : PySem.W.findIn K (.ref aMelt) "heavy" = some none)
    (nMelt_copper : PySem.W.findIn K (.ref aMelt) "copper" = some none)
    (nMelt_zinc : PySem.W.findIn K (.ref aMelt) "zinc" = some none)
    (nMelt_cost : PySem.W.findIn K (.ref aMelt) "cost" = some none)
    (iMelt_init : PySem.W.findIn K (.ref aMelt) "__init__" = some (some (.ref fMelt_init)))
    (jMelt_init : PySem.W.isFn K (.ref fMelt_init) = true)
    (l_Melt_init : K.lookup fMelt_init = some ⟨oc_Melt_init, od_Melt_init, .func (PySem.W.fnOf "__init__" "Melt.__init__" (defArgs sMeltInit) (defBody sMeltInit) (defScope sMeltInit) .none kV_Melt_init dc_Melt_init pm_Melt_init an_Melt_init cd_Melt_init ct_Melt_init), sl_Melt_init⟩)
    (c_Melt_init : PySem.W.codeIn K cd_Melt_init "Melt.__init__" = true)
    (k_Melt_init : PySem.W.keepIn K (.ref fMelt_init) = true)
    (iMelt_told : PySem.W.findIn K (.ref aMelt) "told" = some (some (.ref fMelt_told)))
    (jMelt_told : PySem.W.isFn K (.ref fMelt_told) = true)
    (l_Melt_told : K.lookup fMelt_told = some ⟨oc_Melt_told, od_Melt_told, .func (PySem.W.fnOf "told" "Melt.told" (defArgs sTold) (defBody sTold) (defScope sTold) .none kV_Melt_told dc_Melt_told pm_Melt_told an_Melt_told cd_Melt_told ct_Melt_told), sl_Melt_told⟩)
    (c_Melt_told : PySem.W.codeIn K cd_Melt_told "Melt.told" = true)
    (k_Melt_told : PySem.W.keepIn K (.ref fMelt_told) = true)
    (iMelt_away : PySem.W.findIn K (.ref aMelt) "away" = some (some (.ref fMelt_away)))
    (jMelt_away : PySem.W.isFn K (.ref fMelt_away) = true)
    (l_Melt_away : K.lookup fMelt_away = some ⟨oc_Melt_away, od_Melt_away, .func (PySem.W.fnOf "away" "Melt.away" (defArgs sAway) (defBody sAway) (defScope sAway) .none kV_Melt_away dc_Melt_away pm_Melt_away an_Melt_away cd_Melt_away ct_Melt_away), sl_Melt_away⟩)
    (c_Melt_away : PySem.W.codeIn K cd_Melt_away "Melt.away" = true)
    (k_Melt_away : PySem.W.keepIn K (.ref fMelt_away) = true)
    (gHolder : PySem.W.nsIn K mainGlobals "Holder" = some (some (.ref aHolder)))
    (pg_Holder : PySem.W.plainGet K aHolder Str.empty = true)
    (hd_Holder : PySem.W.hasDictIn K aHolder = true)
    (po_Holder : PySem.W.plainOver K aHolder = true)
    (sa_Holder : PySem.W.findIn K (.ref aHolder) "__setattr__" = some (some (.builtin "object.__setattr__")))
    (mk_Holder : PySem.W.makesIn K aHolder = true)
    (kc_Holder : PySem.W.keepIn K (.ref aHolder) = true)
    (nHolder_heap : PySem.W.findIn K (.ref aHolder) "heap" = some none)
    (iHolder_init : PySem.W.findIn K (.ref aHolder) "__init__" = some (some (.ref fHolder_init)))
    (jHolder_init : PySem.W.isFn K (.ref fHolder_init) = true)
    (l_Holder_init : K.lookup fHolder_init = some ⟨oc_Holder_init, od_Holder_init, .func (PySem.W.fnOf "__init__" "Holder.__init__" (defArgs sHolderInit) (defBody sHolderInit) (defScope sHolderInit) .none kV_Holder_init dc_Holder_init pm_Holder_init an_Holder_init cd_Holder_init ct_Holder_init), sl_Holder_init⟩)
    (c_Holder_init : PySem.W.codeIn K cd_Holder_init "Holder.__init__" = true)
    (k_Holder_init : PySem.W.keepIn K (.ref fHolder_init) = true)
    (iHolder_hold : PySem.W.findIn K (.ref aHolder) "hold" = some (some (.ref fHolder_hold)))
    (jHolder_hold : PySem.W.isFn K (.ref fHolder_hold) = true)
    (l_Holder_hold : K.lookup fHolder_hold = some ⟨oc_Holder_hold, od_Holder_hold, .func (PySem.W.fnOf "hold" "Holder.hold" (defArgs sHold) (defBody sHold) (defScope sHold) .none kV_Holder_hold dc_Holder_hold pm_Holder_hold an_Holder_hold cd_Holder_hold ct_Holder_hold), sl_Holder_hold⟩)
    (c_Holder_hold : PySem.W.codeIn K cd_Holder_hold "Holder.hold" = true)
    (k_Holder_hold : PySem.W.keepIn K (.ref fHolder_hold) = true)
    (g_divisor : PySem.W.nsIn K mainGlobals "divisor" = some (some (.ref f_divisor)))
    (l_divisor : K.lookup f_divisor = some ⟨oc_divisor, od_divisor, .func (PySem.W.fnOf "divisor" "divisor" (defArgs sDivisor) (defBody sDivisor) (defScope sDivisor) .none kV_divisor dc_divisor pm_divisor an_divisor cd_divisor ct_divisor), sl_divisor⟩)
    (c_divisor : PySem.W.codeIn K cd_divisor "divisor" = true)
    (k_divisor : PySem.W.keepIn K (.ref f_divisor) = true)
    (g_lowest : PySem.W.nsIn K mainGlobals "lowest" = some (some (.ref f_lowest)))
    (l_lowest : K.lookup f_lowest = some ⟨oc_lowest, od_lowest, .func (PySem.W.fnOf "lowest" "lowest" (defArgs sLowest) (defBody sLowest) (defScope sLowest) .none kV_lowest dc_lowest pm_lowest an_lowest cd_lowest ct_lowest), sl_lowest⟩)
    (c_lowest : PySem.W.codeIn K cd_lowest "lowest" = true)
    (k_lowest : PySem.W.keepIn K (.ref f_lowest) = true)
    (g_is_less : PySem.W.nsIn K mainGlobals "is_less" = some (some (.ref f_is_less)))
    (l_is_less : K.lookup f_is_less = some ⟨oc_is_less, od_is_less, .func (PySem.W.fnOf "is_less" "is_less" (defArgs sIsLess) (defBody sIsLess) (defScope sIsLess) .none kV_is_less dc_is_less pm_is_less an_is_less cd_is_less ct_is_less), sl_is_less⟩)
    (c_is_less : PySem.W.codeIn K cd_is_less "is_less" = true)
    (k_is_less : PySem.W.keepIn K (.ref f_is_less) = true)
    (g_cheapest_of : PySem.W.nsIn K mainGlobals "cheapest_of" = some (some (.ref f_cheapest_of)))
    (l_cheapest_of : K.lookup f_cheapest_of = some ⟨oc_cheapest_of, od_cheapest_of, .func (PySem.W.fnOf "cheapest_of" "cheapest_of" (defArgs sCheapestOf) (defBody sCheapestOf) (defScope sCheapestOf) .none kV_cheapest_of dc_cheapest_of pm_cheapest_of an_cheapest_of cd_cheapest_of ct_cheapest_of), sl_cheapest_of⟩)
    (c_cheapest_of : PySem.W.codeIn K cd_cheapest_of "cheapest_of" = true)
    (k_cheapest_of : PySem.W.keepIn K (.ref f_cheapest_of) = true)
    (g_nearest_of : PySem.W.nsIn K mainGlobals "nearest_of" = some (some (.ref f_nearest_of)))
    (l_nearest_of : K.lookup f_nearest_of = some ⟨oc_nearest_of, od_nearest_of, .func (PySem.W.fnOf "nearest_of" "nearest_of" (defArgs sNearestOf) (defBody sNearestOf) (defScope sNearestOf) .none kV_nearest_of dc_nearest_of pm_nearest_of an_nearest_of cd_nearest_of ct_nearest_of), sl_nearest_of⟩)
    (c_nearest_of : PySem.W.codeIn K cd_nearest_of "nearest_of" = true)
    (k_nearest_of : PySem.W.keepIn K (.ref f_nearest_of) = true)
    (g_fullest_of : PySem.W.nsIn K mainGlobals "fullest_of" = some (some (.ref f_fullest_of)))
    (l_fullest_of : K.lookup f_fullest_of = some ⟨oc_fullest_of, od_fullest_of, .func (PySem.W.fnOf "fullest_of" "fullest_of" (defArgs sFullestOf) (defBody sFullestOf) (defScope sFullestOf) .none kV_fullest_of dc_fullest_of pm_fullest_of an_fullest_of cd_fullest_of ct_fullest_of), sl_fullest_of⟩)
    (c_fullest_of : PySem.W.codeIn K cd_fullest_of "fullest_of" = true)
    (k_fullest_of : PySem.W.keepIn K (.ref f_fullest_of) = true)
    (g_melt_of : PySem.W.nsIn K mainGlobals "melt_of" = some (some (.ref f_melt_of)))
    (l_melt_of : K.lookup f_melt_of = some ⟨oc_melt_of, od_melt_of, .func (PySem.W.fnOf "melt_of" "melt_of" (defArgs sMeltOf) (defBody sMeltOf) (defScope sMeltOf) .none kV_melt_of dc_melt_of pm_melt_of an_melt_of cd_melt_of ct_melt_of), sl_melt_of⟩)
    (c_melt_of : PySem.W.codeIn K cd_melt_of "melt_of" = true)
    (k_melt_of : PySem.W.keepIn K (.ref f_melt_of) = true)
    (g_is_within : PySem.W.nsIn K mainGlobals "is_within" = some (some (.ref f_is_within)))
    (l_is_within : K.lookup f_is_within = some ⟨oc_is_within, od_is_within, .func (PySem.W.fnOf "is_within" "is_within" (defArgs sIsWithin) (defBody sIsWithin) (defScope sIsWithin) .none kV_is_within dc_is_within pm_is_within an_is_within cd_is_within ct_is_within), sl_is_within⟩)
    (c_is_within : PySem.W.codeIn K cd_is_within "is_within" = true)
    (k_is_within : PySem.W.keepIn K (.ref f_is_within) = true)
    (g_is_share_within : PySem.W.nsIn K mainGlobals "is_share_within" = some (some (.ref f_is_share_within)))
    (l_is_share_within : K.lookup f_is_share_within = some ⟨oc_is_share_within, od_is_share_within, .func (PySem.W.fnOf "is_share_within" "is_share_within" (defArgs sIsShareWithin) (defBody sIsShareWithin) (defScope sIsShareWithin) .none kV_is_share_within dc_is_share_within pm_is_share_within an_is_share_within cd_is_share_within ct_is_share_within), sl_is_share_within⟩)
    (c_is_share_within : PySem.W.codeIn K cd_is_share_within "is_share_within" = true)
    (k_is_share_within : PySem.W.keepIn K (.ref f_is_share_within) = true)
    (g_wrong_with : PySem.W.nsIn K mainGlobals "wrong_with" = some (some (.ref f_wrong_with)))
    (l_wrong_with : K.lookup f_wrong_with = some ⟨oc_wrong_with, od_wrong_with, .func (PySem.W.fnOf "wrong_with" "wrong_with" (defArgs sWrongWith) (defBody sWrongWith) (defScope sWrongWith) .none kV_wrong_with dc_wrong_with pm_wrong_with an_wrong_with cd_wrong_with ct_wrong_with), sl_wrong_with⟩)
    (c_wrong_with : PySem.W.codeIn K cd_wrong_with "wrong_with" = true)
    (k_wrong_with : PySem.W.keepIn K (.ref f_wrong_with) = true)
    (g_wanted_melts : PySem.W.nsIn K mainGlobals "wanted_melts" = some (some (.ref f_wanted_melts)))
    (l_wanted_melts : K.lookup f_wanted_melts = some ⟨oc_wanted_melts, od_wanted_melts, .func (PySem.W.fnOf "wanted_melts" "wanted_melts" (defArgs sWantedMelts) (defBody sWantedMelts) (defScope sWantedMelts) .none kV_wanted_melts dc_wanted_melts pm_wanted_melts an_wanted_melts cd_wanted_melts ct_wanted_melts), sl_wanted_melts⟩)
    (c_wanted_melts : PySem.W.codeIn K cd_wanted_melts "wanted_melts" = true)
    (k_wanted_melts : PySem.W.keepIn K (.ref f_wanted_melts) = true)
    (g_are_bounds : PySem.W.nsIn K mainGlobals "are_bounds" = some (some (.ref f_are_bounds)))
    (l_are_bounds : K.lookup f_are_bounds = some ⟨oc_are_bounds, od_are_bounds, .func (PySem.W.fnOf "are_bounds" "are_bounds" (defArgs sAreBounds) (defBody sAreBounds) (defScope sAreBounds) .none kV_are_bounds dc_are_bounds pm_are_bounds an_are_bounds cd_are_bounds ct_are_bounds), sl_are_bounds⟩)
    (c_are_bounds : PySem.W.codeIn K cd_are_bounds "are_bounds" = true)
    (k_are_bounds : PySem.W.keepIn K (.ref f_are_bounds) = true)
    (g_begins : PySem.W.nsIn K mainGlobals "begins" = some (some (.ref f_begins)))
    (l_begins : K.lookup f_begins = some ⟨oc_begins, od_begins, .func (PySem.W.fnOf "begins" "begins" (defArgs sBegins) (defBody sBegins) (defScope sBegins) .none kV_begins dc_begins pm_begins an_begins cd_begins ct_begins), sl_begins⟩)
    (c_begins : PySem.W.codeIn K cd_begins "begins" = true)
    (k_begins : PySem.W.keepIn K (.ref f_begins) = true)
    (g_crate : PySem.W.nsIn K mainGlobals "crate" = some (some (.ref f_crate)))
    (l_crate : K.lookup f_crate = some ⟨oc_crate, od_crate, .func (PySem.W.fnOf "crate" "crate" (defArgs sCrate) (defBody sCrate) (defScope sCrate) .none kV_crate dc_crate pm_crate an_crate cd_crate ct_crate), sl_crate⟩)
    (c_crate : PySem.W.codeIn K cd_crate "crate" = true)
    (k_crate : PySem.W.keepIn K (.ref f_crate) = true)
    (g_check : PySem.W.nsIn K mainGlobals "check" = some (some (.ref f_check)))
    (l_check : K.lookup f_check = some ⟨oc_check, od_check, .func (PySem.W.fnOf "check" "check" (defArgs sCheck) (defBody sCheck) (defScope sCheck) .none kV_check dc_check pm_check an_check cd_check ct_check), sl_check⟩)
    (c_check : PySem.W.codeIn K cd_check "check" = true)
    (k_check : PySem.W.keepIn K (.ref f_check) = true)
    (g_cheap : PySem.W.nsIn K mainGlobals "cheap" = some (some (.ref f_cheap)))
    (l_cheap : K.lookup f_cheap = some ⟨oc_cheap, od_cheap, .func (PySem.W.fnOf "cheap" "cheap" (defArgs sCheap) (defBody sCheap) (defScope sCheap) .none kV_cheap dc_cheap pm_cheap an_cheap cd_cheap ct_cheap), sl_cheap⟩)
    (c_cheap : PySem.W.codeIn K cd_cheap "cheap" = true)
    (k_cheap : PySem.W.keepIn K (.ref f_cheap) = true)
    (g_near : PySem.W.nsIn K mainGlobals "near" = some (some (.ref f_near)))
    (l_near : K.lookup f_near = some ⟨oc_near, od_near, .func (PySem.W.fnOf "near" "near" (defArgs sNear) (defBody sNear) (defScope sNear) .none kV_near dc_near pm_near an_near cd_near ct_near), sl_near⟩)
    (c_near : PySem.W.codeIn K cd_near "near" = true)
    (k_near : PySem.W.keepIn K (.ref f_near) = true)
    (g_most : PySem.W.nsIn K mainGlobals "most" = some (some (.ref f_most)))
    (l_most : K.lookup f_most = some ⟨oc_most, od_most, .func (PySem.W.fnOf "most" "most" (defArgs sMost) (defBody sMost) (defScope sMost) .none kV_most dc_most pm_most an_most cd_most ct_most), sl_most⟩)
    (c_most : PySem.W.codeIn K cd_most "most" = true)
    (k_most : PySem.W.keepIn K (.ref f_most) = true)
    (g_answer : PySem.W.nsIn K mainGlobals "answer" = some (some (.ref f_answer)))
    (l_answer : K.lookup f_answer = some ⟨oc_answer, od_answer, .func (PySem.W.fnOf "answer" "answer" (defArgs sAnswer) (defBody sAnswer) (defScope sAnswer) .none kV_answer dc_answer pm_answer an_answer cd_answer ct_answer), sl_answer⟩)
    (c_answer : PySem.W.codeIn K cd_answer "answer" = true)
    (k_answer : PySem.W.keepIn K (.ref f_answer) = true)
    (g_answers : PySem.W.nsIn K mainGlobals "answers" = some (some (.ref f_answers)))
    (l_answers : K.lookup f_answers = some ⟨oc_answers, od_answers, .func (PySem.W.fnOf "answers" "answers" (defArgs sAnswers) (defBody sAnswers) (defScope sAnswers) .none kV_answers dc_answers pm_answers an_answers cd_answers ct_answers), sl_answers⟩)
    (c_answers : PySem.W.codeIn K cd_answers "answers" = true)
    (k_answers : PySem.W.keepIn K (.ref f_answers) = true)
    (z_len : PySem.W.nsIn K mainGlobals "len" = some none)
    (z_list : PySem.W.nsIn K mainGlobals "list" = some none)
    (z_range : PySem.W.nsIn K mainGlobals "range" = some none)
    (z_sum : PySem.W.nsIn K mainGlobals "sum" = some none)
    (z_abs : PySem.W.nsIn K mainGlobals "abs" = some none)
    (z_enumerate : PySem.W.nsIn K mainGlobals "enumerate" = some none)
    (z_min : PySem.W.nsIn K mainGlobals "min" = some none)
    (z_max : PySem.W.nsIn K mainGlobals "max" = some none)
    (v_THOUSAND : PySem.W.nsIn K mainGlobals "THOUSAND" = some (some (.int 1000 t_THOUSAND)))
    (v_MOST_HEAVY : PySem.W.nsIn K mainGlobals "MOST_HEAVY" = some (some (.int 200 t_MOST_HEAVY)))
    (v_MOST_CRATES : PySem.W.nsIn K mainGlobals "MOST_CRATES" = some (some (.int 8 t_MOST_CRATES)))
    (v_NUMBERS : PySem.W.nsIn K mainGlobals "NUMBERS" = some (some (.ref aN)))
    (l_NUMBERS : K.lookup aN = some ⟨.type "tuple", odN, .seq #[.int 6 t0, .int 4 t1, .int 1 t2, .int 0 t3, .int 1 t4, .int 0 t5] nN, slN⟩)
    : ∃ fd : FuncData, (∀ (s : Shared) (us : List Value), us.length = (["calls"] : List Str).length → BindsTo s fd ⟨us, []⟩ ((["calls"] : List Str).zip us)) ∧ ∀ base : Heap, K.In base → base.Ns mainGlobals mg → FnOk P w K mg base CX0 7 fa fd ["calls"] (spAnswers K) := by
  have e := hfa.symm.trans (PySem.W.mg_of X G g_answers)
  cases e
  have cCrate : ClsAt K aCrate := ⟨pg_Crate, hd_Crate, po_Crate, sa_Crate, mk_Crate, kc_Crate⟩
  have cWish : ClsAt K aWish := ⟨pg_Wish, hd_Wish, po_Wish, sa_Wish, mk_Wish, kc_Wish⟩
  have cHeap : ClsAt K aHeap := ⟨pg_Heap, hd_Heap, po_Heap, sa_Heap, mk_Heap, kc_Heap⟩
  have cMelt : ClsAt K aMelt := ⟨pg_Melt, hd_Melt, po_Melt, sa_Melt, mk_Melt, kc_Melt⟩
  have cHolder : ClsAt K aHolder := ⟨pg_Holder, hd_Holder, po_Holder, sa_Holder, mk_Holder, kc_Holder⟩
  have T : Txt K mg ⟨aCrate, aWish, aHeap, aMelt, aHolder⟩ := { cC := cCrate.cls, cW := cWish.cls, cH := cHeap.cls, cM := cMelt.cls, cO := cHolder.cls, nC := ⟨nCrate_heavy, nCrate_copper, nCrate_zinc, nCrate_price⟩, nW := ⟨nWish_heavy, nWish_copper, nWish_zinc⟩, nH := ⟨nHeap_wish, nHeap_crates⟩, nM := ⟨nMelt_number, nMelt_many, nMelt_heavy, nMelt_copper, nMelt_zinc, nMelt_cost⟩, nO := nHolder_heap, len := PySem.W.mg_none_of X G z_len, list := PySem.W.mg_none_of X G z_list, range := PySem.W.mg_none_of X G z_range, sum := PySem.W.mg_none_of X G z_sum, abs := PySem.W.mg_none_of X G z_abs, enumerate := PySem.W.mg_none_of X G z_enumerate, min := PySem.W.mg_none_of X G z_min, max := PySem.W.mg_none_of X G z_max, thousand := ⟨_, PySem.W.mg_of X G v_THOUSAND⟩, mostHeavy := ⟨_, PySem.W.mg_of X G v_MOST_HEAVY⟩, mostCrates := ⟨_, PySem.W.mg_of X G v_MOST_CRATES⟩, numbers := ⟨_, PySem.W.mg_of X G v_NUMBERS, (NumAt.mk ⟨_, _, _, _, _, _, _, _, _, l_NUMBERS⟩).sq⟩ }
  have n_Crate_init : FnAt K "__init__" "Crate.__init__" sCrateInit fCrate_init := ⟨⟨_, _, _, _, _, _, _, _, _, l_Crate_init, c_Crate_init, k_Crate_init⟩⟩
  have dCrate : DefC K mg aCrate "Crate" "Crate.__init__" sCrateInit ["self", "heavy", "copper", "zinc", "price"] := defc_mk X G gCrate ⟨cCrate.mks, iCrate_init, jCrate_init, cCrate.kc⟩ n_Crate_init (fun _ _ _ _ _ _ us hl => match us, hl with | [_, _, _, _, _], _ => rfl)
  have n_Wish_init : FnAt K "__init__" "Wish.__init__" sWishInit fWish_init := ⟨⟨_, _, _, _, _, _, _, _, _, l_Wish_init, c_Wish_init, k_Wish_init⟩⟩
  have dWish : DefC K mg aWish "Wish" "Wish.__init__" sWishInit ["self", "heavy", "copper", "zinc"] := defc_mk X G gWish ⟨cWish.mks, iWish_init, jWish_init, cWish.kc⟩ n_Wish_init (fun _ _ _ _ _ _ us hl => match us, hl with | [_, _, _, _], _ => rfl)
  have n_Heap_init : FnAt K "__init__" "Heap.__init__" sHeapInit fHeap_init := ⟨⟨_, _, _, _, _, _, _, _, _, l_Heap_init, c_Heap_init, k_Heap_init⟩⟩
  have dHeap : DefC K mg aHeap "Heap" "Heap.__init__" sHeapInit ["self", "wish"] := defc_mk X G gHeap ⟨cHeap.mks, iHeap_init, jHeap_init, cHeap.kc⟩ n_Heap_init (fun _ _ _ _ _ _ us hl => match us, hl with | [_, _], _ => rfl)
  have n_Heap_put_crate : FnAt K "put_crate" "Heap.put_crate" sPutCrate fHeap_put_crate := ⟨⟨_, _, _, _, _, _, _, _, _, l_Heap_put_crate, c_Heap_put_crate, k_Heap_put_crate⟩⟩
  have dHeap_put_crate : DefM K aHeap "put_crate" "Heap.put_crate" sPutCrate ["self", "crate"] := defm_mk iHeap_put_crate jHeap_put_crate n_Heap_put_crate (fun _ _ _ _ _ _ us hl => match us, hl with | [_, _], _ => rfl)
  have n_Heap_melts : FnAt K "melts" "Heap.melts" sMelts fHeap_melts := ⟨⟨_, _, _, _, _, _, _, _, _, l_Heap_melts, c_Heap_melts, k_Heap_melts⟩⟩
  have dHeap_melts : DefM K aHeap "melts" "Heap.melts" sMelts ["self"] := defm_mk iHeap_melts jHeap_melts n_Heap_melts (fun _ _ _ _ _ _ us hl => match us, hl with | [_], _ => rfl)
  have n_Melt_init : FnAt K "__init__" "Melt.__init__" sMeltInit fMelt_init := ⟨⟨_, _, _, _, _, _, _, _, _, l_Melt_init, c_Melt_init, k_Melt_init⟩⟩
  have dMelt : DefC K mg aMelt "Melt" "Melt.__init__" sMeltInit ["self", "number", "some"] := defc_mk X G gMelt ⟨cMelt.mks, iMelt_init, jMelt_init, cMelt.kc⟩ n_Melt_init (fun _ _ _ _ _ _ us hl => match us, hl with | [_, _, _], _ => rfl)
  have n_Melt_told : FnAt K "told" "Melt.told" sTold fMelt_told := ⟨⟨_, _, _, _, _, _, _, _, _, l_Melt_told, c_Melt_told, k_Melt_told⟩⟩
  have dMelt_told : DefM K aMelt "told" "Melt.told" sTold ["self"] := defm_mk iMelt_told jMelt_told n_Melt_told (fun _ _ _ _ _ _ us hl => match us, hl with | [_], _ => rfl)
  have n_Melt_away : FnAt K "away" "Melt.away" sAway fMelt_away := ⟨⟨_, _, _, _, _, _, _, _, _, l_Melt_away, c_Melt_away, k_Melt_away⟩⟩
  have dMelt_away : DefM K aMelt "away" "Melt.away" sAway ["self", "thousandths"] := defm_mk iMelt_away jMelt_away n_Melt_away (fun _ _ _ _ _ _ us hl => match us, hl with | [_, _], _ => rfl)
  have n_Holder_init : FnAt K "__init__" "Holder.__init__" sHolderInit fHolder_init := ⟨⟨_, _, _, _, _, _, _, _, _, l_Holder_init, c_Holder_init, k_Holder_init⟩⟩
  have dHolder : DefC K mg aHolder "Holder" "Holder.__init__" sHolderInit ["self"] := defc_mk X G gHolder ⟨cHolder.mks, iHolder_init, jHolder_init, cHolder.kc⟩ n_Holder_init (fun _ _ _ _ _ _ us hl => match us, hl with | [_], _ => rfl)
  have n_Holder_hold : FnAt K "hold" "Holder.hold" sHold fHolder_hold := ⟨⟨_, _, _, _, _, _, _, _, _, l_Holder_hold, c_Holder_hold, k_Holder_hold⟩⟩
  have dHolder_hold : DefM K aHolder "hold" "Holder.hold" sHold ["self", "heap"] := defm_mk iHolder_hold jHolder_hold n_Holder_hold (fun _ _ _ _ _ _ us hl => match us, hl with | [_, _], _ => rfl)
  have n_divisor : FnAt K "divisor" "divisor" sDivisor f_divisor := ⟨⟨_, _, _, _, _, _, _, _, _, l_divisor, c_divisor, k_divisor⟩⟩
  have d_divisor : DefG K mg "divisor" sDivisor ["one", "other"] := defg_mk X G g_divisor n_divisor (fun _ _ _ _ _ _ us hl => match us, hl with | [_, _], _ => rfl)
  have n_lowest : FnAt K "lowest" "lowest" sLowest f_lowest := ⟨⟨_, _, _, _, _, _, _, _, _, l_lowest, c_lowest, k_lowest⟩⟩
  have d_lowest : DefG K mg "lowest" sLowest ["top", "bottom"] := defg_mk X G g_lowest n_lowest (fun _ _ _ _ _ _ us hl => match us, hl with | [_, _], _ => rfl)
  have n_is_less : FnAt K "is_less" "is_less" sIsLess f_is_less := ⟨⟨_, _, _, _, _, _, _, _, _, l_is_less, c_is_less, k_is_less⟩⟩
  have d_is_less : DefG K mg "is_less" sIsLess ["one", "other"] := defg_mk X G g_is_less n_is_less (fun _ _ _ _ _ _ us hl => match us, hl with | [_, _], _ => rfl)
  have n_cheapest_of : FnAt K "cheapest_of" "cheapest_of" sCheapestOf f_cheapest_of := ⟨⟨_, _, _, _, _, _, _, _, _, l_cheapest_of, c_cheapest_of, k_cheapest_of⟩⟩
  have d_cheapest_of : DefG K mg "cheapest_of" sCheapestOf ["some"] := defg_mk X G g_cheapest_of n_cheapest_of (fun _ _ _ _ _ _ us hl => match us, hl with | [_], _ => rfl)
  have n_nearest_of : FnAt K "nearest_of" "nearest_of" sNearestOf f_nearest_of := ⟨⟨_, _, _, _, _, _, _, _, _, l_nearest_of, c_nearest_of, k_nearest_of⟩⟩
  have d_nearest_of : DefG K mg "nearest_of" sNearestOf ["some", "thousandths"] := defg_mk X G g_nearest_of n_nearest_of (fun _ _ _ _ _ _ us hl => match us, hl with | [_, _], _ => rfl)
  have n_fullest_of : FnAt K "fullest_of" "fullest_of" sFullestOf f_fullest_of := ⟨⟨_, _, _, _, _, _, _, _, _, l_fullest_of, c_fullest_of, k_fullest_of⟩⟩
  have d_fullest_of : DefG K mg "fullest_of" sFullestOf ["some"] := defg_mk X G g_fullest_of n_fullest_of (fun _ _ _ _ _ _ us hl => match us, hl with | [_], _ => rfl)
  have n_melt_of : FnAt K "melt_of" "melt_of" sMeltOf f_melt_of := ⟨⟨_, _, _, _, _, _, _, _, _, l_melt_of, c_melt_of, k_melt_of⟩⟩
  have d_melt_of : DefG K mg "melt_of" sMeltOf ["heap", "number"] := defg_mk X G g_melt_of n_melt_of (fun _ _ _ _ _ _ us hl => match us, hl with | [_, _], _ => rfl)
  have n_is_within : FnAt K "is_within" "is_within" sIsWithin f_is_within := ⟨⟨_, _, _, _, _, _, _, _, _, l_is_within, c_is_within, k_is_within⟩⟩
  have d_is_within : DefG K mg "is_within" sIsWithin ["number", "bounds"] := defg_mk X G g_is_within n_is_within (fun _ _ _ _ _ _ us hl => match us, hl with | [_, _], _ => rfl)
  have n_is_share_within : FnAt K "is_share_within" "is_share_within" sIsShareWithin f_is_share_within := ⟨⟨_, _, _, _, _, _, _, _, _, l_is_share_within, c_is_share_within, k_is_share_within⟩⟩
  have d_is_share_within : DefG K mg "is_share_within" sIsShareWithin ["part", "heavy", "bounds"] := defg_mk X G g_is_share_within n_is_share_within (fun _ _ _ _ _ _ us hl => match us, hl with | [_, _, _], _ => rfl)
  have n_wrong_with : FnAt K "wrong_with" "wrong_with" sWrongWith f_wrong_with := ⟨⟨_, _, _, _, _, _, _, _, _, l_wrong_with, c_wrong_with, k_wrong_with⟩⟩
  have d_wrong_with : DefG K mg "wrong_with" sWrongWith ["heap", "melt"] := defg_mk X G g_wrong_with n_wrong_with (fun _ _ _ _ _ _ us hl => match us, hl with | [_, _], _ => rfl)
  have n_wanted_melts : FnAt K "wanted_melts" "wanted_melts" sWantedMelts f_wanted_melts := ⟨⟨_, _, _, _, _, _, _, _, _, l_wanted_melts, c_wanted_melts, k_wanted_melts⟩⟩
  have d_wanted_melts : DefG K mg "wanted_melts" sWantedMelts ["heap"] := defg_mk X G g_wanted_melts n_wanted_melts (fun _ _ _ _ _ _ us hl => match us, hl with | [_], _ => rfl)
  have n_are_bounds : FnAt K "are_bounds" "are_bounds" sAreBounds f_are_bounds := ⟨⟨_, _, _, _, _, _, _, _, _, l_are_bounds, c_are_bounds, k_are_bounds⟩⟩
  have d_are_bounds : DefG K mg "are_bounds" sAreBounds ["least", "most", "lowest"] := defg_mk X G g_are_bounds n_are_bounds (fun _ _ _ _ _ _ us hl => match us, hl with | [_, _, _], _ => rfl)
  have n_begins : FnAt K "begins" "begins" sBegins f_begins := ⟨⟨_, _, _, _, _, _, _, _, _, l_begins, c_begins, k_begins⟩⟩
  have d_begins : DefG K mg "begins" sBegins ["holder", "told"] := defg_mk X G g_begins n_begins (fun _ _ _ _ _ _ us hl => match us, hl with | [_, _], _ => rfl)
  have n_crate : FnAt K "crate" "crate" sCrate f_crate := ⟨⟨_, _, _, _, _, _, _, _, _, l_crate, c_crate, k_crate⟩⟩
  have d_crate : DefG K mg "crate" sCrate ["heap", "told"] := defg_mk X G g_crate n_crate (fun _ _ _ _ _ _ us hl => match us, hl with | [_, _], _ => rfl)
  have n_check : FnAt K "check" "check" sCheck f_check := ⟨⟨_, _, _, _, _, _, _, _, _, l_check, c_check, k_check⟩⟩
  have d_check : DefG K mg "check" sCheck ["heap", "number"] := defg_mk X G g_check n_check (fun _ _ _ _ _ _ us hl => match us, hl with | [_, _], _ => rfl)
  have n_cheap : FnAt K "cheap" "cheap" sCheap f_cheap := ⟨⟨_, _, _, _, _, _, _, _, _, l_cheap, c_cheap, k_cheap⟩⟩
  have d_cheap : DefG K mg "cheap" sCheap ["heap"] := defg_mk X G g_cheap n_cheap (fun _ _ _ _ _ _ us hl => match us, hl with | [_], _ => rfl)
  have n_near : FnAt K "near" "near" sNear f_near := ⟨⟨_, _, _, _, _, _, _, _, _, l_near, c_near, k_near⟩⟩
  have d_near : DefG K mg "near" sNear ["heap", "thousandths"] := defg_mk X G g_near n_near (fun _ _ _ _ _ _ us hl => match us, hl with | [_, _], _ => rfl)
  have n_most : FnAt K "most" "most" sMost f_most := ⟨⟨_, _, _, _, _, _, _, _, _, l_most, c_most, k_most⟩⟩
  have d_most : DefG K mg "most" sMost ["heap"] := defg_mk X G g_most n_most (fun _ _ _ _ _ _ us hl => match us, hl with | [_], _ => rfl)
  have n_answer : FnAt K "answer" "answer" sAnswer f_answer := ⟨⟨_, _, _, _, _, _, _, _, _, l_answer, c_answer, k_answer⟩⟩
  have d_answer : DefG K mg "answer" sAnswer ["holder", "call", "told"] := defg_mk X G g_answer n_answer (fun _ _ _ _ _ _ us hl => match us, hl with | [_, _, _], _ => rfl)
  have n_answers : FnAt K "answers" "answers" sAnswers _ := ⟨⟨_, _, _, _, _, _, _, _, _, l_answers, c_answers, k_answers⟩⟩
  obtain ⟨oc, od, kV, doc, pm, an, cdv, ct, osl, l, c, k⟩ := n_answers.ex
  have F1 := fun_mk (st := sAnswers) l c k
  refine ⟨PySem.W.fnOf "answers" "answers" (defArgs sAnswers) (defBody sAnswers) (defScope sAnswers) .none kV doc pm an cdv ct, fun s us hu => match us, hu with | [_], _ => .of_eq rfl, fun base _ _ => ?_⟩
  have o_divisor := ok_divisor (P := P) (w := w) (base := base) d_divisor
  have o_lowest := ok_lowest d_lowest o_divisor
  have o_is_less := ok_is_less (P := P) (w := w) (base := base) d_is_less
  have o_told := ok_told T dMelt_told o_lowest
  have o_away := ok_away T dMelt_away o_lowest
  have o_MeltInit := ok_MeltInit (P := P) (w := w) (base := base) T dMelt
  have o_CrateInit := ok_CrateInit (P := P) (w := w) (base := base) T dCrate
  have o_WishInit := ok_WishInit (P := P) (w := w) (base := base) T dWish
  have o_HeapInit := ok_HeapInit (P := P) (w := w) (base := base) T dHeap
  have o_put_crate := ok_put_crate (P := P) (w := w) (base := base) T dHeap_put_crate
  have o_melts := ok_melts (P := P) (w := w) (base := base) T dHeap_melts
  have o_melt_of := ok_melt_of T d_melt_of o_MeltInit
  have o_is_within := ok_is_within (P := P) (w := w) (base := base) d_is_within
  have o_is_share := ok_is_share (P := P) (w := w) (base := base) d_is_share_within
  have o_wrong_with := ok_wrong_with T d_wrong_with o_is_within o_is_share
  have o_wanted_melts := ok_wanted_melts T d_wanted_melts o_melts o_melt_of o_wrong_with
  have o_cheapest_of := ok_cheapest_of (P := P) (w := w) (base := base) T d_cheapest_of
  have o_fullest_of := ok_fullest_of (P := P) (w := w) (base := base) T d_fullest_of
  have o_nearest_of := ok_nearest_of T d_nearest_of o_away o_is_less
  have o_HolderInit := ok_HolderInit T dHolder o_HeapInit o_WishInit
  have o_hold := ok_hold (P := P) (w := w) (base := base) T dHolder_hold
  have o_are_bounds := ok_are_bounds (P := P) (w := w) (base := base) T d_are_bounds
  have o_begins := ok_begins T d_begins o_are_bounds o_HeapInit o_WishInit o_hold
  have o_crate := ok_crate T d_crate o_CrateInit o_put_crate
  have o_check := ok_check T d_check o_melt_of o_wrong_with o_told
  have o_cheap := ok_cheap T d_cheap o_wanted_melts o_cheapest_of
  have o_near := ok_near T d_near o_wanted_melts o_nearest_of o_away
  have o_most := ok_most T d_most o_wanted_melts o_fullest_of
  have o_answer := ok_answer T d_answer o_begins o_crate o_check o_cheap o_near o_most
  exact ok_answers T F1 o_HolderInit o_answer
end Scw
open PySem PySem.W PyProof.Rows
set_option maxRecDepth 100000 in
set_option maxHeartbeats 8000000 in
theorem PySem.Challenge.cw_scrapcrates_s01_answers_holds : PySem.Challenge.rw_scrapcrates_s01_answers.Holds := by
  w_on; k_headS; (case hw => exact ⟨[.list [.int 5]], by decide +kernel, by decide +kernel⟩)
  k_fillS
  refine L2.walk_specK (r := PySem.Challenge.rw_scrapcrates_s01_answers) (k := 7) (CX := L2.CX0) (ps := ["calls"]) (sp := Scw.spAnswers) (by decide +kernel) rfl rfl ⟨rfl, by decide, by decide⟩ (fun w h Y => PySem.W.kIn_of Y) ?F ?S (fun _ _ _ _ z => z)
  case F =>
    intro w mg fa h Y KX G hmg
    refine' Scw.all_mk KX G hmg ?gCrate ?pg_Crate ?hd_Crate ?po_Crate ?sa_Crate ?mk_Crate ?kc_Crate ?nCrate_heavy ?nCrate_copper ?nCrate_zinc ?nCrate_price ?iCrate_init ?jCrate_init ?l_Crate_init ?c_Crate_init ?k_Crate_init ?gWish ?pg_Wish ?hd_Wish ?po_Wish ?sa_Wish ?mk_Wish ?kc_Wish ?nWish_heavy ?nWish_copper ?nWish_zinc ?iWish_init ?jWish_init ?l_Wish_init ?c_Wish_init ?k_Wish_init ?gHeap ?pg_Heap ?hd_Heap ?po_Heap ?sa_Heap ?mk_Heap ?kc_Heap ?nHeap_wish ?nHeap_crates ?iHeap_init ?jHeap_init ?l_Heap_init ?c_Heap_init ?k_Heap_init ?iHeap_put_crate ?jHeap_put_crate ?l_Heap_put_crate ?c_Heap_put_crate ?k_Heap_put_crate ?iHeap_melts ?jHeap_melts ?l_Heap_melts ?c_Heap_melts ?k_Heap_melts ?gMelt ?pg_Melt ?hd_Melt ?po_Melt ?sa_Melt ?mk_Melt ?kc_Melt ?nMelt_number ?nMelt_many ?nMelt_heavy ?nMelt_copper ?nMelt_zinc ?nMelt_cost ?iMelt_init ?jMelt_init ?l_Melt_init ?c_Melt_init ?k_Melt_init ?iMelt_told ?jMelt_told ?l_Melt_told ?c_Melt_told ?k_Melt_told ?iMelt_away ?jMelt_away ?l_Melt_away ?c_Melt_away ?k_Melt_away ?gHolder ?pg_Holder ?hd_Holder ?po_Holder ?sa_Holder ?mk_Holder ?kc_Holder ?nHolder_heap ?iHolder_init ?jHolder_init ?l_Holder_init ?c_Holder_init ?k_Holder_init ?iHolder_hold ?jHolder_hold ?l_Holder_hold ?c_Holder_hold ?k_Holder_hold ?g_divisor ?l_divisor ?c_divisor ?k_divisor ?g_lowest ?l_lowest ?c_lowest ?k_lowest ?g_is_less ?l_is_less ?c_is_less ?k_is_less ?g_cheapest_of ?l_cheapest_of ?c_cheapest_of ?k_cheapest_of ?g_nearest_of ?l_nearest_of ?c_nearest_of ?k_nearest_of ?g_fullest_of ?l_fullest_of ?c_fullest_of ?k_fullest_of ?g_melt_of ?l_melt_of ?c_melt_of ?k_melt_of ?g_is_within ?l_is_within ?c_is_within ?k_is_within ?g_is_share_within ?l_is_share_within ?c_is_share_within ?k_is_share_within ?g_wrong_with ?l_wrong_with ?c_wrong_with ?k_wrong_with ?g_wanted_melts ?l_wanted_melts ?c_wanted_melts ?k_wanted_melts ?g_are_bounds ?l_are_bounds ?c_are_bounds ?k_are_bounds ?g_begins ?l_begins ?c_begins ?k_begins ?g_crate ?l_crate ?c_crate ?k_crate ?g_check ?l_check ?c_check ?k_check ?g_cheap ?l_cheap ?c_cheap ?k_cheap ?g_near ?l_near ?c_near ?k_near ?g_most ?l_most ?c_most ?k_most ?g_answer ?l_answer ?c_answer ?k_answer ?g_answers ?l_answers ?c_answers ?k_answers ?z_len ?z_list ?z_range ?z_sum ?z_abs ?z_enumerate ?z_min ?z_max ?v_THOUSAND ?v_MOST_HEAVY ?v_MOST_CRATES ?v_NUMBERS ?l_NUMBERS
    (case gCrate => k_is)
    (case pg_Crate => k_is)
    (case hd_Crate => k_is)
    (case po_Crate => k_is)
    (case sa_Crate => k_is)
    (case mk_Crate => k_is)
    (case kc_Crate => k_is)
    (case nCrate_heavy => k_is)
    (case nCrate_copper => k_is)
    (case nCrate_zinc => k_is)
    (case nCrate_price => k_is)
    (case iCrate_init => k_is)
    (case jCrate_init => k_is)
    (case l_Crate_init => k_is)
    (case c_Crate_init => k_is)
    (case k_Crate_init => k_is)
    (case gWish => k_is)
    (case pg_Wish => k_is)
    (case hd_Wish => k_is)
    (case po_Wish => k_is)
    (case sa_Wish => k_is)
    (case mk_Wish => k_is)
    (case kc_Wish => k_is)
    (case nWish_heavy => k_is)
    (case nWish_copper => k_is)
    (case nWish_zinc => k_is)
    (case iWish_init => k_is)
    (case jWish_init => k_is)
    (case l_Wish_init => k_is)
    (case c_Wish_init => k_is)
    (case k_Wish_init => k_is)
    (case gHeap => k_is)
    (case pg_Heap => k_is)
    (case hd_Heap => k_is)
    (case po_Heap => k_is)
    (case sa_Heap => k_is)
    (case mk_Heap => k_is)
    (case kc_Heap => k_is)
    (case nHeap_wish => k_is)
    (case nHeap_crates => k_is)
    (case iHeap_init => k_is)
    (case jHeap_init => k_is)
    (case l_Heap_init => k_is)
    (case c_Heap_init => k_is)
    (case k_Heap_init => k_is)
    (case iHeap_put_crate => k_is)
    (case jHeap_put_crate => k_is)
    (case l_Heap_put_crate => k_is)
    (case c_Heap_put_crate => k_is)
    (case k_Heap_put_crate => k_is)
    (case iHeap_melts => k_is)
    (case jHeap_melts => k_is)
    (case l_Heap_melts => k_is)
    (case c_Heap_melts => k_is)
    (case k_Heap_melts => k_is)
    (case gMelt => k_is)
    (case pg_Melt => k_is)
    (case hd_Melt => k_is)
    (case po_Melt => k_is)
    (case sa_Melt => k_is)
    (case mk_Melt => k_is)
    (case kc_Melt => k_is)
    (case nMelt_number => k_is)
    (case nMelt_many => k_is)
    (case nMelt_heavy => k_is)
    (case nMelt_copper => k_is)
    (case nMelt_zinc => k_is)
    (case nMelt_cost => k_is)
    (case iMelt_init => k_is)
    (case jMelt_init => k_is)
    (case l_Melt_init => k_is)
    (case c_Melt_init => k_is)
    (case k_Melt_init => k_is)
    (case iMelt_told => k_is)
    (case jMelt_told => k_is)
    (case l_Melt_told => k_is)
    (case c_Melt_told => k_is)
    (case k_Melt_told => k_is)
    (case iMelt_away => k_is)
    (case jMelt_away => k_is)
    (case l_Melt_away => k_is)
    (case c_Melt_away => k_is)
    (case k_Melt_away => k_is)
    (case gHolder => k_is)
    (case pg_Holder => k_is)
    (case hd_Holder => k_is)
    (case po_Holder => k_is)
    (case sa_Holder => k_is)
    (case mk_Holder => k_is)
    (case kc_Holder => k_is)
    (case nHolder_heap => k_is)
    (case iHolder_init => k_is)
    (case jHolder_init => k_is)
    (case l_Holder_init => k_is)
    (case c_Holder_init => k_is)
    (case k_Holder_init => k_is)
    (case iHolder_hold => k_is)
    (case jHolder_hold => k_is)
    (case l_Holder_hold => k_is)
    (case c_Holder_hold => k_is)
    (case k_Holder_hold => k_is)
    (case g_divisor => k_is)
    (case l_divisor => k_is)
    (case c_divisor => k_is)
    (case k_divisor => k_is)
    (case g_lowest => k_is)
    (case l_lowest => k_is)
    (case c_lowest => k_is)
    (case k_lowest => k_is)
    (case g_is_less => k_is)
    (case l_is_less => k_is)
    (case c_is_less => k_is)
    (case k_is_less => k_is)
    (case g_cheapest_of => k_is)
    (case l_cheapest_of => k_is)
    (case c_cheapest_of => k_is)
    (case k_cheapest_of => k_is)
    (case g_nearest_of => k_is)
    (case l_nearest_of => k_is)
    (case c_nearest_of => k_is)
    (case k_nearest_of => k_is)
    (case g_fullest_of => k_is)
    (case l_fullest_of => k_is)
    (case c_fullest_of => k_is)
    (case k_fullest_of => k_is)
    (case g_melt_of => k_is)
    (case l_melt_of => k_is)
    (case c_melt_of => k_is)
    (case k_melt_of => k_is)
    (case g_is_within => k_is)
    (case l_is_within => k_is)
    (case c_is_within => k_is)
    (case k_is_within => k_is)
    (case g_is_share_within => k_is)
    (case l_is_share_within => k_is)
    (case c_is_share_within => k_is)
    (case k_is_share_within => k_is)
    (case g_wrong_with => k_is)
    (case l_wrong_with => k_is)
    (case c_wrong_with => k_is)
    (case k_wrong_with => k_is)
    (case g_wanted_melts => k_is)
    (case l_wanted_melts => k_is)
    (case c_wanted_melts => k_is)
    (case k_wanted_melts => k_is)
    (case g_are_bounds => k_is)
    (case l_are_bounds => k_is)
    (case c_are_bounds => k_is)
    (case k_are_bounds => k_is)
    (case g_begins => k_is)
    (case l_begins => k_is)
    (case c_begins => k_is)
    (case k_begins => k_is)
    (case g_crate => k_is)
    (case l_crate => k_is)
    (case c_crate => k_is)
    (case k_crate => k_is)
    (case g_check => k_is)
    (case l_check => k_is)
    (case c_check => k_is)
    (case k_check => k_is)
    (case g_cheap => k_is)
    (case l_cheap => k_is)
    (case c_cheap => k_is)
    (case k_cheap => k_is)
    (case g_near => k_is)
    (case l_near => k_is)
    (case c_near => k_is)
    (case k_near => k_is)
    (case g_most => k_is)
    (case l_most => k_is)
    (case c_most => k_is)
    (case k_most => k_is)
    (case g_answer => k_is)
    (case l_answer => k_is)
    (case c_answer => k_is)
    (case k_answer => k_is)
    (case g_answers => k_is)
    (case l_answers => k_is)
    (case c_answers => k_is)
    (case k_answers => k_is)
    (case z_len => k_is)
    (case z_list => k_is)
    (case z_range => k_is)
    (case z_sum => k_is)
    (case z_abs => k_is)
    (case z_enumerate => k_is)
    (case z_min => k_is)
    (case z_max => k_is)
    (case v_THOUSAND => k_is)
    (case v_MOST_HEAVY => k_is)
    (case v_MOST_CRATES => k_is)
    (case v_NUMBERS => k_is)
    (case l_NUMBERS => k_is)
  case S =>
    intro K H xs a hO hwi hask hx
    cases hx with
    | cons h1 h2 =>
      cases h2
      cases h1 with
      | lst hs ha =>
        have e := L2.ints_dw a.1 _ ha
        subst e
        have q : ((Codec.inLen 0 30000 a.1 && a.1.all (Codec.inInt 0 4294967295)) && true) = true := hwi
        rw [Bool.and_eq_true, Bool.and_eq_true] at q
        exact ⟨_, a.1, rfl, hs, (Codec.inNat_iff.mp q.1.1).2, hask, fun H' p hp => .lst (L2.SqL.of hp) (L2.dw_ints _)⟩
#print axioms PySem.Challenge.cw_scrapcrates_s01_answers_holds
